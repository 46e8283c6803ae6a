import PyProof.Rows.All
import Wide.All
import OpenK.AllK
import Wide.FinOn
import HandS.ForMost
import HandS.ForExc
import HandS.Deep
import KE.KDictKeyed
import KE.KeyNested
import HandS.TupAny
import HandS.TupMul
import HandS.IsInst
import HandS.Conv
import HandS.SortInts
import HandS.Zip
import HandS.Style
import KE.DataMinMax
import HandS.SortKw
import HandS.TupSets
import HandS.HotCalls
import HandS.ExcIs
import HandS.Text
import HandS.Codes
import HandS.Walk
import KE.KDictDisplayH
import KE.KDictSum
import KE.SortData
import PyProof.Rows.TupTab
import HandS.Replace
import KE.RegKIsAll
import PySem.Challenge.RW_cranefloor_k11_read
set_option Elab.async false
set_option linter.all false
set_option maxRecDepth 100000
set_option autoImplicit false
namespace G
open PySem L2
abbrev St := L2.St

/-! ### data: what a value is, read off the tracked heap -/
/-- a floor: its numbers, its bans -/
abbrev flr (m h s : Int) (bs : List PyData) : PyData := .dict [(.int m, .int h), (.int s, .list bs)]
/-- the script -/
abbrev scr (ns : List Int) : PyData := .dict [(.list (ns.map .int), .none)]
abbrev flF (m h s : Int) (b : Addr) : List (Str × V) := [("many", .int m), ("high", .int h), ("strong", .int s), ("banned", .ref b)]
mutual
inductive Rp (K : PySem.W.Frag) (C : Addr) (H : Hp) : V → PyData → Prop
  | non : Rp K C H .non .none
  | bl (b : Bool) : Rp K C H (.bl b) (.bool b)
  | int (i : Int) : Rp K C H (.int i) (.int i)
  | str (x : Str) : Rp K C H (.str x) (.str x)
  | lst {a : Addr} {vs : List V} {ds : List PyData} : H a = some (.lst vs) → RpAll K C H vs ds → Rp K C H (.ref a) (.list ds)
  | tup {a : Addr} {vs : List V} {ds : List PyData} : SqT K H a vs → RpAll K C H vs ds → Rp K C H (.ref a) (.tuple ds)
  | flr {a dx b : Addr} {m h s : Int} {vs : List V} {ds : List PyData} : H a = some (.ins C dx (flF m h s b)) → H b = some (.lst vs) → RpAll K C H vs ds →
      Rp K C H (.ref a) (.dict [(.int m, .int h), (.int s, .list ds)])
  | scr {a : Addr} {ns : List Int} : SqL K H a (ns.map V.int) → Rp K C H (.ref a) (.dict [(.list (ns.map .int), .none)])
inductive RpAll (K : PySem.W.Frag) (C : Addr) (H : Hp) : List V → List PyData → Prop
  | nil : RpAll K C H [] []
  | cons {v : V} {vs : List V} {d : PyData} {ds : List PyData} : Rp K C H v d → RpAll K C H vs ds → RpAll K C H (v :: vs) (d :: ds)
end
theorem Same.sqt {K : PySem.W.Frag} {H H' : Hp} {a : Addr} {xs : List V} (e : Same H H') (h : SqT K H a xs) : SqT K H' a xs := by
  rcases h with (h | ⟨o, h⟩) | h
  · exact .inl (.inl (e _ _ h))
  · exact .inl (.inr ⟨o, e _ _ h⟩)
  · exact .inr h
section
variable {K : PySem.W.Frag} {C : Addr} {H H' : Hp}
mutual
theorem Rp.mono (e : Same H H') : ∀ {v : V} {d : PyData}, Rp K C H v d → Rp K C H' v d
  | _, _, .non => .non
  | _, _, .bl b => .bl b
  | _, _, .int i => .int i
  | _, _, .str x => .str x
  | _, _, .lst h r => .lst (e _ _ h) (RpAll.mono e r)
  | _, _, .tup h r => .tup (Same.sqt e h) (RpAll.mono e r)
  | _, _, .flr h g r => .flr (e _ _ h) (e _ _ g) (RpAll.mono e r)
  | _, _, .scr h => .scr (e.seq h)
theorem RpAll.mono (e : Same H H') : ∀ {v : List V} {d : List PyData}, RpAll K C H v d → RpAll K C H' v d
  | _, _, .nil => .nil
  | _, _, .cons h r => .cons (Rp.mono e h) (RpAll.mono e r)
end
theorem RpAll.length : ∀ {vs : List V} {ds : List PyData}, RpAll K C H vs ds → vs.length = ds.length
  | _, _, .nil => rfl
  | _, _, .cons _ r => congrArg (· + 1) r.length
theorem RpAll.app : ∀ {vs ws : List V} {ds es : List PyData}, RpAll K C H vs ds → RpAll K C H ws es → RpAll K C H (vs ++ ws) (ds ++ es)
  | _, _, _, _, .nil, s => s
  | _, _, _, _, .cons h r, s => .cons h (r.app s)
theorem RpAll.one {v : V} {d : PyData} (h : Rp K C H v d) : RpAll K C H [v] [d] := .cons h .nil
theorem RpAll.get : ∀ {vs : List V} {ds : List PyData} {i : Nat} {d : PyData}, RpAll K C H vs ds → ds[i]? = some d → ∃ v, vs[i]? = some v ∧ Rp K C H v d
  | _, _, _, _, .nil, e => by simp at e
  | _, _, 0, _, .cons h _, e => ⟨_, rfl, by have := Option.some.inj (by simpa using e); subst this; exact h⟩
  | _, _, i + 1, d, .cons _ r, e => by
    obtain ⟨v, h1, h2⟩ := RpAll.get (i := i) (d := d) r (by simpa using e)
    exact ⟨v, by simpa using h1, h2⟩
theorem RpAll.getV : ∀ {vs : List V} {ds : List PyData} {i : Nat} {v : V}, RpAll K C H vs ds → vs[i]? = some v → ∃ d, ds[i]? = some d ∧ Rp K C H v d
  | _, _, _, _, .nil, e => by simp at e
  | _, _, 0, _, .cons h _, e => ⟨_, rfl, by have := Option.some.inj (by simpa using e); subst this; exact h⟩
  | _, _, i + 1, d, .cons _ r, e => by
    obtain ⟨v, h1, h2⟩ := RpAll.getV (i := i) (v := d) r (by simpa using e)
    exact ⟨v, by simpa using h1, h2⟩
theorem RpAll.take : ∀ {vs : List V} {ds : List PyData} (n : Nat), RpAll K C H vs ds → RpAll K C H (vs.take n) (ds.take n)
  | _, _, 0, _ => .nil
  | _, _, _ + 1, .nil => .nil
  | _, _, n + 1, .cons h r => .cons h (r.take n)
theorem RpAll.drop : ∀ {vs : List V} {ds : List PyData} (n : Nat), RpAll K C H vs ds → RpAll K C H (vs.drop n) (ds.drop n)
  | _, _, 0, r => r
  | _, _, _ + 1, .nil => .nil
  | _, _, n + 1, .cons _ r => r.drop n
theorem RpAll.set {v : V} {d : PyData} (h : Rp K C H v d) : ∀ {vs : List V} {ds : List PyData} (i : Nat), RpAll K C H vs ds → RpAll K C H (vs.set i v) (ds.set i d)
  | _, _, _, .nil => .nil
  | _, _, 0, .cons _ r => .cons h r
  | _, _, i + 1, .cons q r => .cons q (r.set h i)
theorem RpAll.erase : ∀ {vs : List V} {ds : List PyData} (i : Nat), RpAll K C H vs ds → RpAll K C H (vs.eraseIdx i) (ds.eraseIdx i)
  | _, _, _, .nil => .nil
  | _, _, 0, .cons _ r => r
  | _, _, i + 1, .cons q r => .cons q (r.erase i)
theorem RpAll.ints : ∀ (ns : List Int), RpAll K C H (ns.map V.int) (ns.map PyData.int)
  | [] => .nil
  | n :: r => .cons (.int n) (RpAll.ints r)
theorem RpAll.intsV : ∀ {ns : List Int} {vs : List V}, RpAll K C H vs (ns.map PyData.int) → vs = ns.map V.int
  | [], _, .nil => rfl
  | n :: r, _, .cons h t => by
    cases h
    rw [RpAll.intsV t] <;> rfl
theorem RpAll.rev : ∀ {vs : List V} {ds : List PyData}, RpAll K C H vs ds → RpAll K C H vs.reverse ds.reverse
  | _, _, .nil => .nil
  | _, _, .cons h r => by
    rw [List.reverse_cons, List.reverse_cons]
    exact (RpAll.rev r).app (.one h)
theorem RpAll.rep : ∀ {vs : List V} {ds : List PyData} (k : Nat), RpAll K C H vs ds → RpAll K C H (List.replicate k vs).flatten (List.replicate k ds).flatten
  | _, _, 0, _ => .nil
  | _, _, k + 1, h => by
    rw [List.replicate_succ, List.replicate_succ, List.flatten_cons, List.flatten_cons]
    exact h.app (h.rep k)
/-- no objects in it -/
inductive Pl : Nat → PyData → Prop
  | non {n} : Pl n .none
  | bl {n b} : Pl n (.bool b)
  | int {n i} : Pl n (.int i)
  | str {n x} : PyData.strOk x = true → Pl n (.str x)
  | lst {n ds} : (∀ d ∈ ds, Pl n d) → Pl (n + 1) (.list ds)
  | tup {n ds} : (∀ d ∈ ds, Pl n d) → Pl (n + 1) (.tuple ds)
mutual
theorem Rp.dp : ∀ {v : V} {d : PyData}, Rp K C H v d → d.canLay0 = true → Dp K H v d
  | _, _, .non, _ => .non
  | _, _, .bl b, _ => .bl b
  | _, _, .int i, _ => .int i
  | _, _, .str x, _ => .str x
  | _, _, .lst h r, q => .lst (SqL.of h) (RpAll.dp r (by simpa [PyData.canLay0] using q))
  | _, _, .tup h r, q => .tup h (RpAll.dp r (by simpa [PyData.canLay0] using q))
  | _, _, .flr _ _ _, q => by simp [PyData.canLay0] at q
  | _, _, .scr _, q => by simp [PyData.canLay0] at q
theorem RpAll.dp : ∀ {v : List V} {d : List PyData}, RpAll K C H v d → PyData.canLayAll0 d = true → DpAll K H v d
  | _, _, .nil, _ => .nil
  | _, _, .cons h r, q => by
    simp only [PyData.canLayAll0, Bool.and_eq_true] at q
    obtain ⟨q1, q2⟩ := q
    exact .cons (Rp.dp h q1) (RpAll.dp r q2)
end
end
theorem canAll : ∀ {ds : List PyData}, (∀ d ∈ ds, d.canLay0 = true) → PyData.canLayAll0 ds = true
  | [], _ => by simp [PyData.canLayAll0]
  | d :: ds, h => by
    simp only [PyData.canLayAll0, Bool.and_eq_true]
    exact ⟨h d List.mem_cons_self, canAll fun e he => h e (List.mem_cons_of_mem _ he)⟩
theorem depAll : ∀ {n : Nat} {ds : List PyData}, (∀ d ∈ ds, d.depth ≤ n) → PyData.depthAll ds ≤ n
  | _, [], _ => by simp [PyData.depthAll]
  | n, d :: ds, h => by
    have h1 := h d List.mem_cons_self
    have h2 := depAll (n := n) (ds := ds) fun e he => h e (List.mem_cons_of_mem _ he)
    simp only [PyData.depthAll]
    omega
theorem Pl.lay : ∀ {n : Nat} {d : PyData}, Pl n d → d.canLay0 = true ∧ d.depth ≤ n := by
  intro n d h
  induction h with
  | non => simp [PyData.canLay0, PyData.depth]
  | bl => simp [PyData.canLay0, PyData.depth]
  | int => simp [PyData.canLay0, PyData.depth]
  | str hx => simp [PyData.canLay0, PyData.depth, hx]
  | lst _ ih =>
    refine ⟨by simp only [PyData.canLay0]; exact canAll fun d hd => (ih d hd).1, ?_⟩
    have := depAll fun d hd => (ih d hd).2
    simp only [PyData.depth]
    omega
  | tup _ ih =>
    refine ⟨by simp only [PyData.canLay0]; exact canAll fun d hd => (ih d hd).1, ?_⟩
    have := depAll fun d hd => (ih d hd).2
    simp only [PyData.depth]
    omega
theorem Pl.shaped {n : Nat} {d : PyData} (h : Pl n d) (hn : n ≤ 64) : SeqAt.shaped d = true := by
  have q := h.lay
  show (d.canLay0 && decide (d.depth ≤ 64)) = true
  rw [Bool.and_eq_true]
  exact ⟨q.1, decide_eq_true (Nat.le_trans q.2 hn)⟩
theorem Pl.mono {n m : Nat} {d : PyData} (h : Pl n d) (hn : n ≤ m) : Pl m d := by
  induction h generalizing m with
  | non => exact .non
  | bl => exact .bl
  | int => exact .int
  | str hx => exact .str hx
  | lst _ ih =>
    cases m with
    | zero => omega
    | succ m => exact .lst fun d hd => ih d hd (by omega)
  | tup _ ih =>
    cases m with
    | zero => omega
    | succ m => exact .tup fun d hd => ih d hd (by omega)
theorem Pl.map {α : Type} {n : Nat} {f : α → PyData} {xs : List α} (h : ∀ x ∈ xs, Pl n (f x)) : ∀ d ∈ xs.map f, Pl n d := fun d hd => by
  obtain ⟨x, hx, e⟩ := List.mem_map.mp hd
  subst e
  exact h x hx

/-! ### the heap grows: F what is known for good, H the whole -/
structure Grow (F H F' H' : Hp) : Prop where
  hh : Same H H'
  ff : Same F F'
  fh : Same F' H'
  own : ∀ a o, H a = some o → F a = none → F' a = none
theorem Grow.refl {F H : Hp} (h : Same F H) : Grow F H F H := ⟨Same.refl _, Same.refl _, h, fun _ _ _ e => e⟩
theorem Grow.trans {F H F1 H1 F2 H2 : Hp} (a : Grow F H F1 H1) (b : Grow F1 H1 F2 H2) : Grow F H F2 H2 :=
  ⟨a.hh.trans b.hh, a.ff.trans b.ff, b.fh, fun x o h n => b.own x o (a.hh x o h) (a.own x o h n)⟩
theorem Same.new {H : Hp} {p : Addr} {o : HO} (h : H p = none) : Same H (upd H p o) := fun a u e => by
  rw [upd_ne (ne_of_none e h)]
  exact e
/-- a new thing, known for good -/
theorem Grow.new {F H : Hp} {p : Addr} {o : HO} (e : Same F H) (h : H p = none) : Grow F H (upd F p o) (upd H p o) where
  hh := Same.new h
  ff := Same.new (e.free h)
  fh := fun a u q => by
    by_cases ha : a = p
    · subst ha; rw [upd_same] at q ⊢; exact q
    · rw [upd_ne ha] at q ⊢; exact e a u q
  own := fun a u q n => by rw [upd_ne (ne_of_none q h)]; exact n
/-- a new thing that may change -/
theorem Grow.newO {F H : Hp} {p : Addr} {o : HO} (e : Same F H) (h : H p = none) : Grow F H F (upd H p o) where
  hh := Same.new h
  ff := Same.refl _
  fh := e.trans (Same.new h)
  own := fun _ _ _ n => n
/-- .. known for good from now on -/
theorem Grow.keep {F H F' H' : Hp} {p : Addr} {o : HO} (g : Grow F H F' H') (h : H p = Option.none) (n : F' p = Option.none) (q : H' p = some o) : Grow F H (upd F' p o) H' where
  hh := g.hh
  ff := g.ff.trans (Same.new n)
  fh := fun a u e => by
    by_cases ha : a = p
    · subst ha; rw [upd_same] at e; rw [q]; exact e
    · rw [upd_ne ha] at e; exact g.fh a u e
  own := fun a u e m => by rw [upd_ne (ne_of_none e h)]; exact g.own a u e m

/-! ### the state of a body, by slots -/
/-- F0, H0: at the def's entry; Fp: pinned besides (within a loop) -/
structure Bs where
  C : Addr
  F0 : Hp
  H0 : Hp
  Fp : Hp
/-- a standing as a key of a dict -/
abbrev Stg := List (List Int)
abbrev stD (S : Stg) : PyData := .tuple (S.map fun r => .tuple (r.map .int))
def nk (S : Stg) : NestedKey := .tup (S.map fun r => .tup (r.map .num))
def dEnt (w : World) (x : NestedKey × Addr × Value) : DictEntry := ⟨NestedKey.hash w x.1, .ref x.2.1, x.2.2⟩
/-- one entry of the tracked dict, one of the dict's own -/
def EntR (e : Stg × Addr × V) (x : NestedKey × Addr × Value) : Prop := x.1 = nk e.1 ∧ x.2.1 = e.2.1 ∧ RelV e.2.2 x.2.2
/-- a dict of standings, by its own object alone -/
def dicP (w : World) (d : Addr) (ep : Nat) (es : List (Stg × Addr × V)) : Heap → Prop := fun h =>
  (d == sysModules) = false ∧ es.length ≤ sizeLine ∧ ∃ (xs : List (NestedKey × Addr × Value)) (o : Obj) (arr : Array DictEntry), Paired EntR es xs ∧ h.get? d = some o ∧ o.ExactDict ∧ o.data = .dict arr ep ∧ arr.toList = xs.map (dEnt w) ∧ (xs.map (·.1)).Nodup
abbrev dicO (w : World) (d : Addr) (ep : Nat) (es : List (Stg × Addr × V)) : HO := .ext (dicP w d ep es)
/-- what the dict's entries are told to be; the keys' own tuples are known for good -/
def DicAt (K : PySem.W.Frag) (C : Addr) (w : World) (F H : Hp) (d : Addr) (kvs : List (Stg × V)) : Prop := ∃ (ep : Nat) (es : List (Stg × Addr × V)), H d = some (dicO w d ep es) ∧ es.map (fun e => (e.1, e.2.2)) = kvs ∧ ∀ e ∈ es, Rp K C F (.ref e.2.1) (stD e.1)
theorem DicAt.mono {K : PySem.W.Frag} {C : Addr} {w : World} {F H F' H' : Hp} {d : Addr} {kvs : List (Stg × V)} (h : DicAt K C w F H d kvs) (f : Same F F') (g : H d = H' d ∨ Same H H') : DicAt K C w F' H' d kvs := by
  obtain ⟨ep, es, e, q, r⟩ := h
  refine ⟨ep, es, ?_, q, fun x hx => (r x hx).mono f⟩
  rcases g with g | g
  · rw [← g]; exact e
  · exact g _ _ e
/-- no dict of standings stands there -/
def NExt (H : Hp) (a : Addr) : Prop := ∀ φ, H a ≠ some (.ext φ)
theorem nx_none {H : Hp} {a : Addr} (h : H a = none) : NExt H a := fun φ e => by rw [h] at e; cases e
theorem nx_lst {H : Hp} {a : Addr} {vs : List V} (h : H a = some (.lst vs)) : NExt H a := fun φ e => by rw [h] at e; cases e
theorem nx_ins {H : Hp} {a c d : Addr} {vs : List (Str × V)} (h : H a = some (.ins c d vs)) : NExt H a := fun φ e => by rw [h] at e; cases e
theorem DicAt.ne {K : PySem.W.Frag} {C : Addr} {w : World} {F H : Hp} {d a : Addr} {kvs : List (Stg × V)} (h : DicAt K C w F H d kvs) (n : NExt H a) : d ≠ a := fun e => by
  obtain ⟨ep, es, q, _⟩ := h
  subst e
  exact n _ q
inductive SD where
  | un
  | dat (d : PyData)
  | own (ds : List PyData)
  | raw (P : V → Hp → Hp → Prop)
  | bor (d : PyData)
  | val (v : V)
  | fro (P : V → Hp → Prop)
  | dic (w : World) (kvs : List (Stg × V))
def SlotOk (K : PySem.W.Frag) (B : Bs) (F H : Hp) : SD → Option (Option V) → Prop
  | .un, _ => True
  | .dat d, o => ∃ v, o = some (some v) ∧ Rp K B.C F v d
  | .own ds, o => ∃ a vs, o = some (some (.ref a)) ∧ B.H0 a = none ∧ F a = none ∧ H a = some (.lst vs) ∧ RpAll K B.C F vs ds
  | .raw P, o => ∃ v, o = some (some v) ∧ ∀ F' H', Grow F H F' H' → P v F' H'
  | .bor d, o => ∃ v, o = some (some v) ∧ Rp K B.C B.H0 v d
  | .val v, o => o = some (some v)
  | .fro P, o => ∃ v, o = some (some v) ∧ ∀ F', Same F F' → P v F'
  | .dic w kvs, o => ∃ a, o = some (some (.ref a)) ∧ B.H0 a = none ∧ F a = none ∧ DicAt K B.C w F H a kvs
structure Sat (K : PySem.W.Frag) (B : Bs) (ss : List SD) (σ : St) (F H : Hp) : Prop where
  g : Grow B.F0 B.H0 F H
  pin : Same B.Fp F
  len : σ.length = ss.length
  slot : ∀ (i : Nat) (sd : SD), ss[i]? = some sd → SlotOk K B F H sd σ[i]?
  ne : ∀ (i j : Nat) (ds es : List PyData), i ≠ j → ss[i]? = some (.own ds) → ss[j]? = some (.own es) → σ[i]? ≠ σ[j]?
section
variable {K : PySem.W.Frag} {B : Bs} {ss : List SD} {σ : St} {F H F' H' : Hp}
theorem SlotOk.grow {sd : SD} {o : Option (Option V)} (h : SlotOk K B F H sd o) (g : Grow F H F' H') : SlotOk K B F' H' sd o := by
  cases sd with
  | un => trivial
  | dat d => obtain ⟨v, e, r⟩ := h; exact ⟨v, e, r.mono g.ff⟩
  | own ds => obtain ⟨a, vs, e, h0, n, q, r⟩ := h; exact ⟨a, vs, e, h0, g.own a _ q n, g.hh a _ q, r.mono g.ff⟩
  | raw P => obtain ⟨v, e, r⟩ := h; exact ⟨v, e, fun F2 H2 g2 => r F2 H2 (g.trans g2)⟩
  | bor d => exact h
  | val v => exact h
  | fro P => obtain ⟨v, e, r⟩ := h; exact ⟨v, e, fun F2 g2 => r F2 (g.ff.trans g2)⟩
  | dic w kvs =>
    obtain ⟨a, e, h0, n, q⟩ := h
    have ⟨ep, es, q1, _⟩ := q
    exact ⟨a, e, h0, g.own a _ q1 n, q.mono g.ff (.inr g.hh)⟩
theorem Sat.grow (h : Sat K B ss σ F H) (g : Grow F H F' H') : Sat K B ss σ F' H' :=
  ⟨h.g.trans g, h.pin.trans g.ff, h.len, fun i sd e => (h.slot i sd e).grow g, h.ne⟩
theorem Sat.fh (h : Sat K B ss σ F H) : Same F H := h.g.fh
theorem Sat.lt (h : Sat K B ss σ F H) {i : Nat} {sd : SD} (e : ss[i]? = some sd) : i < σ.length := by
  rw [h.len]; exact (List.getElem?_eq_some_iff.mp e).1
theorem Sat.set_dat {i : Nat} {v : V} {d : PyData} (h : Sat K B ss σ F H) (r : Rp K B.C F v d) : Sat K B (ss.set i (.dat d)) (σ.set i (some v)) F H where
  g := h.g
  pin := h.pin
  len := by rw [List.length_set, List.length_set]; exact h.len
  slot := fun j sd e => by
    by_cases hj : i = j
    · subst hj
      have hi : i < ss.length := by
        have := (List.getElem?_eq_some_iff.mp e).1
        rwa [List.length_set] at this
      rw [List.getElem?_set_self hi] at e
      cases e
      rw [List.getElem?_set_self (by rw [h.len]; exact hi)]
      exact ⟨v, rfl, r⟩
    · rw [List.getElem?_set_ne hj] at e ⊢
      exact h.slot j sd e
  ne := fun j k ds es hjk e1 e2 => by
    have nj : ∀ {k ds}, (ss.set i (.dat d))[k]? = some (.own ds) → i ≠ k := fun {k ds} e q => by
      subst q
      have hi : i < ss.length := by
        have := (List.getElem?_eq_some_iff.mp e).1
        rwa [List.length_set] at this
      rw [List.getElem?_set_self hi] at e
      cases e
    have a := nj e1
    have b := nj e2
    rw [List.getElem?_set_ne a] at e1 ⊢
    rw [List.getElem?_set_ne b] at e2 ⊢
    exact h.ne j k ds es hjk e1 e2
theorem Sat.set_raw {i : Nat} {v : V} {P : V → Hp → Hp → Prop} (h : Sat K B ss σ F H) (r : ∀ F' H', Grow F H F' H' → P v F' H') : Sat K B (ss.set i (.raw P)) (σ.set i (some v)) F H where
  g := h.g
  pin := h.pin
  len := by rw [List.length_set, List.length_set]; exact h.len
  slot := fun j sd e => by
    by_cases hj : i = j
    · subst hj
      have hi : i < ss.length := by
        have := (List.getElem?_eq_some_iff.mp e).1
        rwa [List.length_set] at this
      rw [List.getElem?_set_self hi] at e
      cases e
      rw [List.getElem?_set_self (by rw [h.len]; exact hi)]
      exact ⟨v, rfl, r⟩
    · rw [List.getElem?_set_ne hj] at e ⊢
      exact h.slot j sd e
  ne := fun j k ds es hjk e1 e2 => by
    have nj : ∀ {k ds}, (ss.set i (.raw P))[k]? = some (.own ds) → i ≠ k := fun {k ds} e q => by
      subst q
      have hi : i < ss.length := by
        have := (List.getElem?_eq_some_iff.mp e).1
        rwa [List.length_set] at this
      rw [List.getElem?_set_self hi] at e
      cases e
    have a := nj e1
    have b := nj e2
    rw [List.getElem?_set_ne a] at e1 ⊢
    rw [List.getElem?_set_ne b] at e2 ⊢
    exact h.ne j k ds es hjk e1 e2
theorem Sat.set_val {i : Nat} {v : V} (h : Sat K B ss σ F H) : Sat K B (ss.set i (.val v)) (σ.set i (some v)) F H where
  g := h.g
  pin := h.pin
  len := by rw [List.length_set, List.length_set]; exact h.len
  slot := fun j sd e => by
    by_cases hj : i = j
    · subst hj
      have hi : i < ss.length := by
        have := (List.getElem?_eq_some_iff.mp e).1
        rwa [List.length_set] at this
      rw [List.getElem?_set_self hi] at e
      cases e
      rw [List.getElem?_set_self (by rw [h.len]; exact hi)]
      rfl
    · rw [List.getElem?_set_ne hj] at e ⊢
      exact h.slot j sd e
  ne := fun j k ds es hjk e1 e2 => by
    have nj : ∀ {k ds}, (ss.set i (.val v))[k]? = some (.own ds) → i ≠ k := fun {k ds} e q => by
      subst q
      have hi : i < ss.length := by
        have := (List.getElem?_eq_some_iff.mp e).1
        rwa [List.length_set] at this
      rw [List.getElem?_set_self hi] at e
      cases e
    have a := nj e1
    have b := nj e2
    rw [List.getElem?_set_ne a] at e1 ⊢
    rw [List.getElem?_set_ne b] at e2 ⊢
    exact h.ne j k ds es hjk e1 e2
/-- a slot holds another list of its own, or its list has changed: no other slot's is it -/
theorem Sat.set_own {i : Nat} {a : Addr} {vs : List V} {ds : List PyData} (h : Sat K B ss σ F H) (h0 : B.H0 a = none) (n : F a = none) (q : H a = some (.lst vs)) (r : RpAll K B.C F vs ds)
    (ap : ∀ (j : Nat) (es : List PyData), j ≠ i → ss[j]? = some (.own es) → σ[j]? ≠ some (some (.ref a))) : Sat K B (ss.set i (.own ds)) (σ.set i (some (.ref a))) F H where
  g := h.g
  pin := h.pin
  len := by rw [List.length_set, List.length_set]; exact h.len
  slot := fun j sd e => by
    by_cases hj : i = j
    · subst hj
      have hi : i < ss.length := by
        have := (List.getElem?_eq_some_iff.mp e).1
        rwa [List.length_set] at this
      rw [List.getElem?_set_self hi] at e
      cases e
      rw [List.getElem?_set_self (by rw [h.len]; exact hi)]
      exact ⟨a, vs, rfl, h0, n, q, r⟩
    · rw [List.getElem?_set_ne hj] at e ⊢
      exact h.slot j sd e
  ne := fun j k es fs hjk e1 e2 => by
    have at_ : ∀ {k ds'}, (ss.set i (.own ds))[k]? = some (.own ds') → i ≠ k → ss[k]? = some (.own ds') := fun {k ds'} e q => by
      rw [List.getElem?_set_ne q] at e; exact e
    have self : ∀ {k ds'}, (ss.set i (.own ds))[k]? = some (.own ds') → i = k → (σ.set i (some (.ref a)))[k]? = some (some (.ref a)) := fun {k ds'} e q => by
      subst q
      have hi : i < ss.length := by
        have := (List.getElem?_eq_some_iff.mp e).1
        rwa [List.length_set] at this
      rw [List.getElem?_set_self (by rw [h.len]; exact hi)]
    by_cases a1 : i = j
    · have a2 : i ≠ k := fun z => hjk (a1.symm.trans z)
      rw [self e1 a1, List.getElem?_set_ne a2]
      exact fun z => ap k fs (Ne.symm a2) (at_ e2 a2) z.symm
    · by_cases a2 : i = k
      · rw [self e2 a2, List.getElem?_set_ne a1]
        exact ap j es (Ne.symm a1) (at_ e1 a1)
      · rw [List.getElem?_set_ne a1, List.getElem?_set_ne a2]
        exact h.ne j k es fs hjk (at_ e1 a1) (at_ e2 a2)
/-- weaker slots -/
inductive Wk : List SD → List SD → Prop
  | nil : Wk [] []
  | same {x : SD} {xs ys : List SD} : Wk xs ys → Wk (x :: xs) (x :: ys)
  | un {x : SD} {xs ys : List SD} : Wk xs ys → Wk (x :: xs) (.un :: ys)
theorem Wk.refl : ∀ (ss : List SD), Wk ss ss
  | [] => .nil
  | _ :: r => .same (Wk.refl r)
theorem Wk.length {xs ys : List SD} (h : Wk xs ys) : xs.length = ys.length := by
  induction h with
  | nil => rfl
  | same _ ih => exact congrArg (· + 1) ih
  | un _ ih => exact congrArg (· + 1) ih
theorem Wk.get {xs ys : List SD} (h : Wk xs ys) : ∀ (i : Nat) (sd : SD), ys[i]? = some sd → sd = .un ∨ xs[i]? = some sd := by
  induction h with
  | nil => intro i sd e; simp at e
  | same _ ih =>
    intro i sd e
    cases i with
    | zero => exact .inr e
    | succ i => exact ih i sd (by simpa using e)
  | un _ ih =>
    intro i sd e
    cases i with
    | zero => exact .inl (Option.some.inj (by simpa using e)).symm
    | succ i => exact ih i sd (by simpa using e)
theorem Sat.weak {ss' : List SD} (h : Sat K B ss σ F H) (w : Wk ss ss') : Sat K B ss' σ F H where
  g := h.g
  pin := h.pin
  len := h.len.trans w.length
  slot := fun i sd e => by
    rcases w.get i sd e with z | z
    · subst z; trivial
    · exact h.slot i sd z
  ne := fun i j ds es hij e1 e2 => by
    rcases w.get i _ e1 with z | z
    · cases z
    · rcases w.get j _ e2 with y | y
      · cases y
      · exact h.ne i j ds es hij z y
def noRaw : List SD → Bool
  | [] => true
  | .raw _ :: _ => false
  | _ :: r => noRaw r
theorem noRaw_at : ∀ {ss : List SD} {i : Nat} {P : V → Hp → Hp → Prop}, noRaw ss = true → ss[i]? = some (.raw P) → False
  | [], i, P, _, e => by simp at e
  | x :: r, 0, P, n, e => by
    have e' : x = .raw P := Option.some.inj (by simpa using e)
    subst e'
    simp [noRaw] at n
  | x :: r, i + 1, P, n, e => by
    refine noRaw_at (ss := r) (i := i) (P := P) ?_ (by simpa using e)
    cases x with
    | raw Q => simp [noRaw] at n
    | un => exact n
    | dat d => exact n
    | bor d => exact n
    | val v => exact n
    | fro Q => exact n
    | dic w kvs => exact n
    | own ds => exact n
/-- an unknown place is written: no slot's -/
theorem Sat.upd {a : Addr} {o : HO} (h : Sat K B ss σ F H) (h0 : B.H0 a = none) (n : F a = none) (nr : noRaw ss = true) (ap : ∀ (j : Nat) (es : List PyData), ss[j]? = some (.own es) → σ[j]? ≠ some (some (.ref a)))
    (nx : NExt H a := by first | exact nx_none (by assumption) | exact nx_lst (by assumption)) : Sat K B ss σ F (upd H a o) where
  g := ⟨fun b u e => by rw [upd_ne (ne_of_none e h0)]; exact h.g.hh b u e, h.g.ff, fun b u e => by rw [upd_ne (ne_of_none e n)]; exact h.g.fh b u e, h.g.own⟩
  pin := h.pin
  len := h.len
  slot := fun i sd e => by
    have q := h.slot i sd e
    cases sd with
    | un => trivial
    | dat d => exact q
    | bor d => exact q
    | val v => exact q
    | own ds =>
      obtain ⟨b, vs, e1, b0, nb, hb, r⟩ := q
      refine ⟨b, vs, e1, b0, nb, ?_, r⟩
      have : b ≠ a := fun z => ap i ds e (by rw [e1, z])
      rw [upd_ne this]; exact hb
    | fro P => exact q
    | dic w kvs =>
      obtain ⟨b, e1, b0, nb, hb⟩ := q
      exact ⟨b, e1, b0, nb, hb.mono (Same.refl _) (.inl (upd_ne (hb.ne nx)).symm)⟩
    | raw P => exact (noRaw_at nr e).elim
  ne := h.ne
/-- the own list at slot i has changed -/
theorem Sat.mut {i : Nat} {a : Addr} {vs' : List V} {ds ds' : List PyData} (h : Sat K B ss σ F H) (e : ss[i]? = some (.own ds)) (ea : σ[i]? = some (some (.ref a))) (nr : noRaw ss = true) (r : RpAll K B.C F vs' ds') :
    Sat K B (ss.set i (.own ds')) σ F (L2.upd H a (.lst vs')) := by
  obtain ⟨b, ws, e1, b0, nb, hb, rb⟩ := h.slot i _ e
  rw [ea] at e1
  cases e1
  have hi : i < ss.length := (List.getElem?_eq_some_iff.mp e).1
  have h1 : Sat K B (ss.set i .un) σ F H := by
    refine ⟨h.g, h.pin, by rw [List.length_set]; exact h.len, fun j sd q => ?_, fun j k xs ys hjk q1 q2 => ?_⟩
    · by_cases hj : i = j
      · subst hj
        rw [List.getElem?_set_self hi] at q
        cases q; trivial
      · rw [List.getElem?_set_ne hj] at q
        exact h.slot j sd q
    · have f : ∀ {k : Nat} {xs : List PyData}, (ss.set i .un)[k]? = some (.own xs) → ss[k]? = some (.own xs) := fun {k xs} q => by
        by_cases hk : i = k
        · subst hk; rw [List.getElem?_set_self hi] at q; cases q
        · rw [List.getElem?_set_ne hk] at q; exact q
      exact h.ne j k xs ys hjk (f q1) (f q2)
  have ap : ∀ (j : Nat) (es : List PyData), (ss.set i .un)[j]? = some (.own es) → σ[j]? ≠ some (some (.ref a)) := fun j es q z => by
    by_cases hk : i = j
    · subst hk; rw [List.getElem?_set_self hi] at q; cases q
    · rw [List.getElem?_set_ne hk] at q
      exact h.ne i j ds es hk e q (ea.trans z.symm)
  have nr1 : noRaw (ss.set i .un) = true := by
    clear h1 ap
    clear h e ea
    revert i
    induction ss with
    | nil => intro i hi; simp at hi
    | cons x r ih =>
      intro i hi
      cases i with
      | zero =>
        show noRaw (.un :: r) = true
        cases x with
        | raw Q => simp [noRaw] at nr
        | un => exact nr
        | dat d => exact nr
        | bor d => exact nr
        | val v => exact nr
        | fro Q => exact nr
        | dic w kvs => exact nr
        | own ds => exact nr
      | succ i =>
        have hr : noRaw r = true := by
          cases x with
          | raw Q => simp [noRaw] at nr
          | un => exact nr
          | dat d => exact nr
          | bor d => exact nr
          | val v => exact nr
          | fro Q => exact nr
          | dic w kvs => exact nr
          | own ds => exact nr
        have := ih hr (i := i) (by simpa using hi)
        cases x with
        | raw Q => simp [noRaw] at nr
        | un => exact this
        | dat d => exact this
        | bor d => exact this
        | val v => exact this
        | fro Q => exact this
        | dic w kvs => exact this
        | own ds => exact this
  have h2 := Sat.upd (a := a) (o := .lst vs') h1 b0 nb nr1 ap (nx_lst hb)
  have h3 := Sat.set_own (i := i) (a := a) (vs := vs') (ds := ds') h2 b0 nb upd_same r (fun j es _ q => ap j es q)
  have e3 : σ.set i (some (.ref a)) = σ := by
    apply List.ext_getElem?
    intro k
    by_cases hk : i = k
    · subst hk; rw [List.getElem?_set_self (by rw [h.len]; exact hi), ea]
    · rw [List.getElem?_set_ne hk]
  rw [e3, List.set_set] at h3
  exact h3
/-- a list of one's own is known for good from now on -/
theorem Sat.freeze {i : Nat} {ds : List PyData} (h : Sat K B ss σ F H) (e : ss[i]? = some (.own ds)) (nr : noRaw ss = true) : ∃ F', Sat K B (ss.set i (.dat (.list ds))) σ F' H ∧ Same F F' := by
  obtain ⟨a, vs, ea, a0, na, ha, ra⟩ := h.slot i _ e
  have hi : i < ss.length := (List.getElem?_eq_some_iff.mp e).1
  have sm : Same F (L2.upd F a (.lst vs)) := Same.new na
  refine ⟨L2.upd F a (.lst vs), ⟨h.g.keep a0 na ha, h.pin.trans sm, by rw [List.length_set]; exact h.len, fun j sd q => ?_, fun j k xs ys hjk q1 q2 => ?_⟩, sm⟩
  · by_cases hj : i = j
    · subst hj
      rw [List.getElem?_set_self hi] at q
      cases q
      exact ⟨.ref a, ea, .lst upd_same (ra.mono sm)⟩
    · rw [List.getElem?_set_ne hj] at q
      have z := h.slot j sd q
      cases sd with
      | un => trivial
      | dat d => obtain ⟨v, e1, r⟩ := z; exact ⟨v, e1, r.mono sm⟩
      | bor d => exact z
      | val v => exact z
      | own es =>
        obtain ⟨b, ws, e1, b0, nb, hb, rb⟩ := z
        have nab : b ≠ a := fun y => h.ne i j ds es hj e q (by rw [ea, e1, y])
        exact ⟨b, ws, e1, b0, by rw [upd_ne nab]; exact nb, hb, rb.mono sm⟩
      | fro P => obtain ⟨v, e1, r⟩ := z; exact ⟨v, e1, fun F2 g2 => r F2 (sm.trans g2)⟩
      | dic w kvs =>
        obtain ⟨b, e1, b0, nb, hb⟩ := z
        have nab : b ≠ a := hb.ne (nx_lst ha)
        exact ⟨b, e1, b0, by rw [upd_ne nab]; exact nb, hb.mono sm (.inl rfl)⟩
      | raw P => exact (noRaw_at nr q).elim
  · have f : ∀ {k : Nat} {xs : List PyData}, (ss.set i (.dat (.list ds)))[k]? = some (.own xs) → ss[k]? = some (.own xs) := fun {k xs} q => by
      by_cases hk : i = k
      · subst hk; rw [List.getElem?_set_self hi] at q; cases q
      · rw [List.getElem?_set_ne hk] at q; exact q
    exact h.ne j k xs ys hjk (f q1) (f q2)
end
end G

namespace G
open PySem L2

/-! ### judgements: an expression read over every state that ss tells -/
section
variable (X : Cx) (B : Bs)
def tSem (e : Expr) : TE := fun σ H Q => ∀ pins s, Inv X pins σ H s → wpAny (model X.prog X.w) X.A (eval e X.env) (EP X pins σ Q) X.xe s
def tSemT (e : Expr) : TT := fun σ H Q => ∀ pins s, Inv X pins σ H s → wpAny (model X.prog X.w) X.A (isTrue e X.env (eval e X.env)) (TP X pins σ Q) X.xe s
def tSemW (e : Expr) : TT := fun σ H Q => ∀ (whole : Sem Value) pins s, Inv X pins σ H s → wpAny (model X.prog X.w) X.A (isTrue e X.env whole) (TP X pins σ Q) X.xe s
def tSemA (es : List Expr) : TA := fun σ H Q => ∀ (pos : Pos) pins s, Inv X pins σ H s → wpAny (model X.prog X.w) X.A (spliced (backTo pos (starEach es X.env))) (AP X pins σ Q) X.xe s
def tSS (l : List Stmt) : TS := fun D σ H => ∀ pins s, Inv X pins σ H s → wpAny (model X.prog X.w) X.A (execs l X.env) (SP X pins D) X.xe s
/-- e gives d, known for good -/
def PD (e : Expr) (ss : List SD) (d : PyData) : Prop := ∀ (σ : St) (F H : Hp), Sat X.K B ss σ F H → ∀ Q : VK, (∀ v F' H', Grow F H F' H' → Rp X.K B.C F' v d → Q v H') → tSem X e σ H Q
/-- e gives d, as things stand -/
def PB (e : Expr) (ss : List SD) (d : PyData) : Prop := ∀ (σ : St) (F H : Hp), Sat X.K B ss σ F H → ∀ Q : VK, (∀ v F' H', Grow F H F' H' → Rp X.K B.C H' v d → Q v H') → tSem X e σ H Q
/-- e gives a new list -/
def PN (e : Expr) (ss : List SD) (ds : List PyData) : Prop := ∀ (σ : St) (F H : Hp), Sat X.K B ss σ F H → ∀ Q : VK,
  (∀ a vs F' H', Grow F H F' H' → H a = none → F' a = none → H' a = some (.lst vs) → RpAll X.K B.C F' vs ds → Q (.ref a) H') → tSem X e σ H Q
/-- e gives a sequence (list, tuple, the script) of these items; it stands still (PIs), it stands so now (PI') -/
def PIs (e : Expr) (ss : List SD) (ds : List PyData) : Prop := ∀ (σ : St) (F H : Hp), Sat X.K B ss σ F H → ∀ Q : VK,
  (∀ a vs F' H', Grow F H F' H' → (SqL X.K F' a vs ∨ SqT X.K F' a vs) → RpAll X.K B.C F' vs ds → Q (.ref a) H') → tSem X e σ H Q
def PIt (e : Expr) (ss : List SD) (ds : List PyData) : Prop := ∀ (σ : St) (F H : Hp), Sat X.K B ss σ F H → ∀ Q : VK,
  (∀ a vs F' H', Grow F H F' H' → (SqL X.K H' a vs ∨ SqT X.K H' a vs) → RpAll X.K B.C F' vs ds → Q (.ref a) H') → tSem X e σ H Q
def TD (e : Expr) (ss : List SD) (b : Bool) : Prop := ∀ (σ : St) (F H : Hp), Sat X.K B ss σ F H → ∀ Q : Bool → Hp → Prop, (∀ F' H', Grow F H F' H' → Q b H') → tSemT X e σ H Q
def TW (e : Expr) (ss : List SD) (b : Bool) : Prop := ∀ (σ : St) (F H : Hp), Sat X.K B ss σ F H → ∀ Q : Bool → Hp → Prop, (∀ F' H', Grow F H F' H' → Q b H') → tSemW X e σ H Q
def PDs (es : List Expr) (ss : List SD) (ds : List PyData) : Prop := ∀ (σ : St) (F H : Hp), Sat X.K B ss σ F H → ∀ Q : List V → Hp → Prop, (∀ vs F' H', Grow F H F' H' → RpAll X.K B.C F' vs ds → Q vs H') → tSemA X es σ H Q
/-- arguments, as things stand -/
def PBs (es : List Expr) (ss : List SD) (ds : List PyData) : Prop := ∀ (σ : St) (F H : Hp), Sat X.K B ss σ F H → ∀ Q : List V → Hp → Prop, (∀ vs F' H', Grow F H F' H' → RpAll X.K B.C H' vs ds → Q vs H') → tSemA X es σ H Q
end
section
variable {X : Cx} {B : Bs} {ss : List SD} {e a b c : Expr} {es : List Expr} {pos p : Pos} {d x y z : PyData} {ds ds' : List PyData}
theorem pe_sem : PE X e (tSem X e) := ⟨fun pins s σ H Q I h => h pins s I⟩
theorem sem_of {t : TE} {σ : St} {H : Hp} {Q : VK} (h : PE X e t) (q : t σ H Q) : tSem X e σ H Q := fun pins s I => h.run pins s σ H Q I q
theorem pt_sem : PT X e (tSemT X e) := ⟨fun pins s σ H Q I h => h pins s I⟩
theorem semT_of {t : TT} {σ : St} {H : Hp} {Q : Bool → Hp → Prop} (h : PT X e t) (q : t σ H Q) : tSemT X e σ H Q := fun pins s I => h.run pins s σ H Q I q
theorem pw_sem : PW X e (tSemW X e) := ⟨fun wh pins s σ H Q I h => h wh pins s I⟩
theorem semW_of {t : TT} {σ : St} {H : Hp} {Q : Bool → Hp → Prop} (h : PW X e t) (q : t σ H Q) : tSemW X e σ H Q := fun wh pins s I => h.run wh pins s σ H Q I q
theorem pa_sem : PA X es (tSemA X es) := ⟨fun pos pins s σ H Q I h => h pos pins s I⟩
theorem semA_of {t : TA} {σ : St} {H : Hp} {Q : List V → Hp → Prop} (h : PA X es t) (q : t σ H Q) : tSemA X es σ H Q := fun pos pins s I => h.run pos pins s σ H Q I q
theorem pss_sem {l : List Stmt} : PSs X l (tSS X l) := ⟨fun pins s σ H D I h => h pins s I⟩
theorem ss_of {l : List Stmt} {t : TS} {D : Ends} {σ : St} {H : Hp} (h : PSs X l t) (q : t D σ H) : tSS X l D σ H := fun pins s I => h.run pins s σ H D I q
/-- no star ahead of an argument -/
abbrev NSt (X : Cx) (e : Expr) : Prop := ∀ es, starEach (e :: es) X.env = (false, eval e X.env) :: starEach es X.env

theorem PD.bo (h : PD X B e ss d) : PB X B e ss d := fun σ F H s Q q => h σ F H s Q fun v F' H' g r => q v F' H' g (r.mono g.fh)
theorem PDs.bo (h : PDs X B es ss ds) : PBs X B es ss ds := fun σ F H s Q q => h σ F H s Q fun v F' H' g r => q v F' H' g (r.mono g.fh)
theorem PN.da (h : PN X B e ss ds) : PD X B e ss (.list ds) := fun σ F H s Q q => h σ F H s Q fun a vs F' H' g n nf ha r => q (.ref a) (upd F' a (.lst vs)) H' (g.keep n nf ha) (.lst upd_same (r.mono (Same.new nf)))
theorem PN.bo (h : PN X B e ss ds) : PB X B e ss (.list ds) := h.da.bo
theorem PD.itl (h : PD X B e ss (.list ds)) : PIs X B e ss ds := fun σ F H s Q q => h σ F H s Q fun v F' H' g r => by
  cases r with
  | lst h1 h2 => exact q _ _ F' H' g (.inl (SqL.of h1)) h2
theorem PD.itt (h : PD X B e ss (.tuple ds)) : PIs X B e ss ds := fun σ F H s Q q => h σ F H s Q fun v F' H' g r => by
  cases r with
  | tup h1 h2 => exact q _ _ F' H' g (.inr h1) h2
theorem PD.its {ns : List Int} (h : PD X B e ss (scr ns)) : PIs X B e ss (ns.map .int) := fun σ F H s Q q => h σ F H s Q fun v F' H' g r => by
  generalize hd : scr ns = dd at r
  cases r with
  | non => cases hd
  | bl => cases hd
  | int => cases hd
  | str => cases hd
  | lst => cases hd
  | tup => cases hd
  | flr => cases hd
  | @scr a ms h1 =>
    have e1 : ns.map PyData.int = ms.map PyData.int := by
      injection hd with h2
      injection h2 with h3 _
      injection h3 with h4 _
      injection h4
    have e2 : ns = ms := by
      have inj : ∀ {l m : List Int}, l.map PyData.int = m.map PyData.int → l = m := by
        intro l
        induction l with
        | nil => intro m q; cases m with
          | nil => rfl
          | cons _ _ => cases q
        | cons i l ih => intro m q; cases m with
          | nil => cases q
          | cons j m =>
            rw [List.map_cons, List.map_cons] at q
            injection q with q1 q2
            injection q1 with q1
            rw [q1, ih q2]
      exact inj e1
    subst e2
    exact q _ _ F' H' g (.inl h1) (RpAll.ints ns)
theorem PIs.it (h : PIs X B e ss ds) : PIt X B e ss ds := fun σ F H s Q q => h σ F H s Q fun a vs F' H' g k r => q a vs F' H' g (k.elim (fun z => .inl (g.fh.seq z)) fun z => .inr (Same.sqt g.fh z)) r
theorem PN.its (h : PN X B e ss ds) : PIs X B e ss ds := h.da.itl
theorem PN.it (h : PN X B e ss ds) : PIt X B e ss ds := h.da.itl.it
theorem PD.eq (h : PD X B e ss d) (q : d = x) : PD X B e ss x := q ▸ h
theorem PB.eq (h : PB X B e ss d) (q : d = x) : PB X B e ss x := q ▸ h
theorem PN.eq (h : PN X B e ss ds) (q : ds = ds') : PN X B e ss ds' := q ▸ h
theorem TD.eq {u v : Bool} (h : TD X B e ss u) (q : u = v) : TD X B e ss v := q ▸ h

/-! ### names, constants -/
theorem pd_var (i : Nat) {x : Str} {d : PyData} (hN : X.N[i]? = some x := by rfl) (hs : ss[i]? = some (.dat d) := by rfl) (hv : Vis X.env.scope x := by first | exact Or.inl rfl | exact Or.inr (Or.inl rfl) | exact Or.inr (Or.inr rfl)) (hd : (x == ("__debug__" : Str)) = false := by decide)
    (hcd : (x == ("__classdict__" : Str)) = false := by decide) : PD X B (.Name x p) ss d := fun σ F H s Q q => by
  obtain ⟨v, e, r⟩ := s.slot i _ hs
  exact sem_of (pe_var hN hv hd hcd) ⟨v, e, q v F H (Grow.refl s.fh) r⟩
theorem pb_own (i : Nat) {x : Str} {ds : List PyData} (hN : X.N[i]? = some x := by rfl) (hs : ss[i]? = some (.own ds) := by rfl) (hv : Vis X.env.scope x := by first | exact Or.inl rfl | exact Or.inr (Or.inl rfl) | exact Or.inr (Or.inr rfl)) (hd : (x == ("__debug__" : Str)) = false := by decide)
    (hcd : (x == ("__classdict__" : Str)) = false := by decide) : PB X B (.Name x p) ss (.list ds) := fun σ F H s Q q => by
  obtain ⟨a, vs, e, h0, n, ha, r⟩ := s.slot i _ hs
  exact sem_of (pe_var hN hv hd hcd) ⟨.ref a, e, q _ F H (Grow.refl s.fh) (.lst ha (r.mono s.fh))⟩
theorem pi_own (i : Nat) {x : Str} {ds : List PyData} (hN : X.N[i]? = some x := by rfl) (hs : ss[i]? = some (.own ds) := by rfl) (hv : Vis X.env.scope x := by first | exact Or.inl rfl | exact Or.inr (Or.inl rfl) | exact Or.inr (Or.inr rfl)) (hd : (x == ("__debug__" : Str)) = false := by decide)
    (hcd : (x == ("__classdict__" : Str)) = false := by decide) : PIt X B (.Name x p) ss ds := fun σ F H s Q q => by
  obtain ⟨a, vs, e, h0, n, ha, r⟩ := s.slot i _ hs
  exact sem_of (pe_var hN hv hd hcd) ⟨.ref a, e, q a vs F H (Grow.refl s.fh) (.inl (SqL.of ha)) r⟩
theorem pd_int {i : Int} {j : Nat} : PD X B (.Constant (.int i) j pos) ss (.int i) := fun σ F H s Q q => sem_of pe_int (q _ F H (Grow.refl s.fh) (.int i))
theorem pd_bl {i : Bool} {j : Nat} : PD X B (.Constant (.bool i) j pos) ss (.bool i) := fun σ F H s Q q => sem_of pe_bl (q _ F H (Grow.refl s.fh) (.bl i))
theorem pd_non {j : Nat} : PD X B (.Constant .none j pos) ss .none := fun σ F H s Q q => sem_of pe_non (q _ F H (Grow.refl s.fh) .non)
theorem pd_str {x : Str} {j : Nat} : PD X B (.Constant (.str x) j pos) ss (.str x) := fun σ F H s Q q => sem_of pe_str (q _ F H (Grow.refl s.fh) (.str x))
/-- a module's constant -/
theorem pd_glob {x : Str} {v : V} {u : Value} {d : PyData} (hm : X.mg x = some u) (r : RelV v u) (hr : ∀ F : Hp, Rp X.K B.C F v d) (hg : Gl X x := by rfl) (hd : (x == ("__debug__" : Str)) = false := by decide) : PD X B (.Name x pos) ss d := fun σ F H s Q q =>
  sem_of (pe_glob hg hm r hd) (q _ F H (Grow.refl s.fh) (hr F))

/-! ### arguments -/
theorem pds_nil : PDs X B [] ss [] := fun σ F H s Q q => semA_of pa_nil (q [] F H (Grow.refl s.fh) .nil)
theorem pds_cons (h : PD X B e ss d) (t : PDs X B es ss ds) (hn : NSt X e := by intro _; rfl) : PDs X B (e :: es) ss (d :: ds) := fun σ F H s Q q =>
  semA_of (pa_cons pe_sem pa_sem (hn es)) (h σ F H s _ fun v F1 H1 g1 r1 => t σ F1 H1 (s.grow g1) _ fun vs F2 H2 g2 r2 => q (v :: vs) F2 H2 (g1.trans g2) (.cons (r1.mono g2.ff) r2))
theorem pbs_nil : PBs X B [] ss [] := fun σ F H s Q q => semA_of pa_nil (q [] F H (Grow.refl s.fh) .nil)
theorem pbs_cons (h : PB X B e ss d) (t : PBs X B es ss ds) (hn : NSt X e := by intro _; rfl) : PBs X B (e :: es) ss (d :: ds) := fun σ F H s Q q =>
  semA_of (pa_cons pe_sem pa_sem (hn es)) (h σ F H s _ fun v F1 H1 g1 r1 => t σ F1 H1 (s.grow g1) _ fun vs F2 H2 g2 r2 => q (v :: vs) F2 H2 (g1.trans g2) (.cons (r1.mono g2.hh) r2))
theorem pd_tup {k : Nat} (h : PDs X B es ss ds) (hz : ds.length ≤ sizeLine := by exact Nat.le_of_ble_eq_true rfl) : PD X B (.Tuple es k pos) ss (.tuple ds) := fun σ F H s Q q =>
  sem_of (pe_tup pa_sem) (h σ F H s _ fun vs F1 H1 g r => ⟨by rw [r.length]; exact hz, fun p hp => q (.ref p) (upd F1 p (.tup vs)) (upd H1 p (.tup vs)) (g.trans (Grow.new g.fh hp)) (.tup (SqT.of upd_same) (r.mono (Same.new (g.fh.free hp))))⟩)
theorem pn_lst (h : PDs X B es ss ds) (hz : ds.length ≤ sizeLine := by exact Nat.le_of_ble_eq_true rfl) : PN X B (.List es pos) ss ds := fun σ F H s Q q =>
  sem_of (pe_lst pa_sem) (h σ F H s _ fun vs F1 H1 g r => ⟨by rw [r.length]; exact hz, fun p hp => q p vs F1 (upd H1 p (.lst vs)) (g.trans (Grow.newO g.fh hp)) (g.hh.free hp) (g.fh.free hp) upd_same r⟩)

/-! ### operators by values -/
def OpD (K : PySem.W.Frag) (C : Addr) (r : R2) (x y d : PyData) : Prop := ∀ (F H : Hp) (v w : V), Same F H → Rp K C F v x → Rp K C F w y → ∀ Q : VK, (∀ z F' H', Grow F H F' H' → Rp K C F' z d → Q z H') → r v w H Q
def OpB (K : PySem.W.Frag) (C : Addr) (r : R2) (x y : PyData) (b : Bool) : Prop := ∀ (H : Hp) (v w : V), Rp K C H v x → Rp K C H w y → ∀ Q : VK, Q (.bl b) H → r v w H Q
theorem pd_op {op : Operator} {r : R2} (ho : OpR X (binaryOp op) r) (ha : PD X B a ss x) (hb : PD X B b ss y) (h : OpD X.K B.C r x y d) : PD X B (.BinOp a op b pos) ss d := fun σ F H s Q q =>
  sem_of (pe_op ho pe_sem pe_sem) (ha σ F H s _ fun v F1 H1 g1 r1 => hb σ F1 H1 (s.grow g1) _ fun w F2 H2 g2 r2 => h F2 H2 v w g2.fh (r1.mono g2.ff) r2 Q fun z F3 H3 g3 r3 => q z F3 H3 ((g1.trans g2).trans g3) r3)
theorem pd_add {i j : Int} (ha : PD X B a ss (.int i)) (hb : PD X B b ss (.int j)) : PD X B (.BinOp a .Add b pos) ss (.int (i + j)) := pd_op op_add ha hb fun F H v w f r1 r2 Q q => by
  cases r1; cases r2; exact ⟨i, j, rfl, rfl, q _ F H (Grow.refl f) (.int _)⟩
theorem pd_sub {i j : Int} (ha : PD X B a ss (.int i)) (hb : PD X B b ss (.int j)) : PD X B (.BinOp a .Sub b pos) ss (.int (i - j)) := pd_op op_sub ha hb fun F H v w f r1 r2 Q q => by
  cases r1; cases r2; exact ⟨i, j, rfl, rfl, q _ F H (Grow.refl f) (.int _)⟩
theorem pd_mul {i j : Int} (ha : PD X B a ss (.int i)) (hb : PD X B b ss (.int j)) (hc : CMul i j) : PD X B (.BinOp a .Mult b pos) ss (.int (i * j)) := pd_op op_mul ha hb fun F H v w f r1 r2 Q q => by
  cases r1; cases r2; exact ⟨i, j, rfl, rfl, hc, q _ F H (Grow.refl f) (.int _)⟩
theorem pd_div {i j : Int} (ha : PD X B a ss (.int i)) (hb : PD X B b ss (.int j)) (hc : CDiv i j := by exact ⟨by decide, by decide⟩) : PD X B (.BinOp a .FloorDiv b pos) ss (.int (i / j)) := pd_op op_fdiv ha hb fun F H v w f r1 r2 Q q => by
  cases r1; cases r2; exact ⟨i, j, rfl, rfl, hc, q _ F H (Grow.refl f) (.int _)⟩
theorem pd_mod {i j : Int} (ha : PD X B a ss (.int i)) (hb : PD X B b ss (.int j)) (hc : 0 < j := by decide) : PD X B (.BinOp a .Mod b pos) ss (.int (i % j)) := pd_op op_mod ha hb fun F H v w f r1 r2 Q q => by
  cases r1; cases r2; exact ⟨i, j, rfl, rfl, hc, q _ F H (Grow.refl f) (.int _)⟩
theorem pd_neg {i : Int} (ha : PD X B a ss (.int i)) : PD X B (.UnaryOp .USub a pos) ss (.int (-i)) := fun σ F H s Q q =>
  sem_of (pe_un un_neg pe_sem) (ha σ F H s _ fun v F1 H1 g r => by cases r; exact ⟨i, rfl, q _ F1 H1 g (.int _)⟩)
theorem pd_addS {i j : Str} (ha : PD X B a ss (.str i)) (hb : PD X B b ss (.str j)) (hz : i.length + j.length ≤ sizeLine) : PD X B (.BinOp a .Add b pos) ss (.str (i ++ j)) := pd_op op_add_str ha hb fun F H v w f r1 r2 Q q => by
  cases r1; cases r2; exact ⟨i, j, rfl, rfl, hz, q _ F H (Grow.refl f) (.str _)⟩
theorem pd_catT (ha : PD X B a ss (.tuple ds)) (hb : PD X B b ss (.tuple ds')) (hz : ds.length + ds'.length ≤ sizeLine) : PD X B (.BinOp a .Add b pos) ss (.tuple (ds ++ ds')) := pd_op op_catA ha hb fun F H v w f r1 r2 Q q => by
  cases r1 with
  | tup h1 q1 =>
    cases r2 with
    | tup h2 q2 =>
      rename_i p vs p' ws
      have l1 := q1.length
      have l2 := q2.length
      refine ⟨p, p', vs, ws, rfl, rfl, Same.sqt f h1, Same.sqt f h2, by omega, fun e => ?_, fun e1 e2 => ?_, fun e1 e2 t ht => ?_⟩
      · subst e; cases q1; exact q _ F H (Grow.refl f) (.tup h2 q2)
      · subst e2; cases q2; rw [List.append_nil] at q; exact q _ F H (Grow.refl f) (.tup h1 q1)
      · exact q _ (upd F t (.tup (vs ++ ws))) _ (Grow.new f ht) (.tup (SqT.of upd_same) ((q1.app q2).mono (Same.new (f.free ht))))
theorem pd_repT {k : Int} (ha : PD X B a ss (.tuple ds)) (hb : PD X B b ss (.int k)) (h0 : ds ≠ []) (hz : ds.length ≤ 1000) (h2 : 2 ≤ k) (h3 : k ≤ 1000) : PD X B (.BinOp a .Mult b pos) ss (.tuple (List.replicate k.toNat ds).flatten) := pd_op op_repT ha hb fun F H v w f r1 r2 Q q => by
  cases r2
  cases r1 with
  | tup h1 q1 =>
    rename_i p vs
    have l1 := q1.length
    refine ⟨p, k, vs, rfl, rfl, Same.sqt f h1, fun e => ?_, h2, h3, by omega, fun t ht => ?_⟩
    · subst e; cases q1; exact h0 rfl
    · exact q _ (upd F t (.tup _)) _ (Grow.new f ht) (.tup (SqT.of upd_same) ((q1.rep k.toNat).mono (Same.new (f.free ht))))
/-- two lists in a row: a new list -/
theorem pn_cat (ha : PD X B a ss (.list ds)) (hb : PD X B b ss (.list ds')) (hz : ds.length + ds'.length ≤ sizeLine) : PN X B (.BinOp a .Add b pos) ss (ds ++ ds') := fun σ F H s Q q =>
  sem_of (pe_op op_cat pe_sem pe_sem) (ha σ F H s _ fun v F1 H1 g1 r1 => hb σ F1 H1 (s.grow g1) _ fun w F2 H2 g2 r2 => by
    cases r1 with
    | lst h1 q1 =>
      cases r2 with
      | lst h2 q2 =>
        rename_i p vs p' ws
        have l1 := q1.length
        have l2 := q2.length
        exact ⟨p, p', vs, ws, rfl, rfl, g2.hh _ _ (g1.fh _ _ h1), g2.fh _ _ h2, by omega, fun t ht => q t _ F2 _ ((g1.trans g2).trans (Grow.newO g2.fh ht)) ((g1.trans g2).hh.free ht) (g2.fh.free ht) upd_same ((q1.mono g2.ff).app q2)⟩)

/-! ### comparisons -/
theorem pd_cmp {op : CmpOp} {r : R2} {k : Bool} (ho : OpR X (compareOp op) r) (ha : PB X B a ss x) (hb : PB X B b ss y) (h : OpB X.K B.C r x y k) (hm : behindInMarks op b = false) : PD X B (.Compare a [op] [b] pos) ss (.bool k) := fun σ F H s Q q =>
  sem_of (pe_cmpR ho pe_sem pe_sem hm) (ha σ F H s _ fun v F1 H1 g1 r1 => hb σ F1 H1 (s.grow g1) _ fun w F2 H2 g2 r2 => h H2 v w (r1.mono g2.hh) r2 Q (q _ F2 H2 (g1.trans g2) (.bl _)))
theorem td_cmp {op : CmpOp} {r : R2} {k : Bool} (ho : OpR X (compareOp op) r) (ha : PB X B a ss x) (hb : PB X B b ss y) (h : OpB X.K B.C r x y k) (hm : behindInMarks op b = false) : TD X B (.Compare a [op] [b] pos) ss k := fun σ F H s Q q =>
  semT_of (pt_cmpR ho pe_sem pe_sem hm) (ha σ F H s _ fun v F1 H1 g1 r1 => hb σ F1 H1 (s.grow g1) _ fun w F2 H2 g2 r2 => h H2 v w (r1.mono g2.hh) r2 _ ⟨k, rfl, q F2 H2 (g1.trans g2)⟩)
theorem ob_lt {K : PySem.W.Frag} {C : Addr} {i j : Int} : OpB K C (rI0 fun i j => .bl (decide (i < j))) (.int i) (.int j) (decide (i < j)) := fun H v w r1 r2 Q q => by cases r1; cases r2; exact ⟨i, j, rfl, rfl, q⟩
theorem ob_le {K : PySem.W.Frag} {C : Addr} {i j : Int} : OpB K C (rI0 fun i j => .bl (decide (i ≤ j))) (.int i) (.int j) (decide (i ≤ j)) := fun H v w r1 r2 Q q => by cases r1; cases r2; exact ⟨i, j, rfl, rfl, q⟩
theorem ob_gt {K : PySem.W.Frag} {C : Addr} {i j : Int} : OpB K C (rI0 fun i j => .bl (decide (j < i))) (.int i) (.int j) (decide (j < i)) := fun H v w r1 r2 Q q => by cases r1; cases r2; exact ⟨i, j, rfl, rfl, q⟩
theorem ob_ge {K : PySem.W.Frag} {C : Addr} {i j : Int} : OpB K C (rI0 fun i j => .bl (decide (j ≤ i))) (.int i) (.int j) (decide (j ≤ i)) := fun H v w r1 r2 Q q => by cases r1; cases r2; exact ⟨i, j, rfl, rfl, q⟩
theorem ob_eqI {K : PySem.W.Frag} {C : Addr} {i j : Int} : OpB K C rEq (.int i) (.int j) (decide (i = j)) := fun H v w r1 r2 Q q => by
  cases r1; cases r2
  refine ⟨rfl, ?_⟩
  have e : decide (V.int i = V.int j) = decide (i = j) := decide_eq_decide.mpr ⟨fun h => V.int.inj h, fun h => by rw [h]⟩
  rw [e]; exact q
theorem ob_neI {K : PySem.W.Frag} {C : Addr} {i j : Int} : OpB K C rNe (.int i) (.int j) (!decide (i = j)) := fun H v w r1 r2 Q q => by
  cases r1; cases r2
  refine ⟨rfl, ?_⟩
  have e : decide (V.int i = V.int j) = decide (i = j) := decide_eq_decide.mpr ⟨fun h => V.int.inj h, fun h => by rw [h]⟩
  rw [e]; exact q
theorem ob_eqD {K : PySem.W.Frag} {C : Addr} {n m : Nat} (h1 : Pl n x) (h2 : Pl m y) (n1 : n ≤ 64) (n2 : m ≤ 64) : OpB K C (rEqD K) x y (PyData.eqv x y) := fun H v w r1 r2 Q q => ⟨x, y, r1.dp h1.lay.1, r2.dp h2.lay.1, h1.shaped n1, h2.shaped n2, q⟩
theorem ob_neD {K : PySem.W.Frag} {C : Addr} {n m : Nat} (h1 : Pl n x) (h2 : Pl m y) (n1 : n ≤ 64) (n2 : m ≤ 64) : OpB K C (rNeD K) x y (!PyData.eqv x y) := fun H v w r1 r2 Q q => ⟨x, y, r1.dp h1.lay.1, r2.dp h2.lay.1, h1.shaped n1, h2.shaped n2, q⟩
theorem ob_inD {K : PySem.W.Frag} {C : Addr} {n m : Nat} (h1 : Pl n x) (h2 : Pl m (.list ds)) (n1 : n ≤ 64) (n2 : m ≤ 64) : OpB K C (rInD K) x (.list ds) (ds.any fun z => PyData.eqv z x) := fun H v w r1 r2 Q q => ⟨x, ds, r1.dp h1.lay.1, r2.dp h2.lay.1, h1.shaped n1, h2.shaped n2, q⟩
theorem ob_notInD {K : PySem.W.Frag} {C : Addr} {n m : Nat} (h1 : Pl n x) (h2 : Pl m (.list ds)) (n1 : n ≤ 64) (n2 : m ≤ 64) : OpB K C (rNotInD K) x (.list ds) (!ds.any fun z => PyData.eqv z x) := fun H v w r1 r2 Q q => ⟨x, ds, r1.dp h1.lay.1, r2.dp h2.lay.1, h1.shaped n1, h2.shaped n2, q⟩
def isNoneD : PyData → Bool
  | .none => true
  | _ => false
theorem rp_isNone {K : PySem.W.Frag} {C : Addr} {H : Hp} {v : V} {d : PyData} (r : Rp K C H v d) : decide (v = .non) = isNoneD d := by
  cases r <;> simp [isNoneD]
theorem ob_isN {K : PySem.W.Frag} {C : Addr} : OpB K C (fun x y H Q => y = .non ∧ Q (.bl (decide (x = .non))) H) x .none (isNoneD x) := fun H v w r1 r2 Q q => by
  cases r2
  exact ⟨rfl, by rw [rp_isNone r1]; exact q⟩
theorem ob_notN {K : PySem.W.Frag} {C : Addr} : OpB K C (fun x y H Q => y = .non ∧ Q (.bl (!decide (x = .non))) H) x .none (!isNoneD x) := fun H v w r1 r2 Q q => by
  cases r2
  exact ⟨rfl, by rw [rp_isNone r1]; exact q⟩
theorem ob_isB {K : PySem.W.Frag} {C : Addr} {i j : Bool} : OpB K C rIsB (.bool i) (.bool j) (decide (i = j)) := fun H v w r1 r2 Q q => by cases r1; cases r2; exact ⟨i, j, rfl, rfl, q⟩
theorem ob_notB {K : PySem.W.Frag} {C : Addr} {i j : Bool} : OpB K C rNotB (.bool i) (.bool j) (!decide (i = j)) := fun H v w r1 r2 Q q => by cases r1; cases r2; exact ⟨i, j, rfl, rfl, q⟩
/-- a < b < c, ints -/
theorem td_chain {op op' : CmpOp} {f f' : Int → Int → Bool} {i j k : Int} (ho : OpR X (compareOp op) (rI0 fun i j => .bl (f i j))) (ho' : OpR X (compareOp op') (rI0 fun i j => .bl (f' i j))) (ha : PD X B a ss (.int i)) (hb : PD X B b ss (.int j)) (hc : PD X B c ss (.int k))
    (hpt : PT X (.Compare a [op, op'] [b, c] pos) (tTest (tChain (rI0 fun i j => .bl (f i j)) (rI0 fun i j => .bl (f' i j)) (tSem X a) (tSem X b) (tSem X c)))) : TD X B (.Compare a [op, op'] [b, c] pos) ss (f i j && f' j k) := fun σ F H s Q q =>
  semT_of hpt (ha σ F H s _ fun v F1 H1 g1 r1 => hb σ F1 H1 (s.grow g1) _ fun w F2 H2 g2 r2 => by
    cases r1; cases r2
    refine ⟨i, j, rfl, rfl, f i j, rfl, ?_⟩
    cases hf : f i j with
    | false =>
      refine iteF ?_
      rw [hf] at q
      exact ⟨false, rfl, q F2 H2 (g1.trans g2)⟩
    | true =>
      refine iteT ?_
      rw [hf, Bool.true_and] at q
      exact hc σ F2 H2 (s.grow (g1.trans g2)) _ fun u F3 H3 g3 r3 => by
        cases r3
        exact ⟨j, k, rfl, rfl, _, rfl, q F3 H3 ((g1.trans g2).trans g3)⟩)

/-! ### and, or, not -/
theorem TW.t {k : Bool} (h : TW X B e ss k) : TD X B e ss k := fun σ F H s Q q => semT_of (PW.pt pw_sem) (h σ F H s Q q)
theorem tw_and1 {u : Bool} (ha : TD X B a ss u) : TW X B (.BoolOp .And [a] pos) ss u := fun σ F H s Q q => semW_of (pw_and1 pt_sem) (ha σ F H s Q q)
theorem tw_or1 {u : Bool} (ha : TD X B a ss u) : TW X B (.BoolOp .Or [a] pos) ss u := fun σ F H s Q q => semW_of (pw_or1 pt_sem) (ha σ F H s Q q)
theorem tw_and {u v : Bool} (ha : TD X B a ss u) (hb : u = true → TW X B (.BoolOp .And (b :: es) pos) ss v) : TW X B (.BoolOp .And (a :: b :: es) pos) ss (u && v) := fun σ F H s Q q =>
  semW_of (pw_and pt_sem pw_sem) (ha σ F H s _ fun F1 H1 g1 => by
    cases u with
    | true => exact iteT (hb rfl σ F1 H1 (s.grow g1) Q fun F2 H2 g2 => q F2 H2 (g1.trans g2))
    | false => exact iteF (q F1 H1 g1))
theorem tw_or {u v : Bool} (ha : TD X B a ss u) (hb : u = false → TW X B (.BoolOp .Or (b :: es) pos) ss v) : TW X B (.BoolOp .Or (a :: b :: es) pos) ss (u || v) := fun σ F H s Q q =>
  semW_of (pw_or pt_sem pw_sem) (ha σ F H s _ fun F1 H1 g1 => by
    cases u with
    | true => exact iteT (q F1 H1 g1)
    | false => exact iteF (hb rfl σ F1 H1 (s.grow g1) Q fun F2 H2 g2 => q F2 H2 (g1.trans g2)))
theorem td_not {u : Bool} (ha : TD X B a ss u) : TD X B (.UnaryOp .Not a pos) ss (!u) := fun σ F H s Q q => semT_of (pt_not pt_sem) (ha σ F H s _ fun F1 H1 g1 => q F1 H1 g1)
theorem td_val {u : Bool} (ha : PD X B e ss (.bool u)) (he : ∀ whole, isTrue e X.env whole = (do let v ← whole; standAt e.pos; holding [v] (truthy v)) := by intro _; rfl) : TD X B e ss u := fun σ F H s Q q =>
  semT_of (pt_val pe_sem he) (ha σ F H s _ fun v F1 H1 g1 r => by cases r; exact ⟨u, rfl, q F1 H1 g1⟩)
theorem pd_one {op : BoolOp} (h : PD X B a ss d) : PD X B (.BoolOp op [a] pos) ss d := fun σ F H s Q q => sem_of (pe_one pe_sem) (h σ F H s Q q)
theorem pd_and {u v : Bool} (ha : PD X B a ss (.bool u)) (hb : u = true → PD X B (.BoolOp .And (b :: es) pos) ss (.bool v)) : PD X B (.BoolOp .And (a :: b :: es) pos) ss (.bool (u && v)) := fun σ F H s Q q =>
  sem_of (pe_and pe_sem pe_sem) (ha σ F H s _ fun w F1 H1 g1 r => by
    cases r
    refine ⟨u, rfl, ?_⟩
    cases u with
    | true => exact iteT (hb rfl σ F1 H1 (s.grow g1) Q fun z F2 H2 g2 r2 => q z F2 H2 (g1.trans g2) r2)
    | false => exact iteF (q _ F1 H1 g1 (.bl _)))
theorem pd_or {u v : Bool} (ha : PD X B a ss (.bool u)) (hb : u = false → PD X B (.BoolOp .Or (b :: es) pos) ss (.bool v)) : PD X B (.BoolOp .Or (a :: b :: es) pos) ss (.bool (u || v)) := fun σ F H s Q q =>
  sem_of (pe_or pe_sem pe_sem) (ha σ F H s _ fun w F1 H1 g1 r => by
    cases r
    refine ⟨u, rfl, ?_⟩
    cases u with
    | true => exact iteT (q _ F1 H1 g1 (.bl _))
    | false => exact iteF (hb rfl σ F1 H1 (s.grow g1) Q fun z F2 H2 g2 r2 => q z F2 H2 (g1.trans g2) r2))
theorem pd_not {u : Bool} (ha : PD X B a ss (.bool u)) : PD X B (.UnaryOp .Not a pos) ss (.bool (!u)) := fun σ F H s Q q => sem_of (pe_not pe_sem) (ha σ F H s _ fun w F1 H1 g1 r => by cases r; exact ⟨u, rfl, q _ F1 H1 g1 (.bl _)⟩)

/-! ### items, slices, fields -/
theorem atI_rp {K : PySem.W.Frag} {C : Addr} {H : Hp} {vs : List V} {k : Int} (r : RpAll K C H vs ds) (h : atI ds k = some d) : ∃ v, atI vs k = some v ∧ Rp K C H v d := by
  unfold atI at h ⊢
  rw [r.length]
  cases e : ixN ds.length k with
  | none => rw [e] at h; cases h
  | some j =>
    rw [e] at h
    exact RpAll.get r h
theorem pd_ix {k : Int} (ha : PIt X B a ss ds) (hb : PD X B b ss (.int k)) (h : atI ds k = some d) (hx : PlainIx b := by intro _ _; rfl) : PD X B (.Subscript a b pos) ss d := fun σ F H s Q q =>
  sem_of (pe_ix ix_seq pe_sem pe_sem hx) (ha σ F H s _ fun p vs F1 H1 g1 sq r1 => hb σ F1 H1 (s.grow g1) _ fun w F2 H2 g2 r2 => by
    cases r2
    obtain ⟨v, hv, rv⟩ := atI_rp (r1.mono g2.ff) h
    have fin := q v F2 H2 (g1.trans g2) rv
    rcases sq with sq | sq
    · exact .inl ⟨p, vs, k, v, rfl, rfl, g2.hh.seq sq, hv, fin⟩
    · exact .inr (.inl ⟨p, vs, k, v, rfl, rfl, Same.sqt g2.hh sq, hv, fin⟩))
theorem pd_ixS {z : Str} {k : Int} {c : Nat} (ha : PD X B a ss (.str z)) (hb : PD X B b ss (.int k)) (hz : z.length ≤ sizeLine) (h : atI z.cps.toList k = some c) (hx : PlainIx b := by intro _ _; rfl) : PD X B (.Subscript a b pos) ss (.str ⟨#[c]⟩) := fun σ F H s Q q =>
  sem_of (pe_ix ix_str pe_sem pe_sem hx) (ha σ F H s _ fun v F1 H1 g1 r1 => hb σ F1 H1 (s.grow g1) _ fun w F2 H2 g2 r2 => by
    cases r1; cases r2
    exact ⟨z, k, c, rfl, rfl, hz, h, q _ F2 H2 (g1.trans g2) (.str _)⟩)
/-- a slice's end: left out, or a number -/
def POd (X : Cx) (B : Bs) (e : Option Expr) (ss : List SD) (o : Option Int) : Prop := ∃ t : TO, PO X e t ∧ ∀ (σ : St) (F H : Hp), Sat X.K B ss σ F H → ∀ Q : Option Int → Hp → Prop, (∀ F' H', Grow F H F' H' → Q o H') → t σ H Q
theorem pod_none : POd X B none ss none := ⟨_, po_none, fun σ F H s Q q => q F H (Grow.refl s.fh)⟩
theorem pod_some {k : Int} (h : PD X B e ss (.int k)) : POd X B (some e) ss (some k) := ⟨_, po_some pe_sem, fun σ F H s Q q => h σ F H s _ fun v F1 H1 g r => by cases r; exact ⟨k, rfl, q F1 H1 g⟩⟩
def cutD (xs : List PyData) (lo hi : Option Int) : List PyData := (xs.drop (HT.sIx xs.length 0 lo)).take (HT.sIx xs.length xs.length hi - HT.sIx xs.length 0 lo)
theorem pd_slT {lo hi : Option Expr} {l u : Option Int} {p2 : Pos} (ha : PD X B a ss (.tuple ds)) (hl : POd X B lo ss l) (hh : POd X B hi ss u) : PD X B (.Subscript a (.Slice lo hi none p2) pos) ss (.tuple (cutD ds l u)) := fun σ F H s Q q => by
  obtain ⟨tl, pl, ql⟩ := hl
  obtain ⟨th, ph, qh⟩ := hh
  refine sem_of (pe_slice sl_tupA pe_sem pl ph) (ha σ F H s _ fun v F1 H1 g1 r1 => ql σ F1 H1 (s.grow g1) _ fun F2 H2 g2 => qh σ F2 H2 (s.grow (g1.trans g2)) _ fun F3 H3 g3 => ?_)
  have g := (g1.trans g2).trans g3
  have r3 := r1.mono (g2.trans g3).ff
  cases r3 with
  | tup h1 q1 =>
    rename_i p vs
    have ll := q1.length
    refine ⟨p, vs, rfl, Same.sqt g.fh h1, fun hw => ?_, fun hw t ht => ?_⟩
    · have e : cutD ds l u = ds := by
        unfold cutD
        rw [← ll, hw.1, hw.2, List.drop_zero, Nat.sub_zero, ll, List.take_length]
      rw [e] at q
      exact q _ F3 H3 g (.tup h1 q1)
    · refine q _ (upd F3 t (.tup (cutV vs l u))) _ (g.trans (Grow.new g.fh ht)) (.tup (SqT.of upd_same) ?_)
      unfold cutD cutV
      rw [ll]
      exact (((q1.drop _).take _).mono (Same.new (g.fh.free ht)))
theorem pn_slL {lo hi : Option Expr} {l u : Option Int} {p2 : Pos} (ha : PIt X B a ss ds) (hk : ∀ (σ : St) (F H : Hp), Sat X.K B ss σ F H → ∀ Q : VK, (∀ p vs F' H', Grow F H F' H' → SqL X.K H' p vs → RpAll X.K B.C F' vs ds → Q (.ref p) H') → tSem X a σ H Q) (hl : POd X B lo ss l) (hh : POd X B hi ss u) :
    PN X B (.Subscript a (.Slice lo hi none p2) pos) ss (cutD ds l u) := fun σ F H s Q q => by
  obtain ⟨tl, pl, ql⟩ := hl
  obtain ⟨th, ph, qh⟩ := hh
  refine sem_of (pe_slice sl_list pe_sem pl ph) (hk σ F H s _ fun p vs F1 H1 g1 sq r1 => ql σ F1 H1 (s.grow g1) _ fun F2 H2 g2 => qh σ F2 H2 (s.grow (g1.trans g2)) _ fun F3 H3 g3 => ?_)
  have g := (g1.trans g2).trans g3
  have r3 := r1.mono (g2.trans g3).ff
  refine ⟨p, vs, rfl, (g2.trans g3).hh.seq sq, fun t ht => q t (cutV vs l u) F3 _ (g.trans (Grow.newO g.fh ht)) (g.hh.free ht) (g.fh.free ht) upd_same ?_⟩
  have ll := r3.length
  unfold cutD cutV
  rw [ll]
  exact (r3.drop _).take _
theorem lk_many (m h s : Int) (b : Addr) : (flF m h s b).lookup ("many" : Str) = some (.int m) := by rfl
theorem lk_high (m h s : Int) (b : Addr) : (flF m h s b).lookup ("high" : Str) = some (.int h) := by rfl
theorem lk_strong (m h s : Int) (b : Addr) : (flF m h s b).lookup ("strong" : Str) = some (.int s) := by rfl
theorem lk_banned (m h s : Int) (b : Addr) : (flF m h s b).lookup ("banned" : Str) = some (.ref b) := by rfl
theorem pd_fldI {f : Str} {m h t k : Int} (ha : PD X B e ss (flr m h t ds)) (cl : Cls X.K B.C) (na : NoAttr X.K B.C f) (hl : ∀ b, (flF m h t b).lookup f = some (.int k)) (hb : attributeBase e f X.env (eval e X.env) = eval e X.env := by rfl) : PD X B (.Attribute e f pos) ss (.int k) := fun σ F H s Q q =>
  sem_of (pe_fld pe_sem hb) (ha σ F H s _ fun v F1 H1 g r => by
    cases r with
    | flr h1 h2 h3 => exact ⟨_, B.C, _, _, .int k, rfl, g.fh _ _ h1, cl, na, hl _, q _ F1 H1 g (.int _)⟩)
theorem pd_fldB {m h t : Int} (ha : PD X B e ss (flr m h t ds)) (cl : Cls X.K B.C) (na : NoAttr X.K B.C "banned") (hb : attributeBase e "banned" X.env (eval e X.env) = eval e X.env := by rfl) : PD X B (.Attribute e "banned" pos) ss (.list ds) := fun σ F H s Q q =>
  sem_of (pe_fld pe_sem hb) (ha σ F H s _ fun v F1 H1 g r => by
    cases r with
    | flr h1 h2 h3 => exact ⟨_, B.C, _, _, _, rfl, g.fh _ _ h1, cl, na, lk_banned _ _ _ _, q _ F1 H1 g (.lst h2 h3)⟩)

/-! ### built-ins -/
theorem pd_len (ha : PIt X B e ss ds) (hm : X.mg "len" = none) (hg : Gl X "len" := by rfl) (hn : NSt X e := by intro _; rfl) : PD X B (.Call (.Name "len" p) [e] [] pos) ss (.int ds.length) := fun σ F H s Q q =>
  sem_of (pe_callB call_len_seq hg hm PySem.boot_len (pa_cons pe_sem pa_nil (hn [])) (by decide) (by decide) (hn []) rfl) (ha σ F H s _ fun a vs F1 H1 g sq r => ⟨a, vs, rfl, sq, q _ F1 H1 g (by rw [r.length]; exact .int _)⟩)
theorem pd_lenS {z : Str} (ha : PD X B e ss (.str z)) (hz : z.length ≤ sizeLine) (hm : X.mg "len" = none) (hg : Gl X "len" := by rfl) (hn : NSt X e := by intro _; rfl) : PD X B (.Call (.Name "len" p) [e] [] pos) ss (.int z.length) := fun σ F H s Q q =>
  sem_of (pe_callB call_len_str hg hm PySem.boot_len (pa_cons pe_sem pa_nil (hn [])) (by decide) (by decide) (hn []) rfl) (ha σ F H s _ fun v F1 H1 g r => by cases r; exact ⟨z, rfl, hz, q _ F1 H1 g (.int _)⟩)
theorem pn_list (ha : PIt X B e ss ds) (hm : X.mg "list" = none) (hv : bootBuiltins "list" = some (.type "list") := by decide +kernel) (hg : Gl X "list" := by rfl) (hn : NSt X e := by intro _; rfl) : PN X B (.Call (.Name "list" p) [e] [] pos) ss ds := fun σ F H s Q q =>
  sem_of (pe_callTy call_list_of hg hm hv (pa_cons pe_sem pa_nil (hn [])) (by decide) (by decide) (hn []) rfl) (ha σ F H s _ fun a vs F1 H1 g sq r => ⟨a, vs, rfl, sq, fun t ht => q t vs F1 _ (g.trans (Grow.newO g.fh ht)) (g.hh.free ht) (g.fh.free ht) upd_same r⟩)
theorem pd_tupleN (ha : PN X B e ss ds) (hm : X.mg "tuple" = none) (hv : bootBuiltins "tuple" = some (.type "tuple") := by decide +kernel) (hg : Gl X "tuple" := by rfl) (hn : NSt X e := by intro _; rfl) : PD X B (.Call (.Name "tuple" p) [e] [] pos) ss (.tuple ds) := fun σ F H s Q q =>
  sem_of (pe_callTy call_tuple_of hg hm hv (pa_cons pe_sem pa_nil (hn [])) (by decide) (by decide) (hn []) rfl) (ha σ F H s _ fun a vs F1 H1 g n nf h1 r => ⟨a, vs, rfl, .inl ⟨SqL.of h1, fun t ht => q (.ref t) (upd F1 t (.tup vs)) _ (g.trans (Grow.new g.fh ht)) (.tup (SqT.of upd_same) (r.mono (Same.new (g.fh.free ht))))⟩⟩)
theorem pd_tupleI (ha : PIt X B e ss ds) (hk : ∀ (σ : St) (F H : Hp), Sat X.K B ss σ F H → ∀ Q : VK, (∀ p vs F' H', Grow F H F' H' → SqL X.K H' p vs → RpAll X.K B.C F' vs ds → Q (.ref p) H') → tSem X e σ H Q) (hm : X.mg "tuple" = none) (hv : bootBuiltins "tuple" = some (.type "tuple") := by decide +kernel) (hg : Gl X "tuple" := by rfl) (hn : NSt X e := by intro _; rfl) : PD X B (.Call (.Name "tuple" p) [e] [] pos) ss (.tuple ds) := fun σ F H s Q q =>
  sem_of (pe_callTy call_tuple_of hg hm hv (pa_cons pe_sem pa_nil (hn [])) (by decide) (by decide) (hn []) rfl) (hk σ F H s _ fun a vs F1 H1 g h1 r => ⟨a, vs, rfl, .inl ⟨h1, fun t ht => q (.ref t) (upd F1 t (.tup vs)) _ (g.trans (Grow.new g.fh ht)) (.tup (SqT.of upd_same) (r.mono (Same.new (g.fh.free ht))))⟩⟩)
/-- a list that is read as a list -/
def PLi (X : Cx) (B : Bs) (e : Expr) (ss : List SD) (ds : List PyData) : Prop := ∀ (σ : St) (F H : Hp), Sat X.K B ss σ F H → ∀ Q : VK, (∀ p vs F' H', Grow F H F' H' → SqL X.K H' p vs → RpAll X.K B.C F' vs ds → Q (.ref p) H') → tSem X e σ H Q
theorem PLi.it (h : PLi X B e ss ds) : PIt X B e ss ds := fun σ F H s Q q => h σ F H s Q fun p vs F' H' g k r => q p vs F' H' g (.inl k) r
theorem PD.li (h : PD X B e ss (.list ds)) : PLi X B e ss ds := fun σ F H s Q q => h σ F H s Q fun v F' H' g r => by
  cases r with
  | lst h1 h2 => exact q _ _ F' H' g (SqL.of (g.fh _ _ h1)) h2
theorem PN.li (h : PN X B e ss ds) : PLi X B e ss ds := fun σ F H s Q q => h σ F H s Q fun a vs F' H' g n nf h1 r => q a vs F' H' g (SqL.of h1) r
theorem pl_own (i : Nat) {x : Str} {ds : List PyData} (hN : X.N[i]? = some x := by rfl) (hs : ss[i]? = some (.own ds) := by rfl) (hv : Vis X.env.scope x := by first | exact Or.inl rfl | exact Or.inr (Or.inl rfl) | exact Or.inr (Or.inr rfl)) (hd : (x == ("__debug__" : Str)) = false := by decide)
    (hcd : (x == ("__classdict__" : Str)) = false := by decide) : PLi X B (.Name x p) ss ds := fun σ F H s Q q => by
  obtain ⟨a, vs, e, h0, n, ha, r⟩ := s.slot i _ hs
  exact sem_of (pe_var hN hv hd hcd) ⟨.ref a, e, q a vs F H (Grow.refl s.fh) (SqL.of ha) r⟩
theorem pn_sl {lo hi : Option Expr} {l u : Option Int} {p2 : Pos} (ha : PLi X B a ss ds) (hl : POd X B lo ss l) (hh : POd X B hi ss u) : PN X B (.Subscript a (.Slice lo hi none p2) pos) ss (cutD ds l u) := pn_slL ha.it ha hl hh
theorem pd_tuple (ha : PLi X B e ss ds) (hm : X.mg "tuple" = none) (hv : bootBuiltins "tuple" = some (.type "tuple") := by decide +kernel) (hg : Gl X "tuple" := by rfl) (hn : NSt X e := by intro _; rfl) : PD X B (.Call (.Name "tuple" p) [e] [] pos) ss (.tuple ds) := pd_tupleI ha.it ha hm hv hg hn
theorem pn_sorted {ns : List Int} (ha : PLi X B e ss (ns.map .int)) (hm : X.mg "sorted" = none) (hv : bootBuiltins "sorted" = some (.builtin "sorted") := by decide +kernel) (hg : Gl X "sorted" := by rfl) (hn : NSt X e := by intro _; rfl) {ms : List Int} (hms : ∀ l : List Int, l.Perm ns → l.Pairwise (· ≤ ·) → l = ms) : PN X B (.Call (.Name "sorted" p) [e] [] pos) ss (ms.map .int) := fun σ F H s Q q =>
  sem_of (pe_callB cr_sortedI hg hm hv (pa_cons pe_sem pa_nil (hn [])) (by decide) (by decide) (hn []) rfl) (ha σ F H s _ fun a vs F1 H1 g sq r => by
    have e := RpAll.intsV r
    subst e
    refine ⟨a, ns, rfl, sq, fun ns' t hp hs ht => ?_⟩
    have e := hms ns' hp hs
    subst e
    exact q t _ F1 _ (g.trans (Grow.newO g.fh ht)) (g.hh.free ht) (g.fh.free ht) upd_same (RpAll.ints _))
theorem pd_abs {i : Int} (ha : PD X B e ss (.int i)) (hm : X.mg "abs" = none) (hv : bootBuiltins "abs" = some (.builtin "abs") := by decide +kernel) (hg : Gl X "abs" := by rfl) (hn : NSt X e := by intro _; rfl) : PD X B (.Call (.Name "abs" p) [e] [] pos) ss (.int (if i < 0 then -i else i)) := fun σ F H s Q q =>
  sem_of (pe_callB call_abs hg hm hv (pa_cons pe_sem pa_nil (hn [])) (by decide) (by decide) (hn []) rfl) (ha σ F H s _ fun v F1 H1 g r => by cases r; exact ⟨i, rfl, q _ F1 H1 g (.int _)⟩)
theorem pd_min2 {i j : Int} (hc : X.calm = true) (ha : PD X B a ss (.int i)) (hb : PD X B b ss (.int j)) (hm : X.mg "min" = none) (hv : bootBuiltins "min" = some (.builtin "min") := by decide +kernel) (hg : Gl X "min" := by rfl) (hn : NSt X a := by intro _; rfl) (hn2 : NSt X b := by intro _; rfl)
    (hpl : (backTo pos (starEach [b] X.env)).any (·.1) = false := by rfl) : PD X B (.Call (.Name "min" p) [a, b] [] pos) ss (.int (if j < i then j else i)) := fun σ F H s Q q =>
  sem_of (pe_callB (call_min2 hc) hg hm hv (pa_cons pe_sem (pa_cons pe_sem pa_nil (hn2 [])) (hn [b])) (by decide) (by decide) (hn [b]) hpl) (ha σ F H s _ fun v F1 H1 g1 r1 => hb σ F1 H1 (s.grow g1) _ fun w F2 H2 g2 r2 => by
    cases r1; cases r2; exact ⟨i, j, rfl, q _ F2 H2 (g1.trans g2) (.int _)⟩)
theorem pd_max2 {i j : Int} (hc : X.calm = true) (ha : PD X B a ss (.int i)) (hb : PD X B b ss (.int j)) (hm : X.mg "max" = none) (hv : bootBuiltins "max" = some (.builtin "max") := by decide +kernel) (hg : Gl X "max" := by rfl) (hn : NSt X a := by intro _; rfl) (hn2 : NSt X b := by intro _; rfl)
    (hpl : (backTo pos (starEach [b] X.env)).any (·.1) = false := by rfl) : PD X B (.Call (.Name "max" p) [a, b] [] pos) ss (.int (if j > i then j else i)) := fun σ F H s Q q =>
  sem_of (pe_callB (call_max2 hc) hg hm hv (pa_cons pe_sem (pa_cons pe_sem pa_nil (hn2 [])) (hn [b])) (by decide) (by decide) (hn [b]) hpl) (ha σ F H s _ fun v F1 H1 g1 r1 => hb σ F1 H1 (s.grow g1) _ fun w F2 H2 g2 r2 => by
    cases r1; cases r2; exact ⟨i, j, rfl, q _ F2 H2 (g1.trans g2) (.int _)⟩)
/-- list(range(n)), list(range(a, b)) -/
def rgD (a b : Int) : List PyData := (List.range (b - a).toNat).map fun i => PyData.int (a + (i : Nat))
theorem rp_rg {K : PySem.W.Frag} {C : Addr} {H : Hp} (a b : Int) : RpAll K C H (rgV a b) (rgD a b) := by
  unfold rgV rgD
  have : ∀ l : List Nat, RpAll K C H (l.map fun i => V.int (a + (i : Nat))) (l.map fun i => PyData.int (a + (i : Nat))) := by
    intro l
    induction l with
    | nil => exact .nil
    | cons i r ih => exact .cons (.int _) ih
  exact this _
theorem pn_listRg {p1 p2 : Pos} {n : Int} (hc : X.calm = true) (ha : PD X B a ss (.int n)) (h0 : 0 ≤ n) (h1 : n ≤ 16777216) (hm : X.mg "list" = none) (hm2 : X.mg "range" = none) (hg : Gl X "list" := by rfl) (hg2 : Gl X "range" := by rfl) (hn : NSt X a := by intro _; rfl)
    (hn2 : NSt X (.Call (.Name "range" p1) [a] [] p2) := by intro _; rfl) : PN X B (.Call (.Name "list" p) [.Call (.Name "range" p1) [a] [] p2] [] pos) ss (rgD 0 n) := fun σ F H s Q q =>
  sem_of (pe_listRg hc hg hm (prg_1 hg2 hm2 pe_sem (hn [])) (hn2 [])) (ha σ F H s _ fun v F1 H1 g r => by
    cases r
    exact ⟨n, rfl, RgOk.of_le (by decide) h1 (by decide) h0, fun t ht => q t _ F1 _ (g.trans (Grow.newO g.fh ht)) (g.hh.free ht) (g.fh.free ht) upd_same (rp_rg _ _)⟩)
end
end G

namespace G
open PySem L2
/-- a def's body, a block: nothing is being handled, names once, room -/
structure Cxt (X : Cx) : Prop where
  calm : X.calm = true
  nd : X.N.Nodup
  pass : PassesOwn (model X.prog X.w) X.A X.env X.xe
  units : X.A.units + 65 < cLine
theorem Cxt.u64 {X : Cx} (h : Cxt X) : X.A.units + 64 < cLine := Nat.lt_of_succ_lt h.units
def Go (X : Cx) (B : Bs) (l : List Stmt) (ss : List SD) (D : Ends) : Prop := ∀ (σ : St) (F H : Hp), Sat X.K B ss σ F H → tSS X l D σ H
/-- a state that J tells -/
def Mid (X : Cx) (B : Bs) (J : List SD → Prop) : St → Hp → Prop := fun σ H => ∃ F ss, J ss ∧ Sat X.K B ss σ F H
abbrev Bs.pinned (B : Bs) (Fp : Hp) : Bs := { B with Fp := Fp }
section
variable {X : Cx} {B : Bs} {ss : List SD} {e a b c : Expr} {es : List Expr} {pos p p2 p3 p4 : Pos} {d x y z : PyData} {ds ds' : List PyData} {rest body orelse : List Stmt} {st : Stmt} {D : Ends}
theorem go_step {t : TS} (h : PS X st t) (q : ∀ (σ : St) (F H : Hp), Sat X.K B ss σ F H → t { D with nx := tSS X rest D } σ H) : Go X B (st :: rest) ss D := fun σ F H s => ss_of (pss_cons h pss_sem) (q σ F H s)
theorem go_nil (q : ∀ (σ : St) (F H : Hp), Sat X.K B ss σ F H → D.nx σ H) : Go X B [] ss D := fun σ F H s => ss_of pss_nil (q σ F H s)
theorem go_on {l : List Stmt} {D' : Ends} {r : VK} {bk ct : St → Hp → Prop} (h : Go X B l ss D') : Go X B [] ss { nx := tSS X l D', rt := r, bk := bk, ct := ct } := go_nil fun σ F H s => h σ F H s
/-- the end of a loop's turn, of a branch -/
theorem go_end {J : List SD → Prop} {ss' : List SD} {r : VK} {bk ct : St → Hp → Prop} (h : J ss') (w : Wk ss ss' := by exact Wk.refl _) : Go X B [] ss { nx := Mid X B J, rt := r, bk := bk, ct := ct } := go_nil fun σ F H s => ⟨F, ss', h, s.weak w⟩
theorem go_weak {l : List Stmt} {ss' : List SD} (w : Wk ss ss') (h : Go X B l ss' D) : Go X B l ss D := fun σ F H s => h σ F H (s.weak w)
theorem go_eq {l : List Stmt} {ss' : List SD} (w : ss = ss') (h : Go X B l ss' D) : Go X B l ss D := w ▸ h
theorem go_freeze {l : List Stmt} (i : Nat) (hs : ss[i]? = some (.own ds)) (h : Go X B l (ss.set i (.dat (.list ds))) D) (nr : noRaw ss = true := by rfl) : Go X B l ss D := fun σ F H s => by
  obtain ⟨F', s', _⟩ := s.freeze hs nr
  exact h σ F' H s'
theorem go_asg (i : Nat) {x : Str} (hN : X.N.Nodup) (he : PD X B e ss d) (h : Go X B rest (ss.set i (.dat d)) D) (hi : X.N[i]? = some x := by rfl) (hx : Loc X.env.scope x := by first | exact Or.inl rfl | exact Or.inr rfl) (hs : swapsWith e (some (.Name x p)) pos.line X.env = pure false := by rfl)
    (hf : X.fn x = true ∨ X.env.scope.names.lookup x = some .local := by first | exact .inl rfl | exact .inr rfl) : Go X B (.Assign [.Name x p] e pos :: rest) ss D :=
  go_step (ps_set hN hi hx pe_sem hs hf) fun σ F H s => he σ F H s _ fun v F1 H1 g r => h _ F1 H1 ((s.grow g).set_dat r)
theorem go_asgN (i : Nat) {x : Str} (hN : X.N.Nodup) (he : PN X B e ss ds) (h : Go X B rest (ss.set i (.own ds)) D) (hi : X.N[i]? = some x := by rfl) (hx : Loc X.env.scope x := by first | exact Or.inl rfl | exact Or.inr rfl) (hs : swapsWith e (some (.Name x p)) pos.line X.env = pure false := by rfl)
    (hf : X.fn x = true ∨ X.env.scope.names.lookup x = some .local := by first | exact .inl rfl | exact .inr rfl) : Go X B (.Assign [.Name x p] e pos :: rest) ss D :=
  go_step (ps_set hN hi hx pe_sem hs hf) fun σ F H s => he σ F H s _ fun a vs F1 H1 g n nf h1 r => by
    refine h _ F1 H1 ((s.grow g).set_own (s.g.hh.free n) nf h1 r fun j es hj q z => ?_)
    obtain ⟨a', vs', ea, _, _, h2, _⟩ := s.slot j _ q
    rw [z] at ea
    injection ea with ea
    injection ea with ea
    injection ea with ea
    subst ea
    rw [n] at h2
    cases h2
theorem go_if {k : Bool} (hc : TD X B c ss k) (h1 : k = true → Go X B body ss { D with nx := tSS X rest D }) (h2 : k = false → Go X B orelse ss { D with nx := tSS X rest D }) : Go X B (.If c body orelse pos :: rest) ss D :=
  go_step (ps_if pt_sem pss_sem pss_sem) fun σ F H s => hc σ F H s _ fun F1 H1 g => by
    cases k with
    | true => exact iteT (h1 rfl σ F1 H1 (s.grow g))
    | false => exact iteF (h2 rfl σ F1 H1 (s.grow g))
/-- a statement, then the rest from what J tells -/
theorem go_stepC {t : TS} (h : PS X st t) (J : List SD → Prop) (q : ∀ (σ : St) (F H : Hp), Sat X.K B ss σ F H → t { D with nx := Mid X B J } σ H) (h2 : ∀ ss', J ss' → Go X B rest ss' D) : Go X B (st :: rest) ss D := fun σ F H s pins sh I => by
  refine wpAny_execs_cons (thn (h.run pins sh σ H { D with nx := Mid X B J } I (q σ F H s)) fun f s1 r => ?_)
  cases f with
  | next =>
    obtain ⟨σ', H', I', F', ss', j, s'⟩ := r
    exact h2 ss' j σ' F' H' s' pins s1 I'
  | ret v => exact r
  | brk => exact r
  | cont => exact r
theorem go_ifJ {k : Bool} (J : List SD → Prop) (hc : TD X B c ss k) (h1 : k = true → Go X B body ss { D with nx := Mid X B J }) (h2 : k = false → Go X B orelse ss { D with nx := Mid X B J }) (h3 : ∀ ss', J ss' → Go X B rest ss' D) : Go X B (.If c body orelse pos :: rest) ss D :=
  go_stepC (ps_if pt_sem pss_sem pss_sem) J (fun σ F H s => hc σ F H s _ fun F1 H1 g => by
    cases k with
    | true => exact iteT (h1 rfl σ F1 H1 (s.grow g))
    | false => exact iteF (h2 rfl σ F1 H1 (s.grow g))) h3
theorem go_ret (he : PD X B e ss d) (k : ∀ v F H, Grow B.F0 B.H0 F H → Rp X.K B.C F v d → D.rt v H) : Go X B (.Return (some e) pos :: rest) ss D :=
  go_step (ps_ret pe_sem) fun σ F H s => he σ F H s _ fun v F1 H1 g r => k v F1 H1 (s.g.trans g) r
theorem go_retN (he : PN X B e ss ds) (k : ∀ a vs F H, Grow B.F0 B.H0 F H → B.H0 a = none → F a = none → H a = some (.lst vs) → RpAll X.K B.C F vs ds → D.rt (.ref a) H) : Go X B (.Return (some e) pos :: rest) ss D :=
  go_step (ps_ret pe_sem) fun σ F H s => he σ F H s _ fun a vs F1 H1 g n nf h r => k a vs F1 H1 (s.g.trans g) (s.g.hh.free n) nf h r
theorem go_retO (i : Nat) {x : Str} (hs : ss[i]? = some (.own ds) := by rfl) (hN : X.N[i]? = some x := by rfl) (hv : Vis X.env.scope x := by first | exact Or.inl rfl | exact Or.inr (Or.inl rfl) | exact Or.inr (Or.inr rfl)) (hd : (x == ("__debug__" : Str)) = false := by decide)
    (hcd : (x == ("__classdict__" : Str)) = false := by decide) (k : ∀ a vs F H, Grow B.F0 B.H0 F H → B.H0 a = none → F a = none → H a = some (.lst vs) → RpAll X.K B.C F vs ds → D.rt (.ref a) H) : Go X B (.Return (some (.Name x p)) pos :: rest) ss D :=
  go_step (ps_ret (pe_var hN hv hd hcd)) fun σ F H s => by
    obtain ⟨a, vs, e, h0, n, h, r⟩ := s.slot i _ hs
    exact ⟨.ref a, e, k a vs F H s.g h0 n h r⟩
theorem go_drop (he : PD X B e ss d) (h : Go X B rest ss D) (hs : swapsWith e none pos.line X.env = pure false := by rfl) : Go X B (.Expr e pos :: rest) ss D :=
  go_step (ps_expr pe_sem hs) fun σ F H s => he σ F H s _ fun v F1 H1 g r => h σ F1 H1 (s.grow g)
theorem go_dropN (he : PN X B e ss ds) (h : Go X B rest ss D) (hs : swapsWith e none pos.line X.env = pure false := by rfl) : Go X B (.Expr e pos :: rest) ss D := go_drop he.da h hs

/-! ### lists of one's own, changed -/
theorem go_append (i : Nat) {x : Str} (hs0 : ss[i]? = some (.own ds)) (he : PD X B e ss d) (h : Go X B rest (ss.set i (.own (ds ++ [d]))) D) (hz : ds.length < sizeLine) (nr : noRaw ss = true := by rfl)
    (hpe : PE X (.Call (.Attribute (.Name x p) "append" p2) [e] [] p3) (tBM X.K "list" rAppend (tVar i) (tCons (tSem X e) tNil)) := by exact pe_bm PySem.F.plainAttrs_list PySem.F.slot_list_append PySem.F.type_list_append mt_append (pe_var (by rfl) (by first | exact Or.inl rfl | exact Or.inr (Or.inl rfl) | exact Or.inr (Or.inr rfl)) (by decide) (by decide)) (pa_cons pe_sem pa_nil))
    (hs : swapsWith (.Call (.Attribute (.Name x p) "append" p2) [e] [] p3) none p4.line X.env = pure false := by rfl) : Go X B (.Expr (.Call (.Attribute (.Name x p) "append" p2) [e] [] p3) p4 :: rest) ss D :=
  go_step (ps_expr hpe hs) fun σ F H s => by
    obtain ⟨a, vs, ea, a0, n, ha, r⟩ := s.slot i _ hs0
    refine ⟨_, ea, .inl ⟨rfl, vs, SqL.of ha⟩, he σ F H s _ fun v F1 H1 g r1 => ⟨a, vs, v, rfl, rfl, g.hh _ _ ha, by rw [r.length]; exact hz, ?_⟩⟩
    exact h σ F1 _ ((s.grow g).mut hs0 ea nr ((r.mono g.ff).app (.one r1)))
theorem go_extend (i : Nat) {x : Str} (hs0 : ss[i]? = some (.own ds)) (he : PD X B e ss (.list ds')) (h : Go X B rest (ss.set i (.own (ds ++ ds'))) D) (hz : ds.length + ds'.length ≤ sizeLine) (nr : noRaw ss = true := by rfl)
    (hpe : PE X (.Call (.Attribute (.Name x p) "extend" p2) [e] [] p3) (tBM X.K "list" rExtend (tVar i) (tCons (tSem X e) tNil)) := by exact pe_bm PySem.F.plainAttrs_list PySem.F.slot_list_extend PySem.F.type_list_extend mt_extend (pe_var (by rfl) (by first | exact Or.inl rfl | exact Or.inr (Or.inl rfl) | exact Or.inr (Or.inr rfl)) (by decide) (by decide)) (pa_cons pe_sem pa_nil))
    (hs : swapsWith (.Call (.Attribute (.Name x p) "extend" p2) [e] [] p3) none p4.line X.env = pure false := by rfl) : Go X B (.Expr (.Call (.Attribute (.Name x p) "extend" p2) [e] [] p3) p4 :: rest) ss D :=
  go_step (ps_expr hpe hs) fun σ F H s => by
    obtain ⟨a, vs, ea, a0, n, ha, r⟩ := s.slot i _ hs0
    refine ⟨_, ea, .inl ⟨rfl, vs, SqL.of ha⟩, he σ F H s _ fun v F1 H1 g r1 => ?_⟩
    cases r1 with
    | lst h1 h2 =>
      rename_i b ws
      refine ⟨a, b, vs, ws, rfl, rfl, g.hh _ _ ha, g.fh _ _ h1, by rw [r.length, h2.length]; exact hz, ?_⟩
      exact h σ F1 _ ((s.grow g).mut hs0 ea nr ((r.mono g.ff).app h2))
theorem go_setL (i : Nat) {x : Str} {k : Int} {m : Nat} (hs0 : ss[i]? = some (.own ds)) (he : PD X B e ss d) (hk : PD X B a ss (.int k)) (hm : ixN ds.length k = some m) (h : Go X B rest (ss.set i (.own (ds.set m d))) D) (nr : noRaw ss = true := by rfl)
    (hps : PS X (.Assign [.Subscript (.Name x p) a p2] e pos) (tAsg (tSem X e) (gSub (tVar i) (tSem X a) rSetL)) := by exact ps_asg pe_sem (pg_sub (pe_var (by rfl) (by first | exact Or.inl rfl | exact Or.inr (Or.inl rfl) | exact Or.inr (Or.inr rfl)) (by decide) (by decide)) pe_sem set_list)) :
    Go X B (.Assign [.Subscript (.Name x p) a p2] e pos :: rest) ss D :=
  go_step hps fun σ F H s => he σ F H s _ fun v F1 H1 g1 r1 => by
    obtain ⟨q, vs, ea, a0, n, ha, r⟩ := (s.grow g1).slot i _ hs0
    refine ⟨_, ea, hk σ F1 H1 (s.grow g1) _ fun w F2 H2 g2 r2 => ?_⟩
    cases r2
    refine ⟨q, vs, k, m, rfl, rfl, g2.hh _ _ ha, by rw [r.length]; exact hm, ?_⟩
    exact h σ F2 _ ((s.grow (g1.trans g2)).mut hs0 ea nr ((r.mono g2.ff).set (r1.mono g2.ff) m))
/-- y = x.pop(k) -/
theorem go_pop (i j : Nat) {x y : Str} {k : Int} {m : Nat} (nd : X.N.Nodup) (hij : i ≠ j) (hs0 : ss[j]? = some (.own ds)) (hk : PD X B a ss (.int k)) (hm : ixN ds.length k = some m) (hd : ds[m]? = some d) (hz : ds.length < 2 ^ 62) (h : Go X B rest ((ss.set j (.own (ds.eraseIdx m))).set i (.dat d)) D) (nr : noRaw ss = true := by rfl)
    (hps : PS X (.Assign [.Name y p4] (.Call (.Attribute (.Name x p) "pop" p2) [a] [] p3) pos) (tAsg (tBM X.K "list" rPopAt (tVar j) (tCons (tSem X a) tNil)) (gName i)) := by exact ps_set (by assumption) (by rfl) (by first | exact Or.inl rfl | exact Or.inr rfl) (pe_bm PySem.F.plainAttrs_list PySem.F.slot_list_pop PySem.F.type_list_pop mt_popAt (pe_var (by rfl) (by first | exact Or.inl rfl | exact Or.inr (Or.inl rfl) | exact Or.inr (Or.inr rfl)) (by decide) (by decide)) (pa_cons pe_sem pa_nil))) :
    Go X B (.Assign [.Name y p4] (.Call (.Attribute (.Name x p) "pop" p2) [a] [] p3) pos :: rest) ss D :=
  go_step hps fun σ F H s => by
    obtain ⟨q, vs, ea, a0, n, ha, r⟩ := s.slot j _ hs0
    refine ⟨_, ea, .inl ⟨rfl, vs, SqL.of ha⟩, hk σ F H s _ fun w F1 H1 g r1 => ?_⟩
    cases r1
    obtain ⟨v, hv, rv⟩ := RpAll.get r hd
    obtain ⟨q1, q2, q3, q4⟩ := ixN_seq hm
    have ll := r.length
    refine ⟨q, vs, k, m, v, rfl, rfl, g.hh _ _ ha, by omega, by omega, by rw [ll]; exact q1, hv, ?_⟩
    exact h _ F1 _ (((s.grow g).mut hs0 ea nr ((r.mono g.ff).erase m)).set_dat (rv.mono g.ff))

/-! ### loops -/
def iSeq (K : PySem.W.Frag) (tl : TE) : TI := fun σ H R => tl σ H fun x H1 => ∃ a, x = .ref a ∧ ((∃ xs, SqL K H1 a xs ∧ R (Itl K a) H1) ∨ (∃ xs, SqT K H1 a xs ∧ R (Itt K a) H1))
theorem pi_seq {tg l : Expr} {tl : TE} (hl : PE X l tl) : PI X tg l (iSeq X.K tl) := by
  refine ⟨fun pins s σ H R I h => ?_⟩
  refine thn (hl.run pins s σ H _ I h) fun v s1 ⟨x, H1, I1, r1, q1⟩ => ?_
  obtain ⟨a, e, q1⟩ := q1
  subst e
  cases r1
  rcases q1 with ⟨xs, hq, q⟩ | ⟨xs, hq, q⟩
  · obtain ⟨its, rv, p, hz⟩ := I1.list hq
    refine wpAny_pyIter_list p.isList ?_
    refine ⟨s1.heap.objs.size, [s1.heap.objs.size], _, _, H1, rfl, I1.kept (t' := s1.toks) fun b o e => Heap.get?_push_of_some _ e, turn_list a _, ⟨_, Heap.get?_push_size _ rfl, rfl, rfl⟩, fun b hb => ?_, q⟩
    have e : b = s1.heap.objs.size := by simpa using hb
    subst e
    exact I1.fpOk (Nat.le_refl _) (I1.hok.fresh (Nat.le_refl _))
  · obtain ⟨its, rv, p, hz⟩ := I1.tuple hq
    refine wpAny_pyIter_tuple (show s1.heap.IsTuple a its.toArray from p) ?_
    refine ⟨s1.heap.objs.size, [s1.heap.objs.size], _, _, H1, rfl, I1.kept (t' := s1.toks) fun b o e => Heap.get?_push_of_some _ e, turn_tuple a _, ⟨_, Heap.get?_push_size _ rfl, rfl, rfl⟩, fun b hb => ?_, q⟩
    have e : b = s1.heap.objs.size := by simpa using hb
    subst e
    exact I1.fpOk (Nat.le_refl _) (I1.hok.fresh (Nat.le_refl _))
theorem Sat.unpin {K : PySem.W.Frag} {Fp : Hp} {σ : St} {F H : Hp} (h : Sat K (B.pinned Fp) ss σ F H) (e : Same B.Fp Fp) : Sat K B ss σ F H := ⟨h.g, e.trans h.pin, h.len, h.slot, h.ne⟩
theorem Sat.pinned {K : PySem.W.Frag} {σ : St} {F H : Hp} (h : Sat K B ss σ F H) : Sat K (B.pinned F) ss σ F H := ⟨h.g, Same.refl _, h.len, h.slot, h.ne⟩
abbrev lpE (X : Cx) (B : Bs) (J : List SD → Prop) (rest : List Stmt) (D : Ends) : Ends := { nx := Mid X B J, rt := D.rt, bk := tSS X rest D, ct := Mid X B J }
theorem go_for {α : Type} {xs : List α} {f : α → PyData} (j : Nat) {x : Str} (J : Nat → List SD → Prop) (cx : Cxt X) (he : PIs X B e ss (xs.map f)) (h0 : J 0 ss)
    (hb : ∀ (Fp : Hp) (i : Nat) (u : α) (ss' : List SD), xs[i]? = some u → J i ss' → Go X (B.pinned Fp) body (ss'.set j (.dat (f u))) (lpE X (B.pinned Fp) (J (i + 1)) rest D))
    (hd : ∀ ss', J xs.length ss' → Go X B rest ss' D)
    (hps : ∀ wi, PI X (.Name x p) e wi → PS X (.For (.Name x p) e body [] pos) (tFor wi (gName j) (tSS X body)) := by intro _ hw; exact ps_for (Cxt.pass (by assumption)) (Cxt.calm (by assumption)) hw (pg_name (Cxt.nd (by assumption)) (by rfl) (by first | exact Or.inl rfl | exact Or.inr rfl)) pss_sem) :
    Go X B (.For (.Name x p) e body [] pos :: rest) ss D :=
  go_step (hps _ (pi_seq pe_sem)) fun σ F H s => he σ F H s _ fun a vs F1 H1 g sq r => by
    have s1 := s.grow g
    have pn : Same B.Fp F1 := s.pin.trans g.ff
    have step : ∀ (i : Nat) (w : V) (σ' : St) (H' : Hp), vs[i]? = some w → Mid X (B.pinned F1) (J i) σ' H' → tSS X body (lpE X (B.pinned F1) (J (i + 1)) rest D) (σ'.set j (some w)) H' := fun i w σ' H' hi ⟨F', ss', j', s'⟩ => by
      obtain ⟨d, hd', rd⟩ := RpAll.getV r hi
      rw [List.getElem?_map] at hd'
      cases hu : xs[i]? with
      | none => rw [hu] at hd'; cases hd'
      | some u =>
        rw [hu] at hd'
        cases hd'
        exact hb F1 i u ss' hu j' _ F' H' (s'.set_dat (rd.mono s'.pin))
    have fin : ∀ (σ' : St) (H' : Hp), Mid X (B.pinned F1) (J xs.length) σ' H' → tSS X rest D σ' H' := fun σ' H' ⟨F', ss', j', s'⟩ => hd ss' j' σ' F' H' (s'.unpin pn)
    have ll : vs.length = xs.length := by rw [r.length, List.length_map]
    refine ⟨a, rfl, ?_⟩
    rcases sq with sq | sq
    · refine .inl ⟨vs, g.fh.seq sq, for_list (K := X.K) (a := a) (xs := vs) (fun i => Mid X (B.pinned F1) (J i)) ⟨F1, ss, h0, s1.pinned⟩ (fun i σ' H' _ ⟨F', ss', j', s'⟩ => s'.fh.seq (s'.pin.seq sq)) step (by rw [ll]; exact fin)⟩
    · refine .inr ⟨vs, Same.sqt g.fh sq, for_tup (K := X.K) (a := a) (xs := vs) (fun i => Mid X (B.pinned F1) (J i)) ⟨F1, ss, h0, s1.pinned⟩ (fun i σ' H' _ ⟨F', ss', j', s'⟩ => Same.sqt s'.fh (Same.sqt s'.pin sq)) step (by rw [ll]; exact fin)⟩
/-- for k in range(n) -/
theorem go_rng1 {n : Int} (j : Nat) {x : Str} (J : Nat → List SD → Prop) (cx : Cxt X) (he : PD X B a ss (.int n)) (hn : -(2 ^ 62) ≤ n ∧ n < 2 ^ 62) (h0 : J 0 ss)
    (hb : ∀ (i : Nat) (ss' : List SD), (i : Int) < n → J i ss' → Go X B body (ss'.set j (.dat (.int (i : Int)))) (lpE X B (J (i + 1)) rest D))
    (hd : ∀ ss', J n.toNat ss' → Go X B rest ss' D) (hm : X.mg "range" = none) (hg : Gl X "range" := by rfl) (hn1 : NSt X a := by intro _; rfl)
    (hps : ∀ wi, PI X (.Name x p) (.Call (.Name "range" p2) [a] [] p3) wi → PS X (.For (.Name x p) (.Call (.Name "range" p2) [a] [] p3) body [] pos) (tFor wi (gName j) (tSS X body)) := by intro _ hw; exact ps_for (Cxt.pass (by assumption)) (Cxt.calm (by assumption)) hw (pg_name (Cxt.nd (by assumption)) (by rfl) (by first | exact Or.inl rfl | exact Or.inr rfl)) pss_sem) :
    Go X B (.For (.Name x p) (.Call (.Name "range" p2) [a] [] p3) body [] pos :: rest) ss D :=
  go_step (hps _ (pi_range1 hg hm (pa_cons pe_sem pa_nil (hn1 [])) (hn1 []))) fun σ F H s => he σ F H s _ fun v F1 H1 g r => by
    cases r
    refine ⟨n, rfl, hn.1, hn.2, for_range (lo := 0) (n := n.toNat) (fun i => Mid X B (J i)) ⟨F1, ss, h0, s.grow g⟩ (fun i σ' H' hi ⟨F', ss', j', s'⟩ => ?_) fun σ' H' ⟨F', ss', j', s'⟩ => hd ss' j' σ' F' H' s'⟩
    have e0 : (0 : Int) + (i : Int) = (i : Int) := Int.zero_add _
    show tSS X body (lpE X B (J (i + 1)) rest D) (σ'.set j (some (.int ((0 : Int) + (i : Int))))) H'
    rw [e0]
    exact hb i ss' (by omega) j' _ F' H' (s'.set_dat (.int _))
/-- for k in range(lo, n) -/
theorem go_rng2 {lo n : Int} (j : Nat) {x : Str} (J : Nat → List SD → Prop) (cx : Cxt X) (he : PD X B a ss (.int lo)) (he2 : PD X B b ss (.int n)) (hn : (-(2 ^ 62) ≤ lo ∧ lo < 2 ^ 62) ∧ -(2 ^ 62) ≤ n ∧ n < 2 ^ 62) (h0 : J 0 ss)
    (hb : ∀ (i : Nat) (ss' : List SD), lo + (i : Int) < n → J i ss' → Go X B body (ss'.set j (.dat (.int (lo + (i : Int))))) (lpE X B (J (i + 1)) rest D))
    (hd : ∀ ss', J (n - lo).toNat ss' → Go X B rest ss' D) (hm : X.mg "range" = none) (hg : Gl X "range" := by rfl) (hn1 : NSt X a := by intro _; rfl) (hn2 : NSt X b := by intro _; rfl)
    (hps : ∀ wi, PI X (.Name x p) (.Call (.Name "range" p2) [a, b] [] p3) wi → PS X (.For (.Name x p) (.Call (.Name "range" p2) [a, b] [] p3) body [] pos) (tFor wi (gName j) (tSS X body)) := by intro _ hw; exact ps_for (Cxt.pass (by assumption)) (Cxt.calm (by assumption)) hw (pg_name (Cxt.nd (by assumption)) (by rfl) (by first | exact Or.inl rfl | exact Or.inr rfl)) pss_sem) :
    Go X B (.For (.Name x p) (.Call (.Name "range" p2) [a, b] [] p3) body [] pos :: rest) ss D :=
  go_step (hps _ (pi_range2 hg hm (pa_cons pe_sem (pa_cons pe_sem pa_nil (hn2 [])) (hn1 [b])) (by rw [hn1 [b], hn2 []]; rfl) (hn2 []))) fun σ F H s => he σ F H s _ fun v F1 H1 g1 r1 => he2 σ F1 H1 (s.grow g1) _ fun w F2 H2 g2 r2 => by
    cases r1; cases r2
    refine ⟨lo, n, rfl, ⟨hn.1.1, hn.1.2, hn.2.1, hn.2.2⟩, for_range (lo := lo) (n := (n - lo).toNat) (fun i => Mid X B (J i)) ⟨F2, ss, h0, s.grow (g1.trans g2)⟩ (fun i σ' H' hi ⟨F', ss', j', s'⟩ => ?_) fun σ' H' ⟨F', ss', j', s'⟩ => hd ss' j' σ' F' H' s'⟩
    exact hb i ss' (by omega) j' _ F' H' (s'.set_dat (.int _))
theorem go_while (J : Nat → List SD → Prop) (m0 : Nat) (cx : Cxt X) (h0 : J m0 ss)
    (hs : ∀ (m : Nat) (ss' : List SD), J m ss' → ∃ k, TD X B c ss' k ∧ (k = true → Go X B body ss' (lpE X B (fun s => ∃ m', m' < m ∧ J m' s) rest D)) ∧ (k = false → Go X B rest ss' D)) : Go X B (.While c body [] pos :: rest) ss D :=
  go_step (ps_while cx.pass pt_sem pss_sem) fun σ F H s => by
    refine ⟨fun m => Mid X B (J m), ⟨m0, F, ss, h0, s⟩, fun m σ' H' ⟨F', ss', j', s'⟩ => ?_⟩
    obtain ⟨k, tk, h1, h2⟩ := hs m ss' j'
    refine tk σ' F' H' s' _ fun F1 H1 g => ?_
    cases k with
    | true => exact iteT ⟨Mid X B (fun s => ∃ m', m' < m ∧ J m' s), fun σ2 H2 ⟨F2, ss2, ⟨m', hm, j2⟩, s2⟩ => ⟨m', hm, F2, ss2, j2, s2⟩, h1 rfl σ' F1 H1 (s'.grow g)⟩
    | false => exact iteF (h2 rfl σ' F1 H1 (s'.grow g))
end
end G

namespace G
open PySem L2
/-! ### what a def promises: of data -/
inductive Out where
  | val (d : PyData)
  | new (ds : List PyData)
  | exc (c : Addr)
  | raw (P : Hp → V → Hp → Hp → Prop)
def OutK (K : PySem.W.Frag) (C : Addr) (F H : Hp) (Q : VK) (E : XK) : Out → Prop
  | .val d => ∀ v F' H', Grow F H F' H' → Rp K C F' v d → Q v H'
  | .new ds => ∀ a vs F' H', Grow F H F' H' → H a = none → F' a = none → H' a = some (.lst vs) → RpAll K C F' vs ds → Q (.ref a) H'
  | .exc c => ∀ H', Same H H' → E (.ref c) none H'
  | .raw P => ∀ v F' H', Grow F H F' H' → P H v F' H' → Q v H'
def spO {α : Type} (K : PySem.W.Frag) (C : Addr) (args : α → List PyData) (pre : α → Prop) (out : α → Out) : Sp := fun vs H Q E =>
  ∃ (x : α) (F : Hp), pre x ∧ Same F H ∧ RpAll K C F vs (args x) ∧ OutK K C F H Q E (out x)
/-- a def of the module that keeps the promise sp -/
def Cal (P : Program) (w : World) (K : PySem.W.Frag) (mg : Str → Option Value) (base : Heap) (x : Str) (k : Nat) (sp : Sp) : Prop :=
  ∃ (f : Addr) (fd : FuncData) (ps : List Str), FnOk P w K mg base (L2.CX P w) k f fd ps sp ∧ mg x = some (.ref f) ∧ PySem.W.keepIn K (.ref f) = true ∧ Binds K fd ps []
/-- a method of the class at C -/
def CalM (P : Program) (w : World) (K : PySem.W.Frag) (mg : Str → Option Value) (base : Heap) (C : Addr) (m : Str) (k : Nat) (sp : Sp) : Prop :=
  ∃ (f : Addr) (fd : FuncData) (ps : List Str), FnOk P w K mg base (L2.CX P w) k f fd ps sp ∧ Meth K C m f ∧ Binds K fd ps []
/-- an exception of this class may leave, from slots and heap as W says -/
def PX (X : Cx) (B : Bs) (W : WX) (e : Expr) (ss : List SD) (c : Addr) : Prop := ∀ (σ : St) (F H : Hp), Sat X.K B ss σ F H → (∀ H', Same H H' → W (.ref c) none σ H') → ∀ Q : VK, tSem X e σ H Q
section
variable {X : Cx} {B : Bs} {ss : List SD} {e a b c : Expr} {es : List Expr} {pos p p2 p3 p4 : Pos} {d x y z : PyData} {ds ds' : List PyData} {rest body orelse : List Stmt} {st : Stmt} {D : Ends}
  {α : Type} {args : α → List PyData} {pre : α → Prop} {out : α → Out} {fn : Str} {k : Nat}
theorem pd_call (cf : Cal X.prog X.w X.K X.mg X.base fn k (spO X.K B.C args pre out)) (hr : Room k X.A) (u : α) (ha : PDs X B (e :: es) ss (args u)) (ho : out u = .val d) (hp : pre u)  (hg : Gl X fn := by rfl)
    (hdb : (fn == ("__debug__" : Str)) = false := by decide) (he : starEach (e :: es) X.env = (false, eval e X.env) :: starEach es X.env := by rfl) (hpl : (backTo pos (starEach es X.env)).any (·.1) = false := by rfl) :
    PD X B (.Call (.Name fn p) (e :: es) [] pos) ss d := fun σ F H s Q q => by
  obtain ⟨f, fd, ps, F0, hm, hk, hb⟩ := cf
  refine sem_of (pe_call (dvs := []) (ds := []) F0 hr hg hm hk hb .nil passL pa_sem hdb he hpl) (ha σ F H s _ fun vs F1 H1 g r => ?_)
  refine ⟨u, F1, hp, g.fh, by rw [List.append_nil]; exact r, ?_⟩
  rw [ho]
  exact fun v F2 H2 g2 r2 => q v F2 H2 (g.trans g2) r2
theorem pn_call (cf : Cal X.prog X.w X.K X.mg X.base fn k (spO X.K B.C args pre out)) (hr : Room k X.A) (u : α) (ha : PDs X B (e :: es) ss (args u)) (ho : out u = .new ds) (hp : pre u) (hg : Gl X fn := by rfl)
    (hdb : (fn == ("__debug__" : Str)) = false := by decide) (he : starEach (e :: es) X.env = (false, eval e X.env) :: starEach es X.env := by rfl) (hpl : (backTo pos (starEach es X.env)).any (·.1) = false := by rfl) :
    PN X B (.Call (.Name fn p) (e :: es) [] pos) ss ds := fun σ F H s Q q => by
  obtain ⟨f, fd, ps, F0, hm, hk, hb⟩ := cf
  refine sem_of (pe_call (dvs := []) (ds := []) F0 hr hg hm hk hb .nil passL pa_sem hdb he hpl) (ha σ F H s _ fun vs F1 H1 g r => ?_)
  refine ⟨u, F1, hp, g.fh, by rw [List.append_nil]; exact r, ?_⟩
  rw [ho]
  exact fun l ws F2 H2 g2 n nf h2 r2 => q l ws F2 H2 (g.trans g2) (g.hh.free n) nf h2 r2
theorem px_call {W : WX} {cc : Addr} (tk : Takes X W) (cf : Cal X.prog X.w X.K X.mg X.base fn k (spO X.K B.C args pre out)) (hr : Room k X.A) (u : α) (ha : PDs X B (e :: es) ss (args u)) (ho : out u = .exc cc) (hp : pre u) (hg : Gl X fn := by rfl)
    (hdb : (fn == ("__debug__" : Str)) = false := by decide) (he : starEach (e :: es) X.env = (false, eval e X.env) :: starEach es X.env := by rfl) (hpl : (backTo pos (starEach es X.env)).any (·.1) = false := by rfl) :
    PX X B W (.Call (.Name fn p) (e :: es) [] pos) ss cc := fun σ F H s hW Q => by
  obtain ⟨f, fd, ps, F0, hm, hk, hb⟩ := cf
  refine sem_of (pe_callS (E := WE W) F0 hr hg hm hk hb (fun σ => passAt tk σ) pa_sem hdb he hpl) (ha σ F H s _ fun vs F1 H1 g r => ?_)
  refine ⟨u, F1, hp, g.fh, r, ?_⟩
  rw [ho]
  exact fun H' h => hW H' (g.hh.trans h)
/-- o.m() -/
theorem pd_meth0 {m h t : Int} {nm : Str} {pl : Sem Bool} (cf : CalM X.prog X.w X.K X.mg X.base B.C nm k (spO X.K B.C args pre out)) (cl : Cls X.K B.C) (hr : Room k X.A) (u : α) (ha : PD X B a ss (flr m h t ds)) (hu : args u = [flr m h t ds]) (hlk : ∀ b, (flF m h t b).lookup nm = none) (ho : out u = .val d) (hp : pre u)
    (ht : eval (.Call (.Attribute a nm p) [] [] pos) X.env = (do
      let ov ← eval a X.env
      standAt p.atName
      let (f, first) ← holding [ov] (getMethod ov nm pl)
      callWith pos f first (backTo pos (starEach [] X.env)) (backToKw pos (keywordEach [] X.env))) := by rfl) :
    PD X B (.Call (.Attribute a nm p) [] [] pos) ss d := fun σ F H s Q q => by
  obtain ⟨f, fd, ps, F0, hm, hb⟩ := cf
  refine sem_of (pe_meth0 (dvs := []) (ds := []) pe_sem cl hm F0 hr hb .nil passL ht) (ha σ F H s _ fun v F1 H1 g r => ?_)
  have r' := r
  cases r with
  | flr h1 h2 h3 =>
    refine ⟨_, _, _, rfl, g.fh _ _ h1, hlk _, u, F1, hp, g.fh, by rw [hu]; exact .one r', ?_⟩
    rw [ho]
    exact fun v F2 H2 g2 r2 => q v F2 H2 (g.trans g2) r2
theorem pn_meth0 {m h t : Int} {nm : Str} {pl : Sem Bool} (cf : CalM X.prog X.w X.K X.mg X.base B.C nm k (spO X.K B.C args pre out)) (cl : Cls X.K B.C) (hr : Room k X.A) (u : α) (ha : PD X B a ss (flr m h t ds)) (hu : args u = [flr m h t ds]) (hlk : ∀ b, (flF m h t b).lookup nm = none) (ho : out u = .new ds') (hp : pre u)
    (ht : eval (.Call (.Attribute a nm p) [] [] pos) X.env = (do
      let ov ← eval a X.env
      standAt p.atName
      let (f, first) ← holding [ov] (getMethod ov nm pl)
      callWith pos f first (backTo pos (starEach [] X.env)) (backToKw pos (keywordEach [] X.env))) := by rfl) :
    PN X B (.Call (.Attribute a nm p) [] [] pos) ss ds' := fun σ F H s Q q => by
  obtain ⟨f, fd, ps, F0, hm, hb⟩ := cf
  refine sem_of (pe_meth0 (dvs := []) (ds := []) pe_sem cl hm F0 hr hb .nil passL ht) (ha σ F H s _ fun v F1 H1 g r => ?_)
  have r' := r
  cases r with
  | flr h1 h2 h3 =>
    refine ⟨_, _, _, rfl, g.fh _ _ h1, hlk _, u, F1, hp, g.fh, by rw [hu]; exact .one r', ?_⟩
    rw [ho]
    exact fun l ws F2 H2 g2 n nf h2 r2 => q l ws F2 H2 (g.trans g2) (g.hh.free n) nf h2 r2
/-! ### statements that raise -/
theorem go_asgX {W : WX} {cc : Addr} {i : Nat} {x : Str} (hN : X.N.Nodup) (hi : X.N[i]? = some x) (he : PX X B W e ss cc) (k : ∀ (σ : St) (F H : Hp), Sat X.K B ss σ F H → ∀ H', Same H H' → W (.ref cc) none σ H') (hx : Loc X.env.scope x := by first | exact Or.inl rfl | exact Or.inr rfl) (hs : swapsWith e (some (.Name x p)) pos.line X.env = pure false := by rfl)
    (hf : X.fn x = true ∨ X.env.scope.names.lookup x = some .local := by first | exact .inl rfl | exact .inr rfl) : Go X B (.Assign [.Name x p] e pos :: rest) ss D :=
  go_step (ps_set hN hi hx pe_sem hs hf) fun σ F H s => he σ F H s (k σ F H s) _
theorem go_dropX {W : WX} {cc : Addr} (he : PX X B W e ss cc) (k : ∀ (σ : St) (F H : Hp), Sat X.K B ss σ F H → ∀ H', Same H H' → W (.ref cc) none σ H') (hs : swapsWith e none pos.line X.env = pure false := by rfl) : Go X B (.Expr e pos :: rest) ss D :=
  go_step (ps_expr pe_sem hs) fun σ F H s => he σ F H s (k σ F H s) _
theorem go_retX {W : WX} {cc : Addr} (he : PX X B W e ss cc) (k : ∀ (σ : St) (F H : Hp), Sat X.K B ss σ F H → ∀ H', Same H H' → W (.ref cc) none σ H') : Go X B (.Return (some e) pos :: rest) ss D :=
  go_step (ps_ret pe_sem) fun σ F H s => he σ F H s (k σ F H s) _
/-- what the top has written of an own error class without more -/
structure ExT (K : PySem.W.Frag) (mg : Str → Option Value) (x : Str) (C : Addr) : Prop where
  gP : mg x = some (.ref C)
  xP : PySem.W.excIn K C [.type "ValueError", .type "Exception", .type "BaseException", .type "object"] "ValueError.__new__" = true
  kP : PySem.W.keepIn K (.ref C) = true
  bP : PySem.W.subIn K (.ref C) (.type "BaseException") = some true
  tP : PySem.W.typeIn K (.ref C) = some (.type "type")
theorem go_raise {W : WX} {cc : Addr} {x m : Str} {j : Nat} (hc : X.calm = true) (tk : Takes X W) (T : ExT X.K X.mg x cc) (k : ∀ (σ : St) (F H : Hp), Sat X.K B ss σ F H → W (.ref cc) none σ H) (hg : Gl X x := by rfl) (hdb : (x == ("__debug__" : Str)) = false := by decide) :
    Go X B (.Raise (some (.Call (.Name x p) [.Constant (.str m) j p2] [] p3)) none p4 :: rest) ss D :=
  go_step (ps_raise hc tk (pmk_own PySem.F.excBase_ValueError T.xP T.gP T.kP (raises_own T.bP T.tP) hg hdb)) fun σ F H s => k σ F H s

/-! ### comprehensions -/
theorem Sat.swap {K : PySem.W.Frag} {σ : St} {F H : Hp} {j : Nat} (h : Sat K B ss σ F H) : Sat K B (ss.set j .un) (σ.set j none) F H := by
  refine ⟨h.g, h.pin, by rw [List.length_set, List.length_set]; exact h.len, fun i sd q => ?_, fun i l xs ys hil q1 q2 => ?_⟩
  · by_cases hj : j = i
    · subst hj
      have hi : j < ss.length := by
        have := (List.getElem?_eq_some_iff.mp q).1
        rwa [List.length_set] at this
      rw [List.getElem?_set_self hi] at q
      cases q; trivial
    · rw [List.getElem?_set_ne hj] at q ⊢
      exact h.slot i sd q
  · have f : ∀ {l : Nat} {xs : List PyData}, (ss.set j .un)[l]? = some (.own xs) → j ≠ l ∧ ss[l]? = some (.own xs) := fun {l xs} q => by
      by_cases hj : j = l
      · subst hj
        have hi : j < ss.length := by
          have := (List.getElem?_eq_some_iff.mp q).1
          rwa [List.length_set] at this
        rw [List.getElem?_set_self hi] at q; cases q
      · rw [List.getElem?_set_ne hj] at q; exact ⟨hj, q⟩
    obtain ⟨n1, e1⟩ := f q1
    obtain ⟨n2, e2⟩ := f q2
    rw [List.getElem?_set_ne n1, List.getElem?_set_ne n2]
    exact h.ne i l xs ys hil e1 e2
/-- the names of a block that runs for a comprehension -/
abbrev Blk (X : Cx) (scope : Scope) (s : Shared) (H : Hp) (C : Addr) (cl : List (Str × Addr)) (fp : List Addr) : Cx := X.blk s H scope (compEnvC scope cl C X.env) fp
def tBlk (X : Cx) (scope : Scope) (e : Expr) : TE := fun σ H Q => ∀ (s : Shared) (H' : Hp) (C : Addr) (cl : List (Str × Addr)) (fp : List Addr), tSem (Blk X scope s H' C cl fp) e σ H Q
def tBlkT (X : Cx) (scope : Scope) (e : Expr) : TT := fun σ H Q => ∀ (s : Shared) (H' : Hp) (C : Addr) (cl : List (Str × Addr)) (fp : List Addr), tSemT (Blk X scope s H' C cl fp) e σ H Q
/-- a comprehension that gives a new list -/
def PLc (X : Cx) (B : Bs) (e : Expr) (ss : List SD) (ds : List PyData) : Prop := ∃ (elt tg iter : Expr) (ifs : List Expr) (scope : Scope) (pos : Pos) (wi : TI) (g : TG) (tt : TT) (te : TE) (own : List (Str × Nat)),
  e = .ListComp elt [⟨tg, iter, ifs, 0⟩] scope pos ∧ PI X tg iter wi ∧ BlkOk X.N X.env.scope scope own ∧ (∀ (s : Shared) (H : Hp) (C : Addr) (cl : List (Str × Addr)) (fp : List Addr), PG (Blk X scope s H C cl fp) tg g) ∧
  (∀ (s : Shared) (H : Hp) (C : Addr) (cl : List (Str × Addr)) (fp : List Addr), PTs (Blk X scope s H C cl fp) ifs tt) ∧ (∀ (s : Shared) (H : Hp) (C : Addr) (cl : List (Str × Addr)) (fp : List Addr), PE (Blk X scope s H C cl fp) elt te) ∧ (∀ x, foldedSetIterable iter X.env x = pure x) ∧
  ∀ (σ : St) (F H : Hp), Sat X.K B ss σ F H → ∀ Q : VK, (∀ a vs F' H', Grow F H F' H' → H a = none → F' a = none → H' a = some (.lst vs) → RpAll X.K B.C F' vs ds → Q (.ref a) H') → tLc wi g tt te (own.map (·.2)) σ H Q
theorem PLc.n (h : PLc X B e ss ds) (cx : Cxt X) : PN X B e ss ds := by
  obtain ⟨elt, tg, iter, ifs, scope, pos, wi, g, tt, te, own, rfl, hi, ok, hg, ht, he, hs, sem⟩ := h
  exact fun σ F H s Q q => sem_of (pe_lc cx.calm cx.nd hi ok hg ht he hs) (sem σ F H s Q q)
theorem PLc.eq (h : PLc X B e ss ds) (q : ds = ds') : PLc X B e ss ds' := q ▸ h
/-- name = [.. for ..] -/
theorem go_asgC (i : Nat) {x : Str} (cx : Cxt X) (h : PLc X B e ss ds) (k : Go X B rest (ss.set i (.own ds)) D) (hi : X.N[i]? = some x := by rfl) (hyl : X.env.scope.names.lookup x = some .local := by rfl)
    (hsw : swapsWith e (some (.Name x p)) pos.line X.env = pure true := by exact sw_true rfl rfl rfl rfl) : Go X B (.Assign [.Name x p] e pos :: rest) ss D := by
  obtain ⟨elt, tg, iter, ifs, scope, pos', wi, g, tt, te, own, rfl, hi', ok, hg, ht, he, hs, sem⟩ := h
  refine go_step (ps_setLc cx.calm cx.nd hi hyl hsw hi' ok hg ht he hs) fun σ F H s => sem σ F H s _ fun a vs F1 H1 g n nf h1 r => ?_
  refine k _ F1 H1 ((s.grow g).set_own (s.g.hh.free n) nf h1 r fun j es hj q z => ?_)
  obtain ⟨a', vs', ea, _, _, h2, _⟩ := s.slot j _ q
  rw [z] at ea
  injection ea with ea
  injection ea with ea
  injection ea with ea
  subst ea
  rw [n] at h2
  cases h2
theorem lcG_sem {β : Type} {xs : List β} {f g : β → PyData} {t : β → Bool} (j : Nat) {tt : TT} {scope : Scope} (he : PIs X B a ss (xs.map f)) (nr : noRaw ss = true) (hz : xs.length < sizeLine)
    (htt : ∀ (Fp : Hp) (u : β), u ∈ xs → ∀ (σ : St) (F H : Hp), Sat X.K (B.pinned Fp) (ss.set j (.dat (f u))) σ F H → ∀ Q : Bool → Hp → Prop, (∀ F' H', Grow F H F' H' → Q (t u) H') → tt σ H Q)
    (hel : ∀ (Fp : Hp) (u : β), u ∈ xs → t u = true → ∀ (s : Shared) (H' : Hp) (C : Addr) (cl : List (Str × Addr)) (fp : List Addr), PD (Blk X scope s H' C cl fp) (B.pinned Fp) e (ss.set j (.dat (f u))) (g u)) :
    ∀ (σ : St) (F H : Hp), Sat X.K B ss σ F H → ∀ Q : VK, (∀ a vs F' H', Grow F H F' H' → H a = none → F' a = none → H' a = some (.lst vs) → RpAll X.K B.C F' vs ((xs.filter t).map g) → Q (.ref a) H') → tLc (iSeq X.K (tSem X a)) (gName j) tt (tBlk X scope e) [j] σ H Q := fun σ F H s Q q =>
  (he σ F H s _ fun l vs F1 H1 g1 sq r => by
    have s1 := s.grow g1
    have ll : vs.length = xs.length := by rw [r.length, List.length_map]
    have main : ∀ Dl, H1 Dl = none → ∃ Pv : Nat → Hp → Prop, Pv 0 (upd H1 Dl (.lst [])) ∧ (∀ i H', Pv i H' → ∃ F', Same F1 F' ∧ Same F' H') ∧
        (∀ i x H', vs[i]? = some x → Pv i H' → gName j x (wipe σ [j]) H' fun σ2 H2 => wipe σ2 [j] = wipe σ [j] ∧ tt σ2 H2 fun b H3 =>
          if b = true then tBlk X scope e σ2 H3 fun z H4 => ∃ acc, H4 Dl = some (.lst acc) ∧ acc.length < sizeLine ∧ Pv (i + 1) (upd H4 Dl (.lst (acc ++ [z]))) else Pv (i + 1) H3) ∧
        (∀ H', Pv vs.length H' → Q (.ref Dl) H') := by
      intro Dl hD
      have ap : ∀ (i : Nat) (es : List PyData), ss[i]? = some (.own es) → σ[i]? ≠ some (some (.ref Dl)) := fun i es e1 e2 => by
        obtain ⟨a', ws, ea, _, _, h2, _⟩ := s1.slot i _ e1
        rw [e2] at ea
        injection ea with ea
        injection ea with ea
        injection ea with ea
        subst ea
        rw [hD] at h2; cases h2
      have hF1 : F1 Dl = none := g1.fh.free hD
      have hB0 : B.H0 Dl = none := s1.g.hh.free hD
      refine ⟨fun i H' => ∃ F' acc, Sat X.K (B.pinned F1) ss σ F' H' ∧ Grow F H F' H' ∧ F' Dl = none ∧ H' Dl = some (.lst acc) ∧ RpAll X.K B.C F' acc (((xs.take i).filter t).map g), ⟨F1, [], s1.pinned.upd hB0 hF1 nr ap, g1.trans (Grow.newO g1.fh hD), hF1, upd_same, ?_⟩, ?_, ?_, ?_⟩
      · rw [List.take_zero]; exact .nil
      · rintro i H' ⟨F', acc, s', _, _⟩
        exact ⟨F', s'.pin, s'.fh⟩
      · rintro i x H' hi ⟨F', acc, s', g', n', h', r'⟩
        obtain ⟨d, hd, rd⟩ := RpAll.getV r hi
        rw [List.getElem?_map] at hd
        cases hu : xs[i]? with
        | none => rw [hu] at hd; cases hd
        | some u =>
          rw [hu] at hd
          cases hd
          have hmem : u ∈ xs := List.mem_of_getElem? hu
          have hil : i < xs.length := (List.getElem?_eq_some_iff.mp hu).1
          have tk : xs.take (i + 1) = xs.take i ++ [u] := by
            rw [List.take_add_one, hu]; rfl
          have al : acc.length ≤ i := by
            rw [r'.length, List.length_map]
            exact Nat.le_trans (List.length_filter_le _ _) (by rw [List.length_take]; omega)
          have wset : (wipe σ [j]).set j (some x) = σ.set j (some x) := by
            show ((wipe σ []).set j none).set j (some x) = _
            rw [List.set_set]; rfl
          have wset2 : wipe (σ.set j (some x)) [j] = wipe σ [j] := by
            show (σ.set j (some x)).set j none = σ.set j none
            rw [List.set_set]
          show wipe ((wipe σ [j]).set j (some x)) [j] = wipe σ [j] ∧ tt ((wipe σ [j]).set j (some x)) H' _
          rw [wset]
          refine ⟨wset2, ?_⟩
          have s2 : Sat X.K (B.pinned F1) (ss.set j (.dat (f u))) (σ.set j (some x)) F' H' := s'.set_dat (rd.mono s'.pin)
          refine htt F1 u hmem _ F' H' s2 _ fun F3 H3 g3 => ?_
          cases hk : t u with
          | false =>
            refine iteF ⟨F3, acc, s'.grow g3, g'.trans g3, g3.own _ _ h' n', g3.hh _ _ h', ?_⟩
            rw [tk, List.filter_append, List.map_append]
            have : ([u].filter t).map g = [] := by rw [List.filter_cons, hk]; rfl
            rw [this, List.append_nil]
            exact r'.mono g3.ff
          | true =>
            refine iteT fun s5 H5 C5 cl5 fp5 => hel F1 u hmem hk s5 H5 C5 cl5 fp5 _ F3 H3 (s2.grow g3) _ fun z F4 H4 g4 r4 => ?_
            have g34 := g3.trans g4
            refine ⟨acc, g34.hh _ _ h', Nat.lt_of_le_of_lt al (Nat.lt_trans hil hz), F4, acc ++ [z], (s'.grow g34).upd hB0 (g34.own _ _ h' n') nr ap (nx_lst (g34.hh _ _ h')), ?_, g34.own _ _ h' n', upd_same, ?_⟩
            · have n4 := g34.own _ _ h' n'
              have hH : H Dl = none := g1.hh.free hD
              exact ⟨fun b o e => by rw [upd_ne (ne_of_none e hH)]; exact (g'.trans g34).hh b o e, (g'.trans g34).ff, fun b o e => by rw [upd_ne (ne_of_none e n4)]; exact g34.fh b o e, (g'.trans g34).own⟩
            · rw [tk, List.filter_append, List.map_append]
              have : ([u].filter t).map g = [g u] := by rw [List.filter_cons, hk]; rfl
              rw [this]
              exact (r'.mono g34.ff).app (.one r4)
      · rintro H' ⟨F', acc, s', g', n', h', r'⟩
        rw [ll, List.take_length] at r'
        exact q Dl acc F' H' g' (g1.hh.free hD) n' h' r'
    refine ⟨l, rfl, ?_⟩
    rcases sq with sq | sq
    · refine .inl ⟨vs, g1.fh.seq sq, fun Dl hD => ?_⟩
      obtain ⟨Pv, p0, pl, ps, pe⟩ := main Dl hD
      exact lc_list (K := X.K) (a := l) (xs := vs) Pv p0 (fun i H' _ pv => let ⟨F', a1, a2⟩ := pl i H' pv; a2.seq (a1.seq sq)) ps pe
    · refine .inr ⟨vs, Same.sqt g1.fh sq, fun Dl hD => ?_⟩
      obtain ⟨Pv, p0, pl, ps, pe⟩ := main Dl hD
      exact lc_tup (K := X.K) (a := l) (xs := vs) Pv p0 (fun i H' _ pv => let ⟨F', a1, a2⟩ := pl i H' pv; Same.sqt a2 (Same.sqt a1 sq)) ps pe)
/-- [e for y in a] -/
theorem pl_lc {β : Type} {xs : List β} {f g : β → PyData} (j : Nat) {y : Str} {scope : Scope} (cx : Cxt X) (he : PIs X B a ss (xs.map f))
    (hel : ∀ (Fp : Hp) (u : β), u ∈ xs → ∀ (s : Shared) (H' : Hp) (C : Addr) (cl : List (Str × Addr)) (fp : List Addr), PD (Blk X scope s H' C cl fp) (B.pinned Fp) e (ss.set j (.dat (f u))) (g u))
    (hz : xs.length < sizeLine) (nr : noRaw ss = true := by rfl)
    (hok : BlkOk X.N X.env.scope scope [(y, j)] := by exact blkOk_by (by kernel_rfl))
    (hpg : X.N.Nodup → ∀ (s : Shared) (H' : Hp) (C : Addr) (cl : List (Str × Addr)) (fp : List Addr), PG (Blk X scope s H' C cl fp) (.Name y p) (gName j) := by intro hnd _ _ _ _ _; exact pg_name hnd (by rfl) (Or.inl rfl))
    (hs : ∀ x, foldedSetIterable a X.env x = pure x := by intro _; rfl) :
    PLc X B (.ListComp e [⟨.Name y p, a, [], 0⟩] scope pos) ss (xs.map g) := by
  have h := lcG_sem (X := X) (B := B) (ss := ss) (e := e) (a := a) (xs := xs) (f := f) (g := g) (t := fun _ => true) (scope := scope) (tt := tYes) j he nr hz
    (fun Fp u hu σ F H s Q q => q F H (Grow.refl s.fh)) (fun Fp u hu _ => hel Fp u hu)
  rw [List.filter_eq_self.mpr (fun _ _ => rfl)] at h
  exact ⟨_, _, _, _, _, _, _, _, _, _, _, rfl, pi_seq pe_sem, hok, hpg cx.nd, fun _ _ _ _ _ => pts_nil, fun s H' C cl fp => ⟨fun pins s1 σ H Q I h => h s H' C cl fp pins s1 I⟩, hs, h⟩
/-- [e for y in a if c] -/
theorem pl_lcIf {β : Type} {xs : List β} {f g : β → PyData} (t : β → Bool) (j : Nat) {y : Str} {scope : Scope} (cx : Cxt X) (he : PIs X B a ss (xs.map f))
    (htt : ∀ (Fp : Hp) (u : β), u ∈ xs → ∀ (s : Shared) (H' : Hp) (C : Addr) (cl : List (Str × Addr)) (fp : List Addr), TD (Blk X scope s H' C cl fp) (B.pinned Fp) c (ss.set j (.dat (f u))) (t u))
    (hel : ∀ (Fp : Hp) (u : β), u ∈ xs → t u = true → ∀ (s : Shared) (H' : Hp) (C : Addr) (cl : List (Str × Addr)) (fp : List Addr), PD (Blk X scope s H' C cl fp) (B.pinned Fp) e (ss.set j (.dat (f u))) (g u))
    (hz : xs.length < sizeLine) (nr : noRaw ss = true := by rfl)
    (hok : BlkOk X.N X.env.scope scope [(y, j)] := by exact blkOk_by (by kernel_rfl))
    (hpg : X.N.Nodup → ∀ (s : Shared) (H' : Hp) (C : Addr) (cl : List (Str × Addr)) (fp : List Addr), PG (Blk X scope s H' C cl fp) (.Name y p) (gName j) := by intro hnd _ _ _ _ _; exact pg_name hnd (by rfl) (Or.inl rfl))
    (hs : ∀ x, foldedSetIterable a X.env x = pure x := by intro _; rfl) :
    PLc X B (.ListComp e [⟨.Name y p, a, [c], 0⟩] scope pos) ss ((xs.filter t).map g) :=
  ⟨_, _, _, _, _, _, _, _, _, _, _, rfl, pi_seq pe_sem, hok, hpg cx.nd, fun s H' C cl fp => pts_one ⟨fun pins s1 σ H Q I h => h s H' C cl fp pins s1 I⟩, fun s H' C cl fp => ⟨fun pins s1 σ H Q I h => h s H' C cl fp pins s1 I⟩, hs,
    lcG_sem (X := X) (B := B) (ss := ss) (e := e) (a := a) (xs := xs) (f := f) (g := g) (t := t) (scope := scope) (tt := tBlkT X scope c) j he nr hz
    (fun Fp u hu σ F H s Q q s1 H1 C1 cl1 fp1 => htt Fp u hu s1 H1 C1 cl1 fp1 σ F H s Q q) hel⟩
/-- a block's own context -/
theorem Cxt.blk (cx : Cxt X) {scope : Scope} {s : Shared} {H : Hp} {C : Addr} {cl : List (Str × Addr)} {fp : List Addr} : Cxt (Blk X scope s H C cl fp) := ⟨cx.calm, cx.nd, PassesOwn.never, cx.units⟩
end

/-! ### a def -/
section
variable {P : Program} {w : World} {K : PySem.W.Frag} {mg : Str → Option Value} {base : Heap}
theorem start_get {N : List Str} {vs : List V} {i : Nat} {v : V} (h : vs[i]? = some v) : (L2.start N vs)[i]? = some (some v) := by
  unfold L2.start
  rw [List.getElem?_append_left (by rw [List.length_map]; exact (List.getElem?_eq_some_iff.mp h).1), List.getElem?_map, h]
  rfl
theorem sat_start {C : Addr} {F H : Hp} {vs : List V} {ds : List PyData} {N : List Str} (hf : Same F H) (r : RpAll K C F vs ds) (hl : ds.length ≤ N.length) :
    Sat K ⟨C, F, H, F⟩ (ds.map SD.dat ++ List.replicate (N.length - ds.length) SD.un) (L2.start N vs) F H where
  g := Grow.refl hf
  pin := Same.refl _
  len := by
    unfold L2.start
    rw [List.length_append, List.length_append, List.length_map, List.length_map, List.length_replicate, List.length_replicate, r.length]
  slot := fun i sd e => by
    by_cases hi : i < ds.length
    · rw [List.getElem?_append_left (by rw [List.length_map]; exact hi), List.getElem?_map, List.getElem?_eq_getElem hi] at e
      cases e
      obtain ⟨v, hv, rv⟩ := RpAll.get r (List.getElem?_eq_getElem hi)
      exact ⟨v, start_get hv, rv⟩
    · rw [List.getElem?_append_right (by rw [List.length_map]; omega), List.getElem?_replicate] at e
      split at e
      · cases e; trivial
      · cases e
  ne := fun i j xs ys hij e1 e2 => by
    exfalso
    by_cases hi : i < ds.length
    · rw [List.getElem?_append_left (by rw [List.length_map]; exact hi), List.getElem?_map, List.getElem?_eq_getElem hi] at e1
      cases e1
    · rw [List.getElem?_append_right (by rw [List.length_map]; omega), List.getElem?_replicate] at e1
      split at e1
      · cases e1
      · cases e1
/-- the ends of a def's body -/
abbrev dE (Q : VK) : Ends := { nx := fun _ H' => Q .non H', rt := Q }
/-- what a def's exceptions are wished to be -/
abbrev dW (E : XK) : WX := fun cls d _ H => E cls d H
theorem ok_fn {x qual : Str} {st : Stmt} {f : Addr} {fd : FuncData} {N ps : List Str} {k : Nat} {C : Addr} {α : Type} {args : α → List PyData} {pre : α → Prop} {out : α → Out} (F : L2.Fun K x qual st f fd) (S : FnScope N ps (defScope st)) (hl : ∀ a, (args a).length = ps.length)
    (body : ∀ (cdv : Value) (A : Around) (outer : List Env) (s : Shared) (H F0 : Hp) (u : α) (Q : VK) (E : XK) (X : Cx) (hX : X = cxOf (L2.CX P w) P w K mg base N qual (defScope st) f cdv A outer s H E), Cxt X → Room k X.A → Takes X (dW E) → pre u → OutK K C F0 H Q E (out u) →
      Go X ⟨C, F0, H, F0⟩ (defBody st) ((args u).map SD.dat ++ List.replicate (N.length - (args u).length) SD.un) (dE Q)) :
    FnOk P w K mg base (L2.CX P w) (k + 1) f fd ps (spO K C args pre out) := by
  have hNl : ps.length ≤ N.length := by have := congrArg List.length S.pre; rw [List.length_take] at this; omega
  refine F.okX S (fun vs H Q E h => ?_) (fun cdv A outer s H vs Q E hr h => ?_)
  · obtain ⟨u, F0, _, _, r, _⟩ := h
    rw [r.length, hl]
  · obtain ⟨u, F0, hp, hf, r, ho⟩ := h
    refine ⟨_, pss_sem, ?_⟩
    have cx : Cxt (cxOf (L2.CX P w) P w K mg base N qual (defScope st) f cdv A outer s H E) := ⟨rfl, S.nd, passes_of rfl, by have := hr.un; show (A.deeper _).units + 65 < cLine; omega⟩
    exact body cdv A outer s H F0 u Q E _ rfl cx hr (takes_of rfl rfl rfl rfl) hp ho _ F0 H (sat_start hf r (by rw [hl]; exact hNl))
theorem cal_mk {x : Str} {st : Stmt} {f : Addr} {fd : FuncData} {ps : List Str} {k : Nat} {sp : Sp} (F : L2.Fun K x x st f fd) (g : mg x = some (.ref f)) (b : Binds K fd ps []) (h : FnOk P w K mg base (L2.CX P w) k f fd ps sp) : Cal P w K mg base x k sp := ⟨f, fd, ps, h, g, F.kp, b⟩
end
end G

namespace G
open PySem L2
/-! ### sorting, doubles -/
def ins (a : Int) : List Int → List Int
  | [] => [a]
  | b :: r => if a ≤ b then a :: b :: r else b :: ins a r
def isort : List Int → List Int
  | [] => []
  | a :: r => ins a (isort r)
theorem ins_perm (a : Int) : ∀ l : List Int, (ins a l).Perm (a :: l)
  | [] => .refl _
  | b :: r => by
    unfold ins
    split
    · exact .refl _
    · exact ((ins_perm a r).cons b).trans (.swap a b r)
theorem isort_perm : ∀ l : List Int, (isort l).Perm l
  | [] => .refl _
  | a :: r => (ins_perm a (isort r)).trans ((isort_perm r).cons a)
theorem ins_sorted (a : Int) : ∀ l : List Int, l.Pairwise (· ≤ ·) → (ins a l).Pairwise (· ≤ ·)
  | [], _ => by unfold ins; exact List.pairwise_singleton _ _
  | b :: r, h => by
    rw [List.pairwise_cons] at h
    unfold ins
    split
    · rename_i hab
      rw [List.pairwise_cons, List.pairwise_cons]
      refine ⟨fun x hx => ?_, h⟩
      rcases List.mem_cons.mp hx with e | hx
      · subst e; exact hab
      · exact Int.le_trans hab (h.1 x hx)
    · rename_i hab
      rw [List.pairwise_cons]
      refine ⟨fun x hx => ?_, ins_sorted a r h.2⟩
      rcases List.mem_cons.mp ((ins_perm a r).mem_iff.mp hx) with e | hx
      · subst e; omega
      · exact h.1 x hx
theorem isort_sorted : ∀ l : List Int, (isort l).Pairwise (· ≤ ·)
  | [] => List.Pairwise.nil
  | a :: r => ins_sorted a _ (isort_sorted r)
theorem sorted_one : ∀ {l m : List Int}, l.Perm m → l.Pairwise (· ≤ ·) → m.Pairwise (· ≤ ·) → l = m
  | [], m, p, _, _ => (List.nil_perm.mp p).symm
  | a :: l, [], p, _, _ => absurd (List.perm_nil.mp p) (by simp)
  | a :: l, b :: m, p, h1, h2 => by
    rw [List.pairwise_cons] at h1 h2
    have hab : a = b := by
      have ha : a ∈ b :: m := p.mem_iff.mp List.mem_cons_self
      have hb : b ∈ a :: l := p.mem_iff.mpr List.mem_cons_self
      rcases List.mem_cons.mp ha with e | ha
      · exact e
      · rcases List.mem_cons.mp hb with e | hb
        · exact e.symm
        · have := h2.1 a ha
          have := h1.1 b hb
          omega
    subst hab
    rw [sorted_one (List.Perm.cons_inv p) h1.2 h2.2]
theorem isort_is {l m : List Int} (p : l.Perm m) (h : l.Pairwise (· ≤ ·)) : l = isort m := sorted_one (p.trans (isort_perm m).symm) h (isort_sorted m)
theorem isort_length (l : List Int) : (isort l).length = l.length := (isort_perm l).length_eq
/-- rows of numbers, a standing -/
abbrev dRow (r : List Int) : PyData := .tuple (r.map .int)
abbrev dSt (S : List (List Int)) : PyData := .tuple (S.map dRow)
abbrev dIs (r : List Int) : List PyData := r.map .int
theorem flatten_take {α : Type} {S : List (List α)} {i : Nat} {r : List α} (h : S[i]? = some r) : (S.take (i + 1)).flatten = (S.take i).flatten ++ r := by
  rw [List.take_add_one, h]
  simp
theorem flatten_take_le {α : Type} (S : List (List α)) (i : Nat) : (S.take i).flatten.length ≤ S.flatten.length := by
  have h : S.flatten = (S.take i).flatten ++ (S.drop i).flatten := by rw [← List.flatten_append, List.take_append_drop]
  rw [h, List.length_append]
  omega
/-- the builtins that the texts name, none of them a name of the module -/
structure Bl (mg : Str → Option Value) : Prop where
  len : mg "len" = none
  list : mg "list" = none
  tuple : mg "tuple" = none
  range : mg "range" = none
  sorted : mg "sorted" = none
  set : mg "set" = none
  min : mg "min" = none
  max : mg "max" = none
  abs : mg "abs" = none
  isinstance : mg "isinstance" = none
  int : mg "int" = none
  bool : mg "bool" = none
  str : mg "str" = none
  all : mg "all" = none
theorem sz1000 {n : Nat} (h : n ≤ 1000) : n ≤ sizeLine := Nat.le_of_lt (small1000 h)
theorem sz4000 {n : Nat} (h : n ≤ 4000) : n ≤ sizeLine := Nat.le_trans h (by decide)
theorem szBig {n : Nat} (h : n ≤ 1000000) : n < sizeLine := Nat.lt_of_le_of_lt h (by decide)
end G

namespace G
open PySem L2
/-! ### min, max with a default; how many unlike ones -/
def minDf (d : Int) : List Int → Int
  | [] => d
  | n :: r => r.foldl min n
def maxDf (d : Int) : List Int → Int
  | [] => d
  | n :: r => r.foldl max n
theorem readsInts {h : Heap} : ∀ {ns : List Int} {us : List Value}, Vals (ns.map V.int) us → ReadsAll h us (ns.map PyData.int) []
  | [], _, .nil => .nil
  | n :: r, _, .cons hv t => by
    obtain ⟨k, rfl⟩ := hv
    exact ReadsAll.cons (as := []) (bs := []) (.int n k) (readsInts t)
theorem depInts : ∀ ns : List Int, PyData.depthAll (ns.map PyData.int) = 0
  | [] => by simp [PyData.depthAll]
  | n :: r => by
    have h := depInts r
    simp only [List.map_cons, PyData.depthAll, PyData.depth]
    omega
theorem alikeInts (ns : List Int) : PySem.W.AlikeAll (ns.map PyData.int) := by
  refine ⟨fun x hx y hy => ?_, fun x hx => ?_⟩
  · obtain ⟨i, _, rfl⟩ := List.mem_map.mp hx
    obtain ⟨j, _, rfl⟩ := List.mem_map.mp hy
    rfl
  · obtain ⟨i, _, rfl⟩ := List.mem_map.mp hx
    exact fun z => nomatch z
section
variable {X : Cx} {B : Bs} {ss : List SD} {e a b c : Expr} {es : List Expr} {pos p p2 p3 p4 : Pos} {d x y z : PyData} {ds ds' : List PyData}
def rMinDf (K : PySem.W.Frag) : List V → List V → Hp → VK → Prop := fun vs zs H Q => ∃ (a : Addr) (ns : List Int) (d : Int), vs = [.ref a] ∧ zs = [.int d] ∧ SqL K H a (ns.map V.int) ∧ Q (.int (minDf d ns)) H
def rMaxDf (K : PySem.W.Frag) : List V → List V → Hp → VK → Prop := fun vs zs H Q => ∃ (a : Addr) (ns : List Int) (d : Int), vs = [.ref a] ∧ zs = [.int d] ∧ SqL K H a (ns.map V.int) ∧ Q (.int (maxDf d ns)) H
theorem cr_minDf (hc : X.calm = true) (hu : X.A.units + 65 < cLine) : CallRK X (.builtin "min") [Str.ofString "default"] (rMinDf X.K) := by
  intro pins s σ H xs zs us ws Q I r rz h
  obtain ⟨a, ns, d, rfl, rfl, hs, q⟩ := h
  obtain rfl := Vals.ref1 r
  cases rz with
  | cons rd rn =>
    cases rn
    obtain ⟨td, rfl⟩ := rd
    obtain ⟨its, rv, pl, hz⟩ := I.list hs
    refine PySem.W.min_list_default (I.ok.hd hc) pl.isList (xs := ns.map PyData.int) (as := []) (by simpa using readsInts (h := s.heap) rv) (alikeInts ns) (by rw [depInts]; omega) (fun e h' tk k => ?_) (fun y ys i v h' tk bs e hv hr k => ?_)
    · cases ns with
      | cons _ _ => cases e
      | nil => exact ⟨.int d, H, I.kept (t' := tk) k, ⟨_, rfl⟩, q⟩
    · cases ns with
      | nil => cases e
      | cons n r =>
        rw [List.map_cons] at e
        injection e with e1 e2
        subst e1 e2
        rw [PySem.W.minD_ints] at hr
        cases hr with
        | int m t => exact ⟨.int (r.foldl min n), H, I.kept (t' := tk) k, ⟨t, rfl⟩, q⟩
theorem cr_maxDf (hc : X.calm = true) (hu : X.A.units + 65 < cLine) : CallRK X (.builtin "max") [Str.ofString "default"] (rMaxDf X.K) := by
  intro pins s σ H xs zs us ws Q I r rz h
  obtain ⟨a, ns, d, rfl, rfl, hs, q⟩ := h
  obtain rfl := Vals.ref1 r
  cases rz with
  | cons rd rn =>
    cases rn
    obtain ⟨td, rfl⟩ := rd
    obtain ⟨its, rv, pl, hz⟩ := I.list hs
    refine PySem.W.max_list_default (I.ok.hd hc) pl.isList (xs := ns.map PyData.int) (as := []) (by simpa using readsInts (h := s.heap) rv) (alikeInts ns) (by rw [depInts]; omega) (fun e h' tk k => ?_) (fun y ys i v h' tk bs e hv hr k => ?_)
    · cases ns with
      | cons _ _ => cases e
      | nil => exact ⟨.int d, H, I.kept (t' := tk) k, ⟨_, rfl⟩, q⟩
    · cases ns with
      | nil => cases e
      | cons n r =>
        rw [List.map_cons] at e
        injection e with e1 e2
        subst e1 e2
        rw [PySem.W.maxD_ints] at hr
        cases hr with
        | int m t => exact ⟨.int (r.foldl max n), H, I.kept (t' := tk) k, ⟨t, rfl⟩, q⟩
theorem pd_minDf {ns : List Int} {k : Int} {nm : Option Str} {kp : Pos} (cx : Cxt X) (ha : PLi X B e ss (ns.map .int)) (hb : PD X B b ss (.int k)) (hm : X.mg "min" = none) (hv : bootBuiltins "min" = some (.builtin "min") := by decide +kernel) (hg : Gl X "min" := by rfl) (hn : NSt X e := by intro _; rfl)
    (he : backTo pos (starEach [e] X.env) = (false, eval e X.env) :: backTo pos (starEach [] X.env) := by rfl) (hpl : (backTo pos (starEach [e] X.env)).any (·.1) = false := by rfl)
    (hall : (backToKw pos (keywordEach [⟨nm, b, kp⟩] X.env)).all (·.1.isSome) = true := by rfl) (hnone : (backToKw pos (keywordEach [⟨nm, b, kp⟩] X.env)).any (·.1.isNone) = false := by rfl) (hks : (backToKw pos (keywordEach [⟨nm, b, kp⟩] X.env)).filterMap (·.1) = [Str.ofString "default"] := by rfl) :
    PD X B (.Call (.Name "min" p) [e] [⟨nm, b, kp⟩] pos) ss (.int (minDf k ns)) := fun σ F H s Q q =>
  sem_of (pe_callBK (cr_minDf cx.calm cx.units) hg hm hv (pa_cons pe_sem pa_nil (hn [])) (pk_cons pe_sem pk_nil) (by decide) (by decide) he hpl hall hnone hks) (ha σ F H s _ fun l vs F1 H1 g1 sq r1 => hb σ F1 H1 (s.grow g1) _ fun w F2 H2 g2 r2 => by
    cases r2
    have e := RpAll.intsV r1
    subst e
    exact ⟨l, ns, k, rfl, rfl, g2.hh.seq sq, q _ F2 H2 (g1.trans g2) (.int _)⟩)
theorem pd_maxDf {ns : List Int} {k : Int} {nm : Option Str} {kp : Pos} (cx : Cxt X) (ha : PLi X B e ss (ns.map .int)) (hb : PD X B b ss (.int k)) (hm : X.mg "max" = none) (hv : bootBuiltins "max" = some (.builtin "max") := by decide +kernel) (hg : Gl X "max" := by rfl) (hn : NSt X e := by intro _; rfl)
    (he : backTo pos (starEach [e] X.env) = (false, eval e X.env) :: backTo pos (starEach [] X.env) := by rfl) (hpl : (backTo pos (starEach [e] X.env)).any (·.1) = false := by rfl)
    (hall : (backToKw pos (keywordEach [⟨nm, b, kp⟩] X.env)).all (·.1.isSome) = true := by rfl) (hnone : (backToKw pos (keywordEach [⟨nm, b, kp⟩] X.env)).any (·.1.isNone) = false := by rfl) (hks : (backToKw pos (keywordEach [⟨nm, b, kp⟩] X.env)).filterMap (·.1) = [Str.ofString "default"] := by rfl) :
    PD X B (.Call (.Name "max" p) [e] [⟨nm, b, kp⟩] pos) ss (.int (maxDf k ns)) := fun σ F H s Q q =>
  sem_of (pe_callBK (cr_maxDf cx.calm cx.units) hg hm hv (pa_cons pe_sem pa_nil (hn [])) (pk_cons pe_sem pk_nil) (by decide) (by decide) he hpl hall hnone hks) (ha σ F H s _ fun l vs F1 H1 g1 sq r1 => hb σ F1 H1 (s.grow g1) _ fun w F2 H2 g2 r2 => by
    cases r2
    have e := RpAll.intsV r1
    subst e
    exact ⟨l, ns, k, rfl, rfl, g2.hh.seq sq, q _ F2 H2 (g1.trans g2) (.int _)⟩)
/-- how many unlike numbers -/
def dcount (ns : List Int) : Nat := (PyProof.Rows.firstMet (fun i => ns.getD i 0) ns.length).length
theorem met_len (ns : List Int) : ∀ i, i ≤ ns.length → (PyProof.Rows.firstMet (fun i => ns.getD i 0) i).length = i → PyProof.Rows.firstMet (fun i => ns.getD i 0) i = ns.take i ∧ (ns.take i).Nodup
  | 0, _, _ => ⟨by rw [List.take_zero]; rfl, by rw [List.take_zero]; exact List.nodup_nil⟩
  | i + 1, hi, h => by
    have hlt : i < ns.length := hi
    have e1 : ns.getD i 0 = ns[i] := by
      rw [List.getD_eq_getElem?_getD, List.getElem?_eq_getElem hlt] <;> rfl
    have e2 : ns.take (i + 1) = ns.take i ++ [ns[i]] := by
      rw [List.take_add_one, List.getElem?_eq_getElem hlt] <;> rfl
    have le := PyProof.Rows.firstMet_length_le (fun i => ns.getD i 0) i
    rw [PyProof.Rows.firstMet_succ] at h ⊢
    unfold PyProof.Rows.step_dedup at h ⊢
    cases hb : (PyProof.Rows.firstMet (fun i => ns.getD i 0) i).any (· == ns.getD i 0) with
    | true =>
      rw [hb, if_pos rfl] at h
      omega
    | false =>
      rw [hb, if_neg (by decide)] at h
      rw [if_neg (by decide)]
      rw [List.length_append, List.length_singleton] at h
      obtain ⟨k1, k2⟩ := met_len ns i (Nat.le_of_lt hlt) (by omega)
      rw [k1] at hb ⊢
      rw [e2, e1]
      refine ⟨rfl, List.nodup_append.mpr ⟨k2, (List.nodup_cons.mpr ⟨by simp, List.nodup_nil⟩), fun x hx y hy => ?_⟩⟩
      rw [List.mem_singleton] at hy
      subst hy
      intro e
      subst e
      have : (ns.take i).any (· == ns.getD i 0) = true := List.any_eq_true.mpr ⟨_, hx, by rw [e1]; exact beq_self_eq_true _⟩
      rw [hb] at this
      cases this
theorem dcount_le (ns : List Int) : dcount ns ≤ ns.length := PyProof.Rows.firstMet_length_le _ _
theorem dcount_lt (ns : List Int) : decide ((dcount ns : Int) < (ns.length : Int)) = !decide ns.Nodup := by
  have le := dcount_le ns
  by_cases h : ns.Nodup
  · have e : dcount ns = ns.length := by
      unfold dcount
      rw [RZ.firstMet_nodup h ns.length (Nat.le_refl _), List.take_length]
    rw [decide_eq_true h, e, decide_eq_false (Int.lt_irrefl _)]; rfl
  · have ne : dcount ns ≠ ns.length := fun e => by
      have := (met_len ns ns.length (Nat.le_refl _) e).2
      rw [List.take_length] at this
      exact h this
    rw [decide_eq_false h, decide_eq_true (by omega)]; rfl
def tLenSet (K : PySem.W.Frag) (ta : TE) : TE := fun σ H Q => ta σ H fun x H1 => ∃ (l : Addr) (ns : List Int), x = .ref l ∧ SqL K H1 l (ns.map V.int) ∧ ns.length ≤ 4000 ∧ Q (.int (dcount ns : Nat)) H1
theorem pe_lenSet {p p2 q pos : Pos} {ta : TE} (hc : X.calm = true) (ha : PE X a ta) (hm : X.mg "len" = none) (hm2 : X.mg "set" = none) (hg : Gl X "len") (hg2 : Gl X "set")
    (na : starEach [a] X.env = (false, eval a X.env) :: starEach [] X.env := by rfl) : PE X (.Call (.Name "len" p) [.Call (.Name "set" p2) [a] [] q] [] pos) (tLenSet X.K ta) := by
  refine ⟨fun pins s σ H Q I h => ?_⟩
  refine PyProof.Rows.Call_ (ld_blt I hg hm boot_len ?_)
  refine PyProof.Rows.callWith_builtin1 (PyProof.Rows.args_cons ?_ rfl) rfl rfl
  refine PyProof.Rows.Call_ (ld_blt I hg2 hm2 PyProof.Rows.boot_set ?_)
  refine PyProof.Rows.callWith_type1 (PyProof.Rows.args_cons (thn (ha.run pins s σ H _ I h) fun v s1 ⟨x, H1, I1, r1, q1⟩ => PyProof.Rows.args_nil ?_) na) na rfl
  obtain ⟨l, ns, rfl, hq, hl, q1⟩ := q1
  cases r1
  obtain ⟨its, r, pl, hz⟩ := I1.list hq
  have hlen : its.toArray.size = ns.length := by rw [List.size_toArray, ← r.length, List.length_map]
  refine call_set_list (I1.ok.hd hc) pl.isList (by simpa using RZ.intsAre_vals r) (by rw [hlen]; unfold scanBound; omega) fun h' tk hS hk => ?_
  refine PyProof.Rows.args_nil ?_
  rw [hlen] at hS
  obtain ⟨o, es, ep, t, ho, hex, hd, _, _, _, hf, hn⟩ := hS
  have I2 : Inv X pins σ H1 { s1 with heap := h', toks := tk } := I1.kept fun b o e => hk b o (Heap.lt_size e) e
  have hdl := dcount_le ns
  exact call_len_set ho hex hd hf (by rw [hn]; show ((dcount ns : Nat) : Int) < 2 ^ 63; omega) ⟨.int (dcount ns : Nat), H1, I2.tok _, ⟨_, by rw [hn] <;> rfl⟩, q1⟩
theorem pd_lenSet {ns : List Int} {p p2 q : Pos} (cx : Cxt X) (ha : PLi X B a ss (ns.map .int)) (hz : ns.length ≤ 4000) (hm : X.mg "len" = none) (hm2 : X.mg "set" = none) (hg : Gl X "len" := by rfl) (hg2 : Gl X "set" := by rfl)
    (na : starEach [a] X.env = (false, eval a X.env) :: starEach [] X.env := by rfl) : PD X B (.Call (.Name "len" p) [.Call (.Name "set" p2) [a] [] q] [] pos) ss (.int (dcount ns : Nat)) := fun σ F H s Q k =>
  sem_of (pe_lenSet cx.calm pe_sem hm hm2 hg hg2 na) (ha σ F H s _ fun l vs F1 H1 g1 sq r1 => by
    have e := RpAll.intsV r1
    subst e
    exact ⟨l, ns, rfl, sq, hz, k _ F1 H1 g1 (.int _)⟩)
end
end G

namespace G
open PySem L2
/-! ### pairs, floors, good rows -/
abbrev dPr (p : Int × Int) : PyData := .tuple [.int p.1, .int p.2]
abbrev dPrs (bs : List (Int × Int)) : List PyData := bs.map dPr
theorem pl_pr (p : Int × Int) : Pl 1 (dPr p) := .tup fun d hd => by
  rcases List.mem_cons.mp hd with e | hd
  · subst e; exact .int
  · rcases List.mem_cons.mp hd with e | hd
    · subst e; exact .int
    · cases hd
theorem pl_prs (bs : List (Int × Int)) : Pl 2 (.list (dPrs bs)) := .lst (Pl.map fun p _ => pl_pr p)
theorem pl_row (r : List Int) : Pl 1 (dRow r) := .tup (Pl.map fun _ _ => .int)
theorem pl_st (S : List (List Int)) : Pl 2 (dSt S) := .tup (Pl.map fun r _ => pl_row r)
theorem eqv_pr (p q : Int × Int) : PyData.eqv (dPr p) (dPr q) = decide (p = q) := by
  obtain ⟨a, b⟩ := p
  obtain ⟨c, d⟩ := q
  simp only [PyData.eqv, PyData.eqvAll]
  by_cases h1 : a = c
  · by_cases h2 : b = d
    · subst h1 h2; simp
    · simp [h1, h2]
  · simp [h1]
theorem any_pr (bs : List (Int × Int)) (q : Int × Int) : ((dPrs bs).any fun z => PyData.eqv z (dPr q)) = decide (q ∈ bs) := by
  induction bs with
  | nil => simp
  | cons p r ih =>
    show (PyData.eqv (dPr p) (dPr q) || (dPrs r).any fun z => PyData.eqv z (dPr q)) = _
    rw [ih, eqv_pr]
    by_cases h : p = q
    · subst h; simp
    · have h' : ¬ q = p := fun e => h e.symm
      simp [h, h']
theorem eqv_ints : ∀ (r t : List Int), PyData.eqvAll (r.map .int) (t.map .int) = decide (r = t)
  | [], [] => by simp [PyData.eqvAll]
  | [], _ :: _ => by simp [PyData.eqvAll]
  | _ :: _, [] => by simp [PyData.eqvAll]
  | a :: r, b :: t => by
    have ih := eqv_ints r t
    simp only [List.map_cons, PyData.eqvAll, PyData.eqv, ih]
    by_cases h : a = b
    · subst h; simp
    · simp [h]
theorem eqv_row (r t : List Int) : PyData.eqv (dRow r) (dRow t) = decide (r = t) := by
  simp only [PyData.eqv]; exact eqv_ints r t
theorem eqv_rows : ∀ (S T : List (List Int)), PyData.eqvAll (S.map dRow) (T.map dRow) = decide (S = T)
  | [], [] => by simp [PyData.eqvAll]
  | [], _ :: _ => by simp [PyData.eqvAll]
  | _ :: _, [] => by simp [PyData.eqvAll]
  | a :: r, b :: t => by
    have ih := eqv_rows r t
    simp only [List.map_cons, PyData.eqvAll, ih, eqv_row]
    by_cases h : a = b
    · subst h; simp
    · simp [h]
theorem eqv_st (S T : List (List Int)) : PyData.eqv (dSt S) (dSt T) = decide (S = T) := by
  simp only [PyData.eqv]; exact eqv_rows S T
/-- no ban between neighbours -/
def rowOk (bs : List (Int × Int)) (r : List Int) : Bool := (List.range (r.length - 1)).all fun k => !decide ((r.getD (k + 1) 0, r.getD k 0) ∈ bs)
theorem rowOk_yes {bs : List (Int × Int)} {r : List Int} (h : ∀ k, k < r.length - 1 → (r.getD (k + 1) 0, r.getD k 0) ∉ bs) : rowOk bs r = true := by
  unfold rowOk
  rw [List.all_eq_true]
  intro k hk
  rw [List.mem_range] at hk
  rw [decide_eq_false (h k hk)]; rfl
theorem rowOk_no {bs : List (Int × Int)} {r : List Int} {k : Nat} (hk : k < r.length - 1) (h : (r.getD (k + 1) 0, r.getD k 0) ∈ bs) : rowOk bs r = false := by
  unfold rowOk
  rw [List.all_eq_false]
  refine ⟨k, List.mem_range.mpr hk, ?_⟩
  rw [decide_eq_true h]; decide
/-- a stack that is not too high and keeps the bans -/
def stackOk (h : Int) (bs : List (Int × Int)) (r : List Int) : Bool := decide ((r.length : Int) ≤ h) && rowOk bs r
/-- good, as the text looks at it -/
def good (m h : Int) (bs : List (Int × Int)) (S : List (List Int)) : Bool :=
  decide ((S.length : Int) = m) && decide S.flatten.Nodup && S.flatten.all (fun c => decide (0 ≤ c) && decide (c ≤ 9)) && S.all (stackOk h bs)
theorem foldl_min_le : ∀ (r : List Int) (a : Int), r.foldl min a ≤ a ∧ (∀ x ∈ r, r.foldl min a ≤ x) ∧ (r.foldl min a = a ∨ r.foldl min a ∈ r)
  | [], a => ⟨Int.le_refl _, fun x h => (nomatch h), .inl rfl⟩
  | b :: r, a => by
    obtain ⟨h1, h2, h3⟩ := foldl_min_le r (min a b)
    have e : (b :: r).foldl min a = r.foldl min (min a b) := rfl
    rw [e]
    refine ⟨by omega, fun x hx => ?_, ?_⟩
    · rcases List.mem_cons.mp hx with e | hx
      · subst e; omega
      · exact h2 x hx
    · rcases h3 with h3 | h3
      · rw [h3]
        rcases Int.le_total a b with q | q
        · left; omega
        · right; rw [List.mem_cons]; left; omega
      · exact .inr (List.mem_cons_of_mem _ h3)
theorem foldl_max_le : ∀ (r : List Int) (a : Int), a ≤ r.foldl max a ∧ (∀ x ∈ r, x ≤ r.foldl max a) ∧ (r.foldl max a = a ∨ r.foldl max a ∈ r)
  | [], a => ⟨Int.le_refl _, fun x h => (nomatch h), .inl rfl⟩
  | b :: r, a => by
    obtain ⟨h1, h2, h3⟩ := foldl_max_le r (max a b)
    have e : (b :: r).foldl max a = r.foldl max (max a b) := rfl
    rw [e]
    refine ⟨by omega, fun x hx => ?_, ?_⟩
    · rcases List.mem_cons.mp hx with e | hx
      · subst e; omega
      · exact h2 x hx
    · rcases h3 with h3 | h3
      · rw [h3]
        rcases Int.le_total a b with q | q
        · right; rw [List.mem_cons]; left; omega
        · left; omega
      · exact .inr (List.mem_cons_of_mem _ h3)
theorem minDf_neg (ns : List Int) : decide (minDf 0 ns < 0) = !ns.all (fun c => decide (0 ≤ c)) := by
  cases ns with
  | nil => rfl
  | cons a r =>
    obtain ⟨h1, h2, h3⟩ := foldl_min_le r a
    show decide (r.foldl min a < 0) = _
    by_cases h : r.foldl min a < 0
    · rw [decide_eq_true h]
      have : (a :: r).all (fun c => decide (0 ≤ c)) = false := by
        rw [List.all_eq_false]
        rcases h3 with e | e
        · exact ⟨a, List.mem_cons_self, by simp; omega⟩
        · exact ⟨_, List.mem_cons_of_mem _ e, by simp; omega⟩
      rw [this]; rfl
    · rw [decide_eq_false h]
      have : (a :: r).all (fun c => decide (0 ≤ c)) = true := by
        rw [List.all_eq_true]
        intro x hx
        rcases List.mem_cons.mp hx with e | e
        · subst e; simp; omega
        · have := h2 x e; simp; omega
      rw [this]; rfl
theorem maxDf_nine (ns : List Int) : decide (9 < maxDf 0 ns) = !ns.all (fun c => decide (c ≤ 9)) := by
  cases ns with
  | nil => rfl
  | cons a r =>
    obtain ⟨h1, h2, h3⟩ := foldl_max_le r a
    show decide (9 < r.foldl max a) = _
    by_cases h : 9 < r.foldl max a
    · rw [decide_eq_true h]
      have : (a :: r).all (fun c => decide (c ≤ 9)) = false := by
        rw [List.all_eq_false]
        rcases h3 with e | e
        · exact ⟨a, List.mem_cons_self, by simp; omega⟩
        · exact ⟨_, List.mem_cons_of_mem _ e, by simp; omega⟩
      rw [this]; rfl
    · rw [decide_eq_false h]
      have : (a :: r).all (fun c => decide (c ≤ 9)) = true := by
        rw [List.all_eq_true]
        intro x hx
        rcases List.mem_cons.mp hx with e | e
        · subst e; simp; omega
        · have := h2 x e; simp; omega
      rw [this]; rfl
theorem all_isort (p : Int → Bool) (l : List Int) : (isort l).all p = l.all p := by
  rw [Bool.eq_iff_iff, List.all_eq_true, List.all_eq_true]
  exact ⟨fun h x hx => h x ((isort_perm l).mem_iff.mpr hx), fun h x hx => h x ((isort_perm l).mem_iff.mp hx)⟩
theorem all_and2 {α : Type} (f g : α → Bool) : ∀ l : List α, l.all (fun x => f x && g x) = (l.all f && l.all g)
  | [] => rfl
  | a :: r => by
    rw [List.all_cons, List.all_cons, List.all_cons, all_and2 f g r]
    cases f a <;> cases g a <;> cases r.all f <;> cases r.all g <;> rfl
theorem of_not_false {b : Bool} (h : (!b) = false) : b = true := by cases b <;> first | rfl | cases h
theorem of_not_true {b : Bool} (h : (!b) = true) : b = false := by cases b <;> first | rfl | cases h
theorem nodup_isort (l : List Int) : (isort l).Nodup ↔ l.Nodup := (isort_perm l).nodup_iff
/-- what the class Floor is, as the top leaves it -/
structure FlT (K : PySem.W.Frag) (mg : Str → Option Value) (C : Addr) : Prop where
  cl : Cls K C
  nM : NoAttr K C "many"
  nH : NoAttr K C "high"
  nS : NoAttr K C "strong"
  nB : NoAttr K C "banned"
  mgC : mg "Floor" = some (.ref C)
theorem at_nat {xs : List PyData} {j : Nat} {d : PyData} {z : Int} (e : z = (j : Int)) (h : xs[j]? = some d) : atI xs z = some d := by
  rw [e]; exact atI_nat h
theorem row_at {r : List Int} {j : Nat} (h : j < r.length) : (r.map PyData.int)[j]? = some (.int (r.getD j 0)) := by
  rw [List.getElem?_map, List.getElem?_eq_getElem h, List.getD_eq_getElem?_getD, List.getElem?_eq_getElem h] <;> rfl
theorem PD.tp {X : Cx} {B : Bs} {e : Expr} {ss : List SD} {ds : List PyData} (h : PD X B e ss (.tuple ds)) : PIt X B e ss ds := h.itt.it
theorem PD.ls {X : Cx} {B : Bs} {e : Expr} {ss : List SD} {ds : List PyData} (h : PD X B e ss (.list ds)) : PIt X B e ss ds := h.itl.it
end G

namespace G
open PySem L2
/-! ### lifts -/
abbrev FL := Int × Int × Int × List (Int × Int)
abbrev dFl (f : FL) : PyData := flr f.1 f.2.1 f.2.2.1 (dPrs f.2.2.2)
abbrev goodF (f : FL) (S : List (List Int)) : Bool := good f.1 f.2.1 f.2.2.2 S
abbrev LF := Nat × Nat × Nat
abbrev dLf (l : LF) : PyData := .tuple [.int (l.1 : Int), .int (l.2.1 : Int), .int (l.2.2 : Int)]
abbrev L3 := Int × Int × Int
abbrev dL3 (l : L3) : PyData := .tuple [.int l.1, .int l.2.1, .int l.2.2]
def cast3 (l : LF) : L3 := (l.1, l.2.1, l.2.2)
theorem dLf_cast (l : LF) : dLf l = dL3 (cast3 l) := rfl
def behindL (S : List (List Int)) (l : LF) : List (List Int) :=
  let r := S.getD l.1 []
  (S.set l.2.1 (S.getD l.2.1 [] ++ r.drop (r.length - l.2.2))).set l.1 (r.take (r.length - l.2.2))
theorem set_perm {α : Type} : ∀ (S : List (List α)) (i : Nat) (r : List α), i < S.length → ((S.set i r).flatten ++ S.getD i []).Perm (S.flatten ++ r)
  | [], i, r, h => by simp at h
  | x :: S, 0, r, h => by
    show ((r :: S).flatten ++ x).Perm ((x :: S).flatten ++ r)
    rw [List.flatten_cons, List.flatten_cons, List.append_assoc, List.append_assoc]
    have h1 : (r ++ (S.flatten ++ x)).Perm ((S.flatten ++ x) ++ r) := List.perm_append_comm
    have h2 : ((S.flatten ++ x) ++ r).Perm ((x ++ S.flatten) ++ r) := List.perm_append_comm.append_right r
    rw [List.append_assoc, List.append_assoc] at h2
    exact (h1.trans (by rw [List.append_assoc]; exact h2))
  | x :: S, i + 1, r, h => by
    show ((x :: S.set i r).flatten ++ S.getD i []).Perm ((x :: S).flatten ++ r)
    rw [List.flatten_cons, List.flatten_cons, List.append_assoc, List.append_assoc]
    exact (set_perm S i r (by simpa using h)).append_left x
theorem getD_set_ne {α : Type} {S : List (List α)} {i j : Nat} (h : i ≠ j) (r : List α) : (S.set i r).getD j [] = S.getD j [] := by
  rw [List.getD_eq_getElem?_getD, List.getD_eq_getElem?_getD, List.getElem?_set_ne h]
theorem getD_set_eq {α : Type} {S : List (List α)} {i : Nat} (h : i < S.length) (r : List α) : (S.set i r).getD i [] = r := by
  rw [List.getD_eq_getElem?_getD, List.getElem?_set_self h]; rfl
theorem behind_length (S : List (List Int)) (l : LF) : (behindL S l).length = S.length := by
  unfold behindL; rw [List.length_set, List.length_set]
theorem behind_perm {S : List (List Int)} {l : LF} (ha : l.1 < S.length) (hb : l.2.1 < S.length) (hab : l.1 ≠ l.2.1) : (behindL S l).flatten.Perm S.flatten := by
  obtain ⟨a, b, k⟩ := l
  simp only at ha hb hab
  unfold behindL
  simp only
  generalize hr : S.getD a [] = r
  generalize hn : r.length - k = n
  have h1 := set_perm (S.set b (S.getD b [] ++ r.drop n)) a (r.take n) (by rw [List.length_set]; exact ha)
  rw [getD_set_ne (Ne.symm hab), hr] at h1
  have h2 := set_perm S b (S.getD b [] ++ r.drop n) hb
  -- X ++ r ~ Y ++ take n ; Y ++ q ~ S ++ q ++ drop n
  have h3 : ((S.set b (S.getD b [] ++ r.drop n)).flatten).Perm (S.flatten ++ r.drop n) := by
    have h4 : ((S.set b (S.getD b [] ++ r.drop n)).flatten ++ S.getD b []).Perm ((S.flatten ++ r.drop n) ++ S.getD b []) := by
      refine h2.trans ?_
      rw [List.append_assoc]
      exact List.perm_append_comm.append_left _
    exact (List.perm_append_right_iff _).mp h4
  have h5 : (((S.set b (S.getD b [] ++ r.drop n)).set a (r.take n)).flatten ++ r).Perm (S.flatten ++ r) := by
    refine h1.trans ((h3.append_right _).trans ?_)
    rw [List.append_assoc]
    refine List.Perm.append_left _ ?_
    have := (List.perm_append_comm : (r.drop n ++ r.take n).Perm (r.take n ++ r.drop n))
    rw [List.take_append_drop] at this
    exact this
  exact (List.perm_append_right_iff _).mp h5
/-- the lifts from stack a to stack b that are let -/
def liftsAB (f : FL) (S : List (List Int)) (a b n : Nat) : List LF := ((List.range n).filter fun i => decide (a ≠ b) && goodF f (behindL S (a, b, i + 1))).map fun i => (a, b, i + 1)
def topN (f : FL) (S : List (List Int)) (a : Nat) : Nat := min f.2.2.1.toNat (S.getD a []).length
def liftsOf (f : FL) (S : List (List Int)) : List LF := (List.range S.length).flatMap fun a => (List.range S.length).flatMap fun b => liftsAB f S a b (topN f S a)
theorem fm_succ {α : Type} (f : Nat → List α) (n : Nat) : (List.range (n + 1)).flatMap f = (List.range n).flatMap f ++ f n := by
  rw [List.range_succ, List.flatMap_append]; simp
theorem fm_le {α : Type} (f : Nat → List α) (c : Nat) (h : ∀ i, (f i).length ≤ c) : ∀ n, ((List.range n).flatMap f).length ≤ n * c
  | 0 => by simp
  | n + 1 => by
    rw [fm_succ, List.length_append, Nat.succ_mul]
    have := fm_le f c h n
    have := h n
    omega
theorem lab_succ (f : FL) (S : List (List Int)) (a b n : Nat) : liftsAB f S a b (n + 1) = liftsAB f S a b n ++ if (decide (a ≠ b) && goodF f (behindL S (a, b, n + 1))) = true then [(a, b, n + 1)] else [] := by
  unfold liftsAB
  rw [List.range_succ, List.filter_append, List.map_append]
  congr 1
  by_cases h : (decide (a ≠ b) && goodF f (behindL S (a, b, n + 1))) = true
  · rw [if_pos h, List.filter_cons, if_pos h]; rfl
  · rw [if_neg h, List.filter_cons, if_neg h]; rfl
theorem lab_le (f : FL) (S : List (List Int)) (a b n : Nat) : (liftsAB f S a b n).length ≤ n := by
  unfold liftsAB
  rw [List.length_map]
  exact Nat.le_trans (List.length_filter_le _ _) (by rw [List.length_range]; exact Nat.le_refl _)
theorem mem_lab {f : FL} {S : List (List Int)} {a b n : Nat} {l : LF} : l ∈ liftsAB f S a b n ↔ l.1 = a ∧ l.2.1 = b ∧ a ≠ b ∧ 1 ≤ l.2.2 ∧ l.2.2 ≤ n ∧ goodF f (behindL S l) = true := by
  unfold liftsAB
  rw [List.mem_map]
  constructor
  · rintro ⟨i, hi, rfl⟩
    rw [List.mem_filter, List.mem_range, Bool.and_eq_true] at hi
    obtain ⟨h1, h2, h3⟩ := hi
    exact ⟨rfl, rfl, of_decide_eq_true h2, by simp, by simp only; omega, h3⟩
  · obtain ⟨x, y, z⟩ := l
    rintro ⟨rfl, rfl, h1, h2, h3, h4⟩
    simp only at *
    refine ⟨z - 1, ?_, by rw [Nat.sub_add_cancel h2]⟩
    rw [List.mem_filter, List.mem_range, Bool.and_eq_true]
    refine ⟨by omega, decide_eq_true h1, ?_⟩
    rw [Nat.sub_add_cancel h2]; exact h4
theorem mem_liftsOf {f : FL} {S : List (List Int)} {l : LF} : l ∈ liftsOf f S ↔ l.1 < S.length ∧ l.2.1 < S.length ∧ l.1 ≠ l.2.1 ∧ 1 ≤ l.2.2 ∧ l.2.2 ≤ topN f S l.1 ∧ goodF f (behindL S l) = true := by
  unfold liftsOf
  rw [List.mem_flatMap]
  constructor
  · rintro ⟨a, ha, h⟩
    rw [List.mem_flatMap] at h
    obtain ⟨b, hb, h⟩ := h
    rw [List.mem_range] at ha hb
    obtain ⟨rfl, rfl, h3, h4, h5, h6⟩ := mem_lab.mp h
    exact ⟨ha, hb, h3, h4, h5, h6⟩
  · rintro ⟨h1, h2, h3, h4, h5, h6⟩
    exact ⟨l.1, List.mem_range.mpr h1, List.mem_flatMap.mpr ⟨l.2.1, List.mem_range.mpr h2, mem_lab.mpr ⟨rfl, rfl, h3, h4, h5, h6⟩⟩⟩
theorem pl_l3 (l : L3) : Pl 1 (dL3 l) := .tup fun d hd => by
  rcases List.mem_cons.mp hd with e | hd
  · subst e; exact .int
  · rcases List.mem_cons.mp hd with e | hd
    · subst e; exact .int
    · rcases List.mem_cons.mp hd with e | hd
      · subst e; exact .int
      · cases hd
theorem pl_lfs (ls : List LF) : Pl 2 (.list (ls.map dLf)) := .lst (Pl.map fun l _ => pl_l3 (cast3 l))
theorem eqv_l3 (p q : L3) : PyData.eqv (dL3 p) (dL3 q) = decide (p = q) := by
  obtain ⟨a, b, c⟩ := p
  obtain ⟨a', b', c'⟩ := q
  simp only [PyData.eqv, PyData.eqvAll]
  by_cases h1 : a = a'
  · by_cases h2 : b = b'
    · by_cases h3 : c = c'
      · subst h1 h2 h3; simp
      · simp [h1, h2, h3]
    · simp [h1, h2]
  · simp [h1]
theorem any_l3 (ls : List LF) (q : L3) : ((ls.map dLf).any fun z => PyData.eqv z (dL3 q)) = decide (q ∈ ls.map cast3) := by
  induction ls with
  | nil => simp
  | cons p r ih =>
    show (PyData.eqv (dL3 (cast3 p)) (dL3 q) || (r.map dLf).any fun z => PyData.eqv z (dL3 q)) = _
    rw [ih, eqv_l3, List.map_cons]
    by_cases h : cast3 p = q
    · simp [h]
    · have h' : ¬ q = cast3 p := fun e => h e.symm
      simp [h, h']
theorem cast3_inj {l m : LF} (h : cast3 l = cast3 m) : l = m := by
  obtain ⟨a, b, c⟩ := l
  obtain ⟨a', b', c'⟩ := m
  simp only [cast3, Prod.mk.injEq] at h
  obtain ⟨h1, h2, h3⟩ := h
  have : a = a' := by omega
  have : b = b' := by omega
  have : c = c' := by omega
  subst_vars; rfl
theorem ixN_nat {n j : Nat} (hj : j < n) : ixN n (j : Int) = some j := by
  unfold ixN
  rw [if_pos (by omega), if_pos (by omega)]
  simp
theorem cut_from {xs : List PyData} {n : Nat} (h : n ≤ xs.length) : cutD xs (some (n : Int)) none = xs.drop n := by
  unfold cutD
  rw [HT.sIx_nat, HT.sIx_none, Nat.min_eq_left h]
  rw [List.take_of_length_le (by rw [List.length_drop]; exact Nat.le_refl _)]
theorem cut_to {xs : List PyData} {n : Nat} (h : n ≤ xs.length) : cutD xs none (some (n : Int)) = xs.take n := by
  unfold cutD
  rw [HT.sIx_nat, HT.sIx_none, Nat.min_eq_left h, List.drop_zero, Nat.sub_zero]
theorem st_at {S : List (List Int)} {j : Nat} (h : j < S.length) : (S.map dRow)[j]? = some (dRow (S.getD j [])) := by
  rw [List.getElem?_map, List.getElem?_eq_getElem h, List.getD_eq_getElem?_getD, List.getElem?_eq_getElem h] <;> rfl
theorem row_le {S : List (List Int)} (j : Nat) : (S.getD j []).length ≤ S.flatten.length := by
  rw [List.getD_eq_getElem?_getD]
  cases e : S[j]? with
  | none => simp
  | some r =>
    have h := flatten_take_le S (j + 1)
    rw [flatten_take e, List.length_append] at h
    simp only [Option.getD_some]
    omega
theorem good_len {f : FL} {S : List (List Int)} (h : goodF f S = true) : (S.length : Int) = f.1 := by
  unfold goodF good at h
  simp only [Bool.and_eq_true] at h
  exact of_decide_eq_true h.1.1.1
end G

namespace G
open PySem L2
theorem set_lem (σ : St) {i j : Nat} (hij : i ≠ j) (a b : Option V) : ((((σ.set j none).set i none).set i a).set j b) = (σ.set i a).set j b := by
  rw [List.set_set, List.set_comm none a (Ne.symm hij), List.set_set]
theorem set_lem2 (σ : St) {i j : Nat} (hij : i ≠ j) (a b : Option V) : ((((σ.set i a).set j b).set j none).set i none) = (σ.set j none).set i none := by
  rw [List.set_set, List.set_comm a none hij, List.set_set]
section
variable {X : Cx} {B : Bs} {ss : List SD} {e a b c : Expr} {es : List Expr} {pos p p2 p3 p4 p5 : Pos} {d x y z : PyData} {ds ds' : List PyData} {rest body orelse : List Stmt} {st : Stmt} {D : Ends}
/-- a list of pairs that stands still -/
def PIp (X : Cx) (B : Bs) (e : Expr) (ss : List SD) (ps : List (Int × Int)) : Prop := ∀ (σ : St) (F H : Hp), Sat X.K B ss σ F H → ∀ Q : VK,
  (∀ a vs F' H', Grow F H F' H' → (∀ H2, Same F' H2 → Same B.H0 H2 → SqL X.K H2 a vs ∧ RpAll X.K B.C H2 vs (dPrs ps)) → Q (.ref a) H') → tSem X e σ H Q
theorem PD.ips {ps : List (Int × Int)} (h : PD X B e ss (.list (dPrs ps))) : PIp X B e ss ps := fun σ F H s Q q => h σ F H s Q fun v F' H' g r => by
  cases r with
  | lst h1 h2 => exact q _ _ F' H' g fun H2 e _ => ⟨SqL.of (e _ _ h1), h2.mono e⟩
/-- a borrowed name, as things stand -/
theorem pb_bor (i : Nat) {x : Str} {d : PyData} (hN : X.N[i]? = some x := by rfl) (hs : ss[i]? = some (.bor d) := by rfl) (hv : Vis X.env.scope x := by first | exact Or.inl rfl | exact Or.inr (Or.inl rfl) | exact Or.inr (Or.inr rfl)) (hd : (x == ("__debug__" : Str)) = false := by decide)
    (hcd : (x == ("__classdict__" : Str)) = false := by decide) : PB X B (.Name x p) ss d := fun σ F H s Q q => by
  obtain ⟨v, e, r⟩ := s.slot i _ hs
  exact sem_of (pe_var hN hv hd hcd) ⟨v, e, q v F H (Grow.refl s.fh) (r.mono s.g.hh)⟩
theorem pip_bor (i : Nat) {x : Str} {ps : List (Int × Int)} (hN : X.N[i]? = some x := by rfl) (hs : ss[i]? = some (.bor (.list (dPrs ps))) := by rfl) (hv : Vis X.env.scope x := by first | exact Or.inl rfl | exact Or.inr (Or.inl rfl) | exact Or.inr (Or.inr rfl)) (hd : (x == ("__debug__" : Str)) = false := by decide)
    (hcd : (x == ("__classdict__" : Str)) = false := by decide) : PIp X B (.Name x p) ss ps := fun σ F H s Q q => by
  obtain ⟨v, e, r⟩ := s.slot i _ hs
  cases r with
  | lst h1 h2 => exact sem_of (pe_var hN hv hd hcd) ⟨_, e, q _ _ F H (Grow.refl s.fh) fun H2 _ e2 => ⟨SqL.of (e2 _ _ h1), h2.mono e2⟩⟩
/-- len of a borrowed list -/
theorem pd_lenB (ha : PB X B e ss (.list ds)) (hm : X.mg "len" = none) (hg : Gl X "len" := by rfl) (hn : NSt X e := by intro _; rfl) : PD X B (.Call (.Name "len" p) [e] [] pos) ss (.int ds.length) := fun σ F H s Q q =>
  sem_of (pe_callB call_len_seq hg hm PySem.boot_len (pa_cons pe_sem pa_nil (hn [])) (by decide) (by decide) (hn []) rfl) (ha σ F H s _ fun v F1 H1 g r => by
    cases r with
    | lst h1 h2 => exact ⟨_, _, rfl, .inl (SqL.of h1), q _ F1 H1 g (by rw [h2.length]; exact .int _)⟩)
/-- the state with a pair in two slots -/
abbrev set2 (ss : List SD) (i j : Nat) (u : Int × Int) : List SD := (ss.set i (.dat (.int u.1))).set j (.dat (.int u.2))
abbrev gPair (K : PySem.W.Frag) (i j : Nat) : TG := gTup K 2 (gCons (gName i) (gCons (gName j) gNil))
theorem go_for2 {ps : List (Int × Int)} (i j : Nat) {x y : Str} {kx : Nat} (J : Nat → List SD → Prop) (cx : Cxt X) (he : PIp X B e ss ps) (h0 : J 0 ss)
    (hb : ∀ (Fp : Hp) (n : Nat) (u : Int × Int) (ss' : List SD), ps[n]? = some u → J n ss' → Go X (B.pinned Fp) body (set2 ss' i j u) (lpE X (B.pinned Fp) (J (n + 1)) rest D))
    (hd : ∀ ss', J ps.length ss' → Go X B rest ss' D)
    (hps : ∀ wi, PI X (.Tuple [.Name x p, .Name y p2] kx p3) e wi → PS X (.For (.Tuple [.Name x p, .Name y p2] kx p3) e body [] pos) (tFor wi (gPair X.K i j) (tSS X body)) := by
      intro _ hw; exact ps_for (Cxt.pass (by assumption)) (Cxt.calm (by assumption)) hw (pg_tup (Cxt.calm (by assumption)) (pgs_cons (pg_name (Cxt.nd (by assumption)) (by rfl) (by first | exact Or.inl rfl | exact Or.inr rfl)) (pgs_cons (pg_name (Cxt.nd (by assumption)) (by rfl) (by first | exact Or.inl rfl | exact Or.inr rfl)) pgs_nil))) pss_sem) :
    Go X B (.For (.Tuple [.Name x p, .Name y p2] kx p3) e body [] pos :: rest) ss D :=
  go_step (hps _ (pi_list pe_sem)) fun σ F H s => he σ F H s _ fun a vs F1 H1 g sq => by
    have s1 := s.grow g
    have pn : Same B.Fp F1 := s.pin.trans g.ff
    obtain ⟨sq1, r1⟩ := sq H1 g.fh s1.g.hh
    have ll : vs.length = ps.length := by rw [r1.length, List.length_map]
    refine ⟨a, rfl, ⟨vs, sq1⟩, for_list (K := X.K) (a := a) (xs := vs) (fun n => Mid X (B.pinned F1) (J n)) ⟨F1, ss, h0, s1.pinned⟩ (fun n σ' H' _ ⟨F', ss', j', s'⟩ => (sq H' (s'.pin.trans s'.fh) s'.g.hh).1) (fun n w σ' H' hi ⟨F', ss', j', s'⟩ => ?_) (by rw [ll]; exact fun σ' H' ⟨F', ss', j', s'⟩ => hd ss' j' σ' F' H' (s'.unpin pn))⟩
    obtain ⟨_, r2⟩ := sq H' (s'.pin.trans s'.fh) s'.g.hh
    obtain ⟨d, hd', rd⟩ := RpAll.getV r2 hi
    rw [List.getElem?_map] at hd'
    cases hu : ps[n]? with
    | none => rw [hu] at hd'; cases hd'
    | some u =>
      rw [hu] at hd'
      cases hd'
      cases rd with
      | tup h1 h2 =>
        cases h2 with
        | cons e1 t1 =>
          cases t1 with
          | cons e2 t2 =>
            cases t2
            cases e1
            cases e2
            refine ⟨_, _, rfl, h1, rfl, _, _, rfl, _, _, rfl, rfl, ?_⟩
            exact hb F1 n u ss' hu j' _ F' H' ((s'.set_dat (.int _)).set_dat (.int _))
/-- [e for x, y in a] -/
theorem pl_lc2 {ps : List (Int × Int)} {g : Int × Int → PyData} (i j : Nat) {x y : Str} {kx : Nat} {scope : Scope} (cx : Cxt X) (he : PIp X B a ss ps)
    (hel : ∀ (Fp : Hp) (u : Int × Int), u ∈ ps → ∀ (s : Shared) (H' : Hp) (C : Addr) (cl : List (Str × Addr)) (fp : List Addr), PD (Blk X scope s H' C cl fp) (B.pinned Fp) e (set2 ss i j u) (g u))
    (hz : ps.length < sizeLine) (hij : i ≠ j) (nr : noRaw ss = true := by rfl)
    (hok : BlkOk X.N X.env.scope scope [(x, i), (y, j)] := by exact blkOk_by (by kernel_rfl))
    (hpg : X.calm = true → X.N.Nodup → ∀ (s : Shared) (H' : Hp) (C : Addr) (cl : List (Str × Addr)) (fp : List Addr), PG (Blk X scope s H' C cl fp) (.Tuple [.Name x p, .Name y p2] kx p3) (gPair X.K i j) := by
      intro hcl hnd _ _ _ _ _; exact pg_tup hcl (pgs_cons (pg_name hnd (by rfl) (Or.inl rfl)) (pgs_cons (pg_name hnd (by rfl) (Or.inl rfl)) pgs_nil)))
    (hs : ∀ x, foldedSetIterable a X.env x = pure x := by intro _; rfl) :
    PLc X B (.ListComp e [⟨.Tuple [.Name x p, .Name y p2] kx p3, a, [], 0⟩] scope pos) ss (ps.map g) :=
  ⟨_, _, _, _, _, _, _, _, _, _, [(x, i), (y, j)], rfl, pi_list pe_sem, hok, hpg cx.calm cx.nd, fun _ _ _ _ _ => pts_nil, fun s H' C cl fp => (⟨fun pins s1 σ H Q I h => h s H' C cl fp pins s1 I⟩ : PE _ e (tBlk X scope e)), hs, fun σ F H s Q q => he σ F H s _ fun l vs F1 H1 g1 sq => by
    have s1 := s.grow g1
    obtain ⟨sq1, r1⟩ := sq H1 g1.fh s1.g.hh
    have ll : vs.length = ps.length := by rw [r1.length, List.length_map]
    refine ⟨l, rfl, ⟨vs, sq1⟩, fun Dl hD => ?_⟩
    have ap : ∀ (i : Nat) (es : List PyData), ss[i]? = some (.own es) → σ[i]? ≠ some (some (.ref Dl)) := fun i es e1 e2 => by
      obtain ⟨a', ws, ea, _, _, h2, _⟩ := s1.slot i _ e1
      rw [e2] at ea
      injection ea with ea
      injection ea with ea
      injection ea with ea
      subst ea
      rw [hD] at h2; cases h2
    have hF1 : F1 Dl = none := g1.fh.free hD
    have hB0 : B.H0 Dl = none := s1.g.hh.free hD
    have hH : H Dl = none := g1.hh.free hD
    refine lc_list (K := X.K) (a := l) (xs := vs) (fun i H' => ∃ F' acc, Sat X.K (B.pinned F1) ss σ F' H' ∧ Grow F H F' H' ∧ F' Dl = none ∧ H' Dl = some (.lst acc) ∧ RpAll X.K B.C F' acc ((ps.take i).map g))
      ⟨F1, [], s1.pinned.upd hB0 hF1 nr ap, g1.trans (Grow.newO g1.fh hD), hF1, upd_same, ?_⟩ ?_ ?_ ?_
    · rw [List.take_zero]; exact .nil
    · rintro i H' _ ⟨F', acc, s', _, _⟩
      exact (sq H' (s'.pin.trans s'.fh) s'.g.hh).1
    · rintro n w H' hi ⟨F', acc, s', g', n', h', r'⟩
      obtain ⟨_, r2⟩ := sq H' (s'.pin.trans s'.fh) s'.g.hh
      obtain ⟨d, hd', rd⟩ := RpAll.getV r2 hi
      rw [List.getElem?_map] at hd'
      cases hu : ps[n]? with
      | none => rw [hu] at hd'; cases hd'
      | some u =>
        rw [hu] at hd'
        cases hd'
        have hil : n < ps.length := (List.getElem?_eq_some_iff.mp hu).1
        have tk : ps.take (n + 1) = ps.take n ++ [u] := by rw [List.take_add_one, hu]; rfl
        have al : acc.length ≤ n := by rw [r'.length, List.length_map, List.length_take]; omega
        cases rd with
        | tup h1 h2 =>
          cases h2 with
          | cons e1 t1 =>
            cases t1 with
            | cons e2 t2 =>
              cases t2
              cases e1
              cases e2
              have wset : ((wipe σ [i, j]).set i (some (V.int u.1))).set j (some (V.int u.2)) = (σ.set i (some (V.int u.1))).set j (some (V.int u.2)) := set_lem σ hij _ _
              refine ⟨_, _, rfl, h1, rfl, _, _, rfl, _, _, rfl, rfl, ?_⟩
              simp only [gName, List.map_cons, List.map_nil]
              show wipe (((wipe σ [i, j]).set i (some (V.int u.1))).set j (some (V.int u.2))) [i, j] = wipe σ [i, j] ∧ _
              rw [wset]
              refine ⟨?_, ?_⟩
              · exact set_lem2 σ hij _ _
              · simp only [tYes, ↓reduceIte]
                intro s5 H5 C5 cl5 fp5
                refine hel F1 u (List.mem_of_getElem? hu) s5 H5 C5 cl5 fp5 _ F' H' ((s'.set_dat (.int _)).set_dat (.int _)) _ fun z F4 H4 g4 r4 => ?_
                have n4 := g4.own _ _ h' n'
                refine ⟨acc, g4.hh _ _ h', Nat.lt_of_le_of_lt al (Nat.lt_trans hil hz), F4, acc ++ [z], (s'.grow g4).upd hB0 n4 nr ap (nx_lst (g4.hh _ _ h')), ?_, n4, upd_same, ?_⟩
                · exact ⟨fun b o e => by rw [upd_ne (ne_of_none e hH)]; exact (g'.trans g4).hh b o e, (g'.trans g4).ff, fun b o e => by rw [upd_ne (ne_of_none e n4)]; exact g4.fh b o e, (g'.trans g4).own⟩
                · rw [tk, List.map_append]
                  exact (r'.mono g4.ff).app (.one r4)
    · rintro H' ⟨F', acc, s', g', n', h', r'⟩
      rw [ll, List.take_length] at r'
      exact q Dl acc F' H' g' hH n' h' r'⟩
end
end G

namespace G
open PySem L2
/-! ### sorted(set(pairs)) -/
def ltP2 (p q : Int × Int) : Prop := p.1 < q.1 ∨ (p.1 = q.1 ∧ p.2 < q.2)
instance (p q : Int × Int) : Decidable (ltP2 p q) := inferInstanceAs (Decidable (_ ∨ _))
def insP (a : Int × Int) : List (Int × Int) → List (Int × Int)
  | [] => [a]
  | b :: r => if ltP2 a b then a :: b :: r else if a = b then b :: r else b :: insP a r
def sdedup : List (Int × Int) → List (Int × Int)
  | [] => []
  | a :: r => insP a (sdedup r)
theorem mem_insP (a x : Int × Int) : ∀ l, x ∈ insP a l ↔ x = a ∨ x ∈ l
  | [] => by simp [insP]
  | b :: r => by
    unfold insP
    split
    · simp
    · split
      · rename_i h
        subst h
        simp
      · rw [List.mem_cons, mem_insP a x r, List.mem_cons]
        constructor
        · rintro (h | h | h)
          · exact .inr (.inl h)
          · exact .inl h
          · exact .inr (.inr h)
        · rintro (h | h | h)
          · exact .inr (.inl h)
          · exact .inl h
          · exact .inr (.inr h)
theorem mem_sdedup (x : Int × Int) : ∀ l, x ∈ sdedup l ↔ x ∈ l
  | [] => Iff.rfl
  | a :: r => by unfold sdedup; rw [mem_insP, mem_sdedup x r, List.mem_cons]
theorem ltP2_trans {a b c : Int × Int} (h : ltP2 a b) (k : ltP2 b c) : ltP2 a c := by
  unfold ltP2 at *
  omega
theorem ltP2_irr {a : Int × Int} : ¬ ltP2 a a := by unfold ltP2; omega
theorem ltP2_tri (a b : Int × Int) : ltP2 a b ∨ a = b ∨ ltP2 b a := by
  obtain ⟨x, y⟩ := a
  obtain ⟨z, w⟩ := b
  unfold ltP2
  simp only [Prod.mk.injEq]
  omega
theorem insP_sorted (a : Int × Int) : ∀ l : List (Int × Int), l.Pairwise ltP2 → (insP a l).Pairwise ltP2
  | [], _ => by unfold insP; exact List.pairwise_singleton _ _
  | b :: r, h => by
    unfold insP
    have h' := List.pairwise_cons.mp h
    split
    · rename_i hab
      refine List.pairwise_cons.mpr ⟨fun x hx => ?_, h⟩
      rcases List.mem_cons.mp hx with e | hx
      · subst e; exact hab
      · exact ltP2_trans hab (h'.1 x hx)
    · split
      · exact h
      · rename_i h1 h2
        refine List.pairwise_cons.mpr ⟨fun x hx => ?_, insP_sorted a r h'.2⟩
        rcases (mem_insP a x r).mp hx with e | hx
        · subst e
          rcases ltP2_tri x b with q | q | q
          · exact absurd q h1
          · exact absurd q h2
          · exact q
        · exact h'.1 x hx
theorem sdedup_sorted : ∀ l, (sdedup l).Pairwise ltP2
  | [] => List.Pairwise.nil
  | a :: r => insP_sorted a _ (sdedup_sorted r)
theorem srtP_one : ∀ {l m : List (Int × Int)}, l.Pairwise ltP2 → m.Pairwise ltP2 → (∀ x, x ∈ l ↔ x ∈ m) → l = m
  | [], [], _, _, _ => rfl
  | [], b :: m, _, _, h => by have := (h b).mpr List.mem_cons_self; cases this
  | a :: l, [], _, _, h => by have := (h a).mp List.mem_cons_self; cases this
  | a :: l, b :: m, h1, h2, h => by
    rw [List.pairwise_cons] at h1 h2
    have hab : a = b := by
      rcases List.mem_cons.mp ((h a).mp List.mem_cons_self) with e | ha
      · exact e
      · rcases List.mem_cons.mp ((h b).mpr List.mem_cons_self) with e | hb
        · exact e.symm
        · exact absurd (ltP2_trans (h1.1 b hb) (h2.1 a ha)) ltP2_irr
    subst hab
    rw [srtP_one h1.2 h2.2 fun x => ⟨fun hx => ?_, fun hx => ?_⟩]
    · rcases List.mem_cons.mp ((h x).mp (List.mem_cons_of_mem _ hx)) with e | k
      · subst e; exact absurd (h1.1 _ hx) ltP2_irr
      · exact k
    · rcases List.mem_cons.mp ((h x).mpr (List.mem_cons_of_mem _ hx)) with e | k
      · subst e; exact absurd (h2.1 _ hx) ltP2_irr
      · exact k
theorem sdedup_is {l m : List (Int × Int)} (h : l.Pairwise ltP2) (k : ∀ x, x ∈ l ↔ x ∈ m) : l = sdedup m :=
  srtP_one h (sdedup_sorted m) fun x => (k x).trans (mem_sdedup x m).symm
theorem insP_len (a : Int × Int) : ∀ l, (insP a l).length ≤ l.length + 1
  | [] => Nat.le_refl _
  | b :: r => by
    unfold insP
    split
    · exact Nat.le_refl _
    · split
      · exact Nat.le_succ _
      · rw [List.length_cons, List.length_cons]; have := insP_len a r; omega
theorem sdedup_len : ∀ l, (sdedup l).length ≤ l.length
  | [] => Nat.le_refl _
  | a :: r => Nat.le_trans (insP_len a _) (Nat.succ_le_succ (sdedup_len r))
def pl2 (p : Int × Int) : List Int := [p.1, p.2]
theorem pl2_inj {p q : Int × Int} (h : pl2 p = pl2 q) : p = q := by
  obtain ⟨a, b⟩ := p
  obtain ⟨c, d⟩ := q
  simp only [pl2, List.cons.injEq, and_true] at h
  exact Prod.ext h.1 h.2
/-- the pairs of a list, as the library's rules name them -/
theorem rp_pairs {K : PySem.W.Frag} {C : Addr} {H : Hp} : ∀ {vs : List V} {ps : List (Int × Int)}, RpAll K C H vs (dPrs ps) →
    ∃ ks : List (Addr × List Int), vs = ks.map (fun p => V.ref p.1) ∧ ks.map (·.2) = ps.map pl2 ∧ ∀ p ∈ ks, SqT K H p.1 (p.2.map V.int)
  | _, [], .nil => ⟨[], rfl, rfl, fun _ h => nomatch h⟩
  | _, p :: ps, .cons h t => by
    obtain ⟨ks, e1, e2, e3⟩ := rp_pairs t
    cases h with
    | tup h1 h2 =>
      rename_i a _
      cases h2 with
      | cons r1 t1 =>
        cases t1 with
        | cons r2 t2 =>
          cases t2
          cases r1
          cases r2
          refine ⟨(a, pl2 p) :: ks, by rw [e1]; rfl, by rw [List.map_cons, e2]; rfl, fun q hq => ?_⟩
          rcases List.mem_cons.mp hq with e | hq
          · subst e; exact h1
          · exact e3 q hq
theorem pairs_rp {K : PySem.W.Frag} {C : Addr} {H : Hp} : ∀ {ks : List (Addr × List Int)} {ps : List (Int × Int)}, ks.map (·.2) = ps.map pl2 → (∀ p ∈ ks, SqT K H p.1 (p.2.map V.int)) → RpAll K C H (ks.map fun p => V.ref p.1) (dPrs ps)
  | [], [], _, _ => .nil
  | [], _ :: _, e, _ => by cases e
  | _ :: _, [], e, _ => by cases e
  | k :: ks, p :: ps, e, h => by
    rw [List.map_cons, List.map_cons] at e
    injection e with e1 e2
    refine .cons ?_ (pairs_rp e2 fun q hq => h q (List.mem_cons_of_mem _ hq))
    have h1 := h k List.mem_cons_self
    rw [show k.2 = pl2 p from e1] at h1
    exact .tup h1 (.cons (.int _) (.cons (.int _) .nil))
theorem of_pl2 : ∀ {l : List (List Int)} {ps : List (Int × Int)}, (∀ x ∈ l, x ∈ ps.map pl2) → ∃ qs : List (Int × Int), l = qs.map pl2 ∧ ∀ q ∈ qs, q ∈ ps
  | [], _, _ => ⟨[], rfl, fun _ h => nomatch h⟩
  | x :: l, ps, h => by
    obtain ⟨qs, e, k⟩ := of_pl2 (l := l) fun y hy => h y (List.mem_cons_of_mem _ hy)
    obtain ⟨q, hq, eq⟩ := List.mem_map.mp (h x List.mem_cons_self)
    refine ⟨q :: qs, by rw [List.map_cons, e, eq], fun y hy => ?_⟩
    rcases List.mem_cons.mp hy with z | hy
    · subst z; exact hq
    · exact k y hy
section
variable {X : Cx} {B : Bs} {ss : List SD} {e a b c : Expr} {pos p p2 p3 p4 p5 : Pos}
theorem pn_sortedSet {ps : List (Int × Int)} {q : Pos} (cx : Cxt X) (ha : PLi X B a ss (dPrs ps)) (hz : ps.length < 64) (hb : ∀ u ∈ ps, (0 ≤ u.1 ∧ u.1 < 64) ∧ 0 ≤ u.2 ∧ u.2 < 64) (hm : X.mg "sorted" = none) (hm2 : X.mg "set" = none)
    (hv : bootBuiltins "sorted" = some (.builtin "sorted") := by decide +kernel) (hv2 : bootBuiltins "set" = some (.type "set") := by decide +kernel) (hg : Gl X "sorted" := by rfl) (hg2 : Gl X "set" := by rfl)
    (na : NSt X a := by intro _; rfl) (na2 : NSt X (.Call (.Name "set" p2) [a] [] q) := by intro _; rfl) : PN X B (.Call (.Name "sorted" p) [.Call (.Name "set" p2) [a] [] q] [] pos) ss (dPrs (sdedup ps)) := fun σ F H s Q k => by
  have hset : PE X (.Call (.Name "set" p2) [a] [] q) (tCB (rSetOfT X.K X.prog X.w) (tCons (tSem X a) tNil)) :=
    pe_callTy (cr_setOfT cx.calm (by have := cx.units; omega)) hg2 hm2 hv2 (pa_cons pe_sem pa_nil (na [])) (by decide) (by decide) (na []) rfl
  refine sem_of (pe_callB (cr_sortedT cx.calm) hg hm hv (pa_cons hset pa_nil (na2 [])) (by decide) (by decide) (na2 []) rfl) (ha σ F H s _ fun l vs F1 H1 g1 sq r1 => ?_)
  obtain ⟨ks, e1, e2, e3⟩ := rp_pairs (r1.mono g1.fh)
  obtain ⟨ks', e1', e2', e3'⟩ := rp_pairs r1
  have hkk : ks = ks' := by
    have h1 : ks.map (fun p => V.ref p.1) = ks'.map (fun p => V.ref p.1) := e1.symm.trans e1'
    have h2 : ks.map (·.2) = ks'.map (·.2) := e2.trans e2'.symm
    clear e1 e2 e3 e1' e2' e3'
    induction ks generalizing ks' with
    | nil => cases ks' with
      | nil => rfl
      | cons _ _ => cases h1
    | cons x r ih => cases ks' with
      | nil => cases h1
      | cons y t =>
        rw [List.map_cons, List.map_cons] at h1 h2
        injection h1 with h1 h1'
        injection h2 with h2 h2'
        injection h1 with h1
        rw [ih t h1' h2', Prod.ext h1 h2]
  subst hkk
  have hkl : ks.length = ps.length := by
    have := congrArg List.length e2
    rwa [List.length_map, List.length_map] at this
  have hks : ∀ q ∈ ks, ∃ u ∈ ps, q.2 = pl2 u := fun q hq => by
    have : q.2 ∈ ps.map pl2 := by rw [← e2]; exact List.mem_map_of_mem hq
    obtain ⟨u, hu, e⟩ := List.mem_map.mp this
    exact ⟨u, hu, e.symm⟩
  refine ⟨l, ks, rfl, by rw [← e1]; exact sq, e3, by omega, fun t L ht hL1 hL2 => ?_⟩
  have gt : Grow F1 H1 F1 (upd H1 t (SetTO X.prog X.w t L)) := Grow.newO g1.fh ht
  refine ⟨t, L, 2, 64, rfl, upd_same, fun p hp => Same.sqt gt.hh (e3 p (hL1 p hp)), by decide, fun p hp => ?_, fun L' t' hperm hnd hl64 hpw ht' => ?_⟩
  · obtain ⟨u, hu, e⟩ := hks p (hL1 p hp)
    rw [e]
    obtain ⟨h1, h2⟩ := hb u hu
    refine ⟨rfl, ?_⟩
    intro x hx
    rcases List.mem_cons.mp hx with z | hx
    · subst z; exact h1
    · rcases List.mem_cons.mp hx with z | hx
      · subst z; exact h2
      · cases hx
  · have hL'ks : ∀ p ∈ L', p ∈ ks := fun p hp => hL1 p (hperm.mem_iff.mp hp)
    obtain ⟨qs, eq1, eq2⟩ := of_pl2 (l := L'.map (·.2)) (ps := ps) fun x hx => by
      obtain ⟨p, hp, e⟩ := List.mem_map.mp hx
      obtain ⟨u, hu, e'⟩ := hks p (hL'ks p hp)
      rw [← e, e']; exact List.mem_map_of_mem hu
    have hqs : qs = sdedup ps := by
      refine sdedup_is ?_ fun x => ⟨fun hx => eq2 x hx, fun hx => ?_⟩
      · have nd2 : (qs.map pl2).Nodup := eq1 ▸ hnd
        have pw2 : (L'.map (·.2)).Pairwise (fun q r => TS.code 64 q ≤ TS.code 64 r) := List.pairwise_map.mpr hpw
        rw [eq1] at pw2
        have both := (List.pairwise_map.mp pw2).and (List.pairwise_map.mp nd2)
        refine List.Pairwise.imp_of_mem (fun {a b} ha hb' h => ?_) both
        have b1 := hb a (eq2 a ha)
        have b2 := hb b (eq2 b hb')
        exact pair_lt h.1 h.2 b1.1 b1.2 b2.1 b2.2
      · have hx' : pl2 x ∈ ks.map (·.2) := by rw [e2]; exact List.mem_map_of_mem hx
        obtain ⟨p, hp, e⟩ := List.mem_map.mp hx'
        have h3 := hL2 p hp
        obtain ⟨p', hp', e'⟩ := List.mem_map.mp h3
        have h4 : p'.2 ∈ L'.map (·.2) := List.mem_map_of_mem (hperm.mem_iff.mpr hp')
        rw [e', e, eq1] at h4
        obtain ⟨y, hy, ey⟩ := List.mem_map.mp h4
        rw [← pl2_inj ey]; exact hy
    subst hqs
    exact k t' _ F1 _ ((g1.trans gt).trans (Grow.newO gt.fh ht')) (g1.hh.free (gt.hh.free ht')) (g1.fh.free (gt.hh.free ht')) upd_same (pairs_rp eq1 fun p hp => e3' p (hL'ks p hp))
end
end G

namespace G
open PySem L2
/-! ### defs whose arguments are borrowed -/
inductive ArgsOk (K : PySem.W.Frag) (C : Addr) (F H : Hp) : List V → List SD → Prop
  | nil : ArgsOk K C F H [] []
  | dat {v : V} {vs : List V} {d : PyData} {ss : List SD} : Rp K C F v d → ArgsOk K C F H vs ss → ArgsOk K C F H (v :: vs) (.dat d :: ss)
  | bor {v : V} {vs : List V} {d : PyData} {ss : List SD} : Rp K C H v d → ArgsOk K C F H vs ss → ArgsOk K C F H (v :: vs) (.bor d :: ss)
theorem ArgsOk.length {K : PySem.W.Frag} {C : Addr} {F H : Hp} {vs : List V} {ss : List SD} (h : ArgsOk K C F H vs ss) : vs.length = ss.length := by
  induction h with
  | nil => rfl
  | dat _ _ ih => exact congrArg (· + 1) ih
  | bor _ _ ih => exact congrArg (· + 1) ih
theorem ArgsOk.noOwn {K : PySem.W.Frag} {C : Addr} {F H : Hp} {vs : List V} {ss : List SD} (h : ArgsOk K C F H vs ss) : ∀ (i : Nat) (ds : List PyData), ss[i]? ≠ some (.own ds) := by
  induction h with
  | nil => intro i ds e; simp at e
  | dat _ _ ih =>
    intro i ds e
    cases i with
    | zero => simp at e
    | succ i => exact ih i ds (by simpa using e)
  | bor _ _ ih =>
    intro i ds e
    cases i with
    | zero => simp at e
    | succ i => exact ih i ds (by simpa using e)
theorem ArgsOk.get {K : PySem.W.Frag} {C : Addr} {F H : Hp} {vs : List V} {ss : List SD} (h : ArgsOk K C F H vs ss) : ∀ (i : Nat) (sd : SD), ss[i]? = some sd → ∃ v, vs[i]? = some v ∧ SlotOk K ⟨C, F, H, F⟩ F H sd (some (some v)) := by
  induction h with
  | nil => intro i sd e; simp at e
  | @dat v vs d ss r _ ih =>
    intro i sd e
    cases i with
    | zero => cases Option.some.inj (by simpa using e); exact ⟨v, rfl, v, rfl, r⟩
    | succ i =>
      obtain ⟨v, h1, h2⟩ := ih i sd (by simpa using e)
      exact ⟨v, by simpa using h1, h2⟩
  | @bor v vs d ss r _ ih =>
    intro i sd e
    cases i with
    | zero => cases Option.some.inj (by simpa using e); exact ⟨v, rfl, v, rfl, r⟩
    | succ i =>
      obtain ⟨v, h1, h2⟩ := ih i sd (by simpa using e)
      exact ⟨v, by simpa using h1, h2⟩
def spG {α : Type} (K : PySem.W.Frag) (C : Addr) (args : α → List SD) (pre : α → Prop) (out : α → Out) : Sp := fun vs H Q E =>
  ∃ (x : α) (F : Hp), pre x ∧ Same F H ∧ ArgsOk K C F H vs (args x) ∧ OutK K C F H Q E (out x)
theorem sat_startG {K : PySem.W.Frag} {C : Addr} {F H : Hp} {vs : List V} {as : List SD} {N : List Str} (hf : Same F H) (r : ArgsOk K C F H vs as) (hl : as.length ≤ N.length) :
    Sat K ⟨C, F, H, F⟩ (as ++ List.replicate (N.length - as.length) SD.un) (L2.start N vs) F H where
  g := Grow.refl hf
  pin := Same.refl _
  len := by
    unfold L2.start
    rw [List.length_append, List.length_append, List.length_map, List.length_replicate, List.length_replicate, r.length]
  slot := fun i sd e => by
    by_cases hi : i < as.length
    · rw [List.getElem?_append_left hi] at e
      obtain ⟨v, hv, rv⟩ := r.get i sd e
      rw [start_get hv]
      exact rv
    · rw [List.getElem?_append_right (by omega), List.getElem?_replicate] at e
      split at e
      · cases e; trivial
      · cases e
  ne := fun i j xs ys hij e1 e2 => by
    exfalso
    by_cases hi : i < as.length
    · rw [List.getElem?_append_left hi] at e1
      exact r.noOwn i xs e1
    · rw [List.getElem?_append_right (by omega), List.getElem?_replicate] at e1
      split at e1
      · cases e1
      · cases e1
section
variable {P : Program} {w : World} {K : PySem.W.Frag} {mg : Str → Option Value} {base : Heap}
theorem ok_fnG {x qual : Str} {st : Stmt} {f : Addr} {fd : FuncData} {N ps : List Str} {k : Nat} {C : Addr} {α : Type} {args : α → List SD} {pre : α → Prop} {out : α → Out} (F : L2.Fun K x qual st f fd) (S : FnScope N ps (defScope st)) (hl : ∀ a, (args a).length = ps.length)
    (body : ∀ (cdv : Value) (A : Around) (outer : List Env) (s : Shared) (H F0 : Hp) (u : α) (Q : VK) (E : XK) (X : Cx) (hX : X = cxOf (L2.CX P w) P w K mg base N qual (defScope st) f cdv A outer s H E), Cxt X → Room k X.A → Takes X (dW E) → pre u → OutK K C F0 H Q E (out u) →
      Go X ⟨C, F0, H, F0⟩ (defBody st) (args u ++ List.replicate (N.length - (args u).length) SD.un) (dE Q)) :
    FnOk P w K mg base (L2.CX P w) (k + 1) f fd ps (spG K C args pre out) := by
  have hNl : ps.length ≤ N.length := by have := congrArg List.length S.pre; rw [List.length_take] at this; omega
  refine F.okX S (fun vs H Q E h => ?_) (fun cdv A outer s H vs Q E hr h => ?_)
  · obtain ⟨u, F0, _, _, r, _⟩ := h
    rw [r.length, hl]
  · obtain ⟨u, F0, hp, hf, r, ho⟩ := h
    refine ⟨_, pss_sem, ?_⟩
    have cx : Cxt (cxOf (L2.CX P w) P w K mg base N qual (defScope st) f cdv A outer s H E) := ⟨rfl, S.nd, passes_of rfl, by have := hr.un; show (A.deeper _).units + 65 < cLine; omega⟩
    exact body cdv A outer s H F0 u Q E _ rfl cx hr (takes_of rfl rfl rfl rfl) hp ho _ F0 H (sat_startG hf r (by rw [hl]; exact hNl))
end
section
variable {X : Cx} {B : Bs} {ss : List SD} {e a b c : Expr} {es : List Expr} {pos p p2 p3 p4 : Pos} {d x y z : PyData} {ds ds' : List PyData} {rest body orelse : List Stmt} {st : Stmt} {D : Ends}
  {α : Type} {args : α → List SD} {pre : α → Prop} {out : α → Out} {fn : Str} {k : Nat}
def PGa (X : Cx) (B : Bs) (es : List Expr) (ss : List SD) (as : List SD) : Prop := ∀ (σ : St) (F H : Hp), Sat X.K B ss σ F H → ∀ Q : List V → Hp → Prop, (∀ vs F' H', Grow F H F' H' → ArgsOk X.K B.C F' H' vs as → Q vs H') → tSemA X es σ H Q
theorem ArgsOk.mono {K : PySem.W.Frag} {C : Addr} {F H F' H' : Hp} {vs : List V} {as : List SD} (h : ArgsOk K C F H vs as) (g : Grow F H F' H') : ArgsOk K C F' H' vs as := by
  induction h with
  | nil => exact .nil
  | dat r _ ih => exact .dat (r.mono g.ff) ih
  | bor r _ ih => exact .bor (r.mono g.hh) ih
theorem pga_nil : PGa X B [] ss [] := fun σ F H s Q q => semA_of pa_nil (q [] F H (Grow.refl s.fh) .nil)
theorem pga_dat {as : List SD} (h : PD X B e ss d) (t : PGa X B es ss as) (hn : NSt X e := by intro _; rfl) : PGa X B (e :: es) ss (.dat d :: as) := fun σ F H s Q q =>
  semA_of (pa_cons pe_sem pa_sem (hn es)) (h σ F H s _ fun v F1 H1 g1 r1 => t σ F1 H1 (s.grow g1) _ fun vs F2 H2 g2 r2 => q (v :: vs) F2 H2 (g1.trans g2) (.dat (r1.mono g2.ff) r2))
theorem pga_bor {as : List SD} (h : PB X B e ss d) (t : PGa X B es ss as) (hn : NSt X e := by intro _; rfl) : PGa X B (e :: es) ss (.bor d :: as) := fun σ F H s Q q =>
  semA_of (pa_cons pe_sem pa_sem (hn es)) (h σ F H s _ fun v F1 H1 g1 r1 => t σ F1 H1 (s.grow g1) _ fun vs F2 H2 g2 r2 => q (v :: vs) F2 H2 (g1.trans g2) (.bor (r1.mono g2.hh) r2))
theorem pd_callG (cf : Cal X.prog X.w X.K X.mg X.base fn k (spG X.K B.C args pre out)) (hr : Room k X.A) (u : α) (ha : PGa X B (e :: es) ss (args u)) (ho : out u = .val d) (hp : pre u)  (hg : Gl X fn := by rfl)
    (hdb : (fn == ("__debug__" : Str)) = false := by decide) (he : starEach (e :: es) X.env = (false, eval e X.env) :: starEach es X.env := by rfl) (hpl : (backTo pos (starEach es X.env)).any (·.1) = false := by rfl) :
    PD X B (.Call (.Name fn p) (e :: es) [] pos) ss d := fun σ F H s Q q => by
  obtain ⟨f, fd, ps, F0, hm, hk, hb⟩ := cf
  refine sem_of (pe_call (dvs := []) (ds := []) F0 hr hg hm hk hb .nil passL pa_sem hdb he hpl) (ha σ F H s _ fun vs F1 H1 g r => ?_)
  refine ⟨u, F1, hp, g.fh, by rw [List.append_nil]; exact r, ?_⟩
  rw [ho]
  exact fun v F2 H2 g2 r2 => q v F2 H2 (g.trans g2) r2
theorem px_callG {W : WX} {cc : Addr} (tk : Takes X W) (cf : Cal X.prog X.w X.K X.mg X.base fn k (spG X.K B.C args pre out)) (hr : Room k X.A) (u : α) (ha : PGa X B (e :: es) ss (args u)) (ho : out u = .exc cc) (hp : pre u) (hg : Gl X fn := by rfl)
    (hdb : (fn == ("__debug__" : Str)) = false := by decide) (he : starEach (e :: es) X.env = (false, eval e X.env) :: starEach es X.env := by rfl) (hpl : (backTo pos (starEach es X.env)).any (·.1) = false := by rfl) :
    PX X B W (.Call (.Name fn p) (e :: es) [] pos) ss cc := fun σ F H s hW Q => by
  obtain ⟨f, fd, ps, F0, hm, hk, hb⟩ := cf
  refine sem_of (pe_callS (E := WE W) F0 hr hg hm hk hb (fun σ => passAt tk σ) pa_sem hdb he hpl) (ha σ F H s _ fun vs F1 H1 g r => ?_)
  refine ⟨u, F1, hp, g.fh, r, ?_⟩
  rw [ho]
  exact fun H' h => hW H' (g.hh.trans h)

/-! ### a floor is made -/
/-- the numbers, the bans: is it a floor -/
def okPair (u : Int × Int) : Bool := (decide (0 ≤ u.1) && decide (u.1 ≤ 9)) && (decide (0 ≤ u.2) && decide (u.2 ≤ 9)) && decide (u.1 ≠ u.2)
def bansOk (bs : List (Int × Int)) : Bool := decide (bs.length ≤ 20) && bs.all okPair
def numsOk (m h t : Int) : Bool := (decide (2 ≤ m) && decide (m ≤ 4)) && (decide (1 ≤ h) && decide (h ≤ 6)) && (decide (1 ≤ t) && decide (t ≤ 3))
def floorOk (f : FL) : Bool := numsOk f.1 f.2.1 f.2.2.1 && bansOk f.2.2.2
/-- the floor as it holds its bans -/
def normF (f : FL) : FL := (f.1, f.2.1, f.2.2.1, sdedup f.2.2.2)
/-- __init__ of a new floor at p: from the heap H1 ahead of it -/
def spInit (K : PySem.W.Frag) (C cNF : Addr) : Sp := fun vs H Q E => ∃ (f : FL) (p dx : Addr) (v : V) (F H1 : Hp), vs = [.ref p, .int f.1, .int f.2.1, .int f.2.2.1, v] ∧ H = upd (upd H1 dx (.own p)) p (.ins C dx []) ∧ H1 p = none ∧ H1 dx = none ∧ dx ≠ p ∧ Same F H1 ∧
  Rp K C H1 v (.list (dPrs f.2.2.2)) ∧ (floorOk f = true → ∀ F' H', Grow F H1 F' H' → Rp K C F' (.ref p) (dFl (normF f)) → Q .non H') ∧ (floorOk f = false → ∀ H', Same H1 H' → E (.ref cNF) none H')
/-- the class can be made by a call -/
def CalI (P : Program) (w : World) (K : PySem.W.Frag) (mg : Str → Option Value) (base : Heap) (x : Str) (k : Nat) (sp : Sp) (C : Addr) : Prop :=
  ∃ (f : Addr) (fd : FuncData) (ps : List Str), Mk K C f ∧ FnOk P w K mg base (L2.CX P w) k f fd ps sp ∧ mg x = some (.ref C) ∧ Binds K fd ps []
theorem run_makeS {CX : CXT} {C f : Addr} {fd : FuncData} {ps : List Str} {sp : Sp} {E : St → XK} {pins : List (Addr × Obj)} {σ : St} {H : Hp} {s : Shared} {Q : VK} {us : List Value} {vs : List V} (M : Mk X.K C f) (F : FnOk X.prog X.w X.K X.mg X.base CX k f fd ps sp) (hr : Room (k + 1) X.A) (hb : Binds X.K fd ps [])
    (hx : PassesAt CX X σ (E σ)) (I : Inv X pins σ H s) (r : Vals vs us)
    (h : ∀ x dx, H x = none → H dx = none → dx ≠ x → sp (.ref x :: vs) (upd (upd H dx (.own x)) x (.ins C dx [])) (fun v H2 => v = .non ∧ Q (.ref x) H2) (E σ)) :
    wpAny (model X.prog X.w) X.A (call (.ref C) us) (EP X pins σ Q) X.xe s := by
  have hq := h (s.heap.objs.size + 1) s.heap.objs.size (I.hok.fresh (Nat.le_succ _)) (I.hok.fresh (Nat.le_refl _)) (Nat.ne_of_lt (Nat.lt_succ_self _))
  have I2 := Inv.made (C := C) I
  have r2 : Vals (V.ref (s.heap.objs.size + 1) :: vs) (Value.ref (s.heap.objs.size + 1) :: us) := .cons rfl r
  have hl : (Value.ref (s.heap.objs.size + 1) :: us).length = ps.length := by
    have e := r2.length
    rw [F.len _ _ _ _ hq] at e
    exact e.symm
  have b := hb _ (Value.ref (s.heap.objs.size + 1) :: us) I2.kIn (by rw [List.append_nil]; exact hl)
  rw [List.append_nil] at b
  refine wpAny_call (make_map (f := f) I.kIn M.makes M.init (beq_iff_eq.mp M.fn) (codeAny_mono (F.run _ X.stack _ _ ⟨Value.ref (s.heap.objs.size + 1) :: us, []⟩ (Value.ref (s.heap.objs.size + 1) :: us) _ _ (E σ) (hr.make C us [])
    (I2.env0.make C us []) b r2 hq) fun r s' hq' => ?_))
  cases r with
  | error e => exact hx pins _ _ e s' I2 hq'
  | ok fl =>
    cases fl with
    | ret u =>
      obtain ⟨v, H', I3, rv, ev, q3⟩ := I2.after hq'
      subst ev
      exact ⟨rv, ⟨V.ref (s.heap.objs.size + 1), H', I3, rfl, q3⟩⟩
    | next => exact False.elim hq'
    | brk => exact False.elim hq'
    | cont => exact False.elim hq'
def tMakeS (C : Addr) (sp : Sp) (E : St → XK) (t : TA) : TE := fun σ H Q => t σ H fun vs H1 => ∀ x dx, H1 x = none → H1 dx = none → dx ≠ x →
  sp (.ref x :: vs) (upd (upd H1 dx (.own x)) x (.ins C dx [])) (fun v H2 => v = .non ∧ Q (.ref x) H2) (E σ)
theorem pe_makeS {CX : CXT} {C f : Addr} {fd : FuncData} {ps : List Str} {sp : Sp} {E : St → XK} {t : TA} (M : Mk X.K C f) (F : FnOk X.prog X.w X.K X.mg X.base CX k f fd ps sp) (hr : Room (k + 1) X.A) (hg : Gl X fn) (hm : X.mg fn = some (.ref C)) (hb : Binds X.K fd ps []) (hx : ∀ σ, PassesAt CX X σ (E σ))
    (ha : PA X (e :: es) t) (hdb : (fn == ("__debug__" : Str)) = false := by decide) (he : starEach (e :: es) X.env = (false, eval e X.env) :: starEach es X.env := by rfl) (hpl : (backTo pos (starEach es X.env)).any (·.1) = false := by rfl) :
    PE X (.Call (.Name fn p) (e :: es) [] pos) (tMakeS C sp E t) := by
  refine ⟨fun pins s σ H Q I h => ?_⟩
  refine wpAny_Call_Name_kw (ld_glob I hg hm ?_ hdb)
  refine PySem.W.callWith_K (h₀ := X.base) I.ok.mod.kin M.kp (thn (ha.run pos pins s σ H _ I h) fun us s1 ⟨vs, H1, I1, r, q⟩ => ⟨I1.kIn, ?_⟩) he hpl
  exact run_makeS M F hr hb (hx σ) I1 r q
theorem args5 {K : PySem.W.Frag} {C : Addr} {F H : Hp} {f : FL} {vs : List V} (r : ArgsOk K C F H vs [.dat (.int f.1), .dat (.int f.2.1), .dat (.int f.2.2.1), .bor (.list (dPrs f.2.2.2))]) : ∃ v, vs = [.int f.1, .int f.2.1, .int f.2.2.1, v] ∧ Rp K C H v (.list (dPrs f.2.2.2)) := by
  cases r with
  | dat r1 t1 => cases t1 with
    | dat r2 t2 => cases t2 with
      | dat r3 t3 => cases t3 with
        | bor r4 t4 =>
          cases t4
          cases r1; cases r2; cases r3
          exact ⟨_, rfl, r4⟩
/-- Floor(a, b, c, bans) -/
theorem pd_make {cNF : Addr} (cf : CalI X.prog X.w X.K X.mg X.base fn k (spInit X.K B.C cNF) B.C) (hr : Room (k + 1) X.A) (f : FL) (ha : PGa X B (e :: es) ss [.dat (.int f.1), .dat (.int f.2.1), .dat (.int f.2.2.1), .bor (.list (dPrs f.2.2.2))]) (ho : floorOk f = true) (hg : Gl X fn := by rfl)
    (hdb : (fn == ("__debug__" : Str)) = false := by decide) (he : starEach (e :: es) X.env = (false, eval e X.env) :: starEach es X.env := by rfl) (hpl : (backTo pos (starEach es X.env)).any (·.1) = false := by rfl) :
    PD X B (.Call (.Name fn p) (e :: es) [] pos) ss (dFl (normF f)) := fun σ F H s Q q => by
  obtain ⟨f0, fd, ps, M, F0, hm, hb⟩ := cf
  refine sem_of (pe_make (dvs := []) (ds := []) (E := E0) M F0 hr hg hm hb .nil passL pa_sem hdb he hpl) (ha σ F H s _ fun vs F1 H1 g r => ?_)
  obtain ⟨v, rfl, r4⟩ := args5 r
  intro x dx hx hdx hne
  refine ⟨f, x, dx, v, F1, H1, rfl, rfl, hx, hdx, hne, g.fh, r4, fun _ F2 H2 g2 r2 => ⟨rfl, q _ F2 H2 (g.trans g2) r2⟩, fun z => by rw [ho] at z; cases z⟩
theorem px_make {W : WX} {cNF : Addr} (tk : Takes X W) (cf : CalI X.prog X.w X.K X.mg X.base fn k (spInit X.K B.C cNF) B.C) (hr : Room (k + 1) X.A) (f : FL) (ha : PGa X B (e :: es) ss [.dat (.int f.1), .dat (.int f.2.1), .dat (.int f.2.2.1), .bor (.list (dPrs f.2.2.2))]) (ho : floorOk f = false) (hg : Gl X fn := by rfl)
    (hdb : (fn == ("__debug__" : Str)) = false := by decide) (he : starEach (e :: es) X.env = (false, eval e X.env) :: starEach es X.env := by rfl) (hpl : (backTo pos (starEach es X.env)).any (·.1) = false := by rfl) :
    PX X B W (.Call (.Name fn p) (e :: es) [] pos) ss cNF := fun σ F H s hW Q => by
  obtain ⟨f0, fd, ps, M, F0, hm, hb⟩ := cf
  refine sem_of (pe_makeS (E := WE W) M F0 hr hg hm hb (fun σ => passAt tk σ) pa_sem hdb he hpl) (ha σ F H s _ fun vs F1 H1 g r => ?_)
  obtain ⟨v, rfl, r4⟩ := args5 r
  intro x dx hx hdx hne
  exact ⟨f, x, dx, v, F1, H1, rfl, rfl, hx, hdx, hne, g.fh, r4, fun z => (by rw [ho] at z; cases z), fun _ H2 h2 => hW H2 (g.hh.trans h2)⟩
end
end G

namespace G
open PySem L2
section
variable {X : Cx} {B : Bs} {ss : List SD} {e a b c : Expr} {es : List Expr} {pos p p2 p3 p4 p5 : Pos} {d x y z : PyData} {ds ds' : List PyData} {rest body orelse : List Stmt} {st : Stmt} {D : Ends}
/-- [e for y in range(a)] -/
theorem pl_lcR {g : Nat → PyData} {n : Int} (j : Nat) {y : Str} {scope : Scope} (cx : Cxt X) (he : PD X B a ss (.int n)) (hn : 0 ≤ n ∧ n < 1000000)
    (hel : ∀ (i : Nat), (i : Int) < n → ∀ (s : Shared) (H' : Hp) (C : Addr) (cl : List (Str × Addr)) (fp : List Addr), PD (Blk X scope s H' C cl fp) B e (ss.set j (.dat (.int (i : Int)))) (g i))
    (hm : X.mg "range" = none) (nr : noRaw ss = true := by rfl) (hg : Gl X "range" := by rfl) (hn1 : NSt X a := by intro _; rfl)
    (hok : BlkOk X.N X.env.scope scope [(y, j)] := by exact blkOk_by (by kernel_rfl))
    (hpg : X.N.Nodup → ∀ (s : Shared) (H' : Hp) (C : Addr) (cl : List (Str × Addr)) (fp : List Addr), PG (Blk X scope s H' C cl fp) (.Name y p) (gName j) := by intro hnd _ _ _ _ _; exact pg_name hnd (by rfl) (Or.inl rfl))
    (hs : ∀ x, foldedSetIterable (.Call (.Name "range" p2) [a] [] p3) X.env x = pure x := by intro _; rfl) :
    PLc X B (.ListComp e [⟨.Name y p, .Call (.Name "range" p2) [a] [] p3, [], 0⟩] scope pos) ss ((List.range n.toNat).map g) :=
  ⟨_, _, _, _, _, _, _, _, _, _, [(y, j)], rfl, pi_range1 hg hm (pa_cons pe_sem pa_nil (hn1 [])) (hn1 []), hok, hpg cx.nd, fun _ _ _ _ _ => pts_nil, fun s H' C cl fp => (⟨fun pins s1 σ H Q I h => h s H' C cl fp pins s1 I⟩ : PE _ e (tBlk X scope e)), hs, fun σ F H s Q q => he σ F H s _ fun v F1 H1 g1 r1 => by
    cases r1
    have s1 := s.grow g1
    have hbig := sizeLine_eq
    refine ⟨n, rfl, by omega, by omega, fun Dl hD => ?_⟩
    have ap : ∀ (i : Nat) (es : List PyData), ss[i]? = some (.own es) → σ[i]? ≠ some (some (.ref Dl)) := fun i es e1 e2 => by
      obtain ⟨a', ws, ea, _, _, h2, _⟩ := s1.slot i _ e1
      rw [e2] at ea
      injection ea with ea
      injection ea with ea
      injection ea with ea
      subst ea
      rw [hD] at h2; cases h2
    have hF1 : F1 Dl = none := g1.fh.free hD
    have hB0 : B.H0 Dl = none := s1.g.hh.free hD
    have hH : H Dl = none := g1.hh.free hD
    refine lc_range (lo := 0) (n := n.toNat) (fun i H' => ∃ F' acc, Sat X.K B ss σ F' H' ∧ Grow F H F' H' ∧ F' Dl = none ∧ H' Dl = some (.lst acc) ∧ RpAll X.K B.C F' acc ((List.range i).map g))
      ⟨F1, [], s1.upd hB0 hF1 nr ap, g1.trans (Grow.newO g1.fh hD), hF1, upd_same, ?_⟩ ?_ ?_
    · rw [List.range_zero]; exact .nil
    · rintro i H' hi ⟨F', acc, s', g', n', h', r'⟩
      have e0 : (0 : Int) + (i : Int) = (i : Int) := Int.zero_add _
      rw [e0]
      have al : acc.length = i := by rw [r'.length, List.length_map, List.length_range]
      have wset' : ∀ v, (wipe σ (List.map (fun x => x.2) [(y, j)])).set j v = σ.set j v := fun v => by
        show ((wipe σ []).set j none).set j v = _
        rw [List.set_set]; rfl
      unfold gName
      rw [wset']
      have wset2 : wipe (σ.set j (some (V.int (i : Int)))) [j] = wipe σ [j] := by
        show (σ.set j _).set j none = σ.set j none
        rw [List.set_set]
      refine ⟨wset2, ?_⟩
      simp only [tYes, ↓reduceIte]
      intro s5 H5 C5 cl5 fp5
      refine hel i (by omega) s5 H5 C5 cl5 fp5 _ F' H' (s'.set_dat (.int _)) _ fun z F4 H4 g4 r4 => ?_
      have n4 := g4.own _ _ h' n'
      refine ⟨acc, g4.hh _ _ h', by rw [al]; omega, F4, acc ++ [z], (s'.grow g4).upd hB0 n4 nr ap (nx_lst (g4.hh _ _ h')), ?_, n4, upd_same, ?_⟩
      · exact ⟨fun b o e => by rw [upd_ne (ne_of_none e hH)]; exact (g'.trans g4).hh b o e, (g'.trans g4).ff, fun b o e => by rw [upd_ne (ne_of_none e n4)]; exact g4.fh b o e, (g'.trans g4).own⟩
      · rw [List.range_succ, List.map_append]
        exact (r'.mono g4.ff).app (.one r4)
    · rintro H' ⟨F', acc, s', g', n', h', r'⟩
      exact q Dl acc F' H' g' hH n' h' r'⟩
end
/-! ### a list or a tuple -/
/-- a row: a tuple or a list of numbers -/
abbrev dSq (tp : Bool) (r : List Int) : PyData := cond tp (.tuple (r.map .int)) (.list (r.map .int))
abbrev dSqs (tp : Bool) (S : List (List Int)) : PyData := cond tp (.tuple (S.map (dSq tp))) (.list (S.map (dSq tp)))
theorem PD.isq {X : Cx} {B : Bs} {e : Expr} {ss : List SD} {tp : Bool} {r : List Int} (h : PD X B e ss (dSq tp r)) : PIs X B e ss (r.map .int) := by
  cases tp
  · exact PD.itl h
  · exact PD.itt h
theorem PD.isqs {X : Cx} {B : Bs} {e : Expr} {ss : List SD} {tp : Bool} {S : List (List Int)} (h : PD X B e ss (dSqs tp S)) : PIs X B e ss (S.map (dSq tp)) := by
  cases tp
  · exact PD.itl h
  · exact PD.itt h
/-- the law's floor -/
abbrev dF4 (f : FL) : PyData := .tuple [.int f.1, .int f.2.1, .int f.2.2.1, .list (dPrs f.2.2.2)]
def cellAt (ns : List Int) (k : Int) : Int := (ns[k.toNat]?).getD 0
def lawBans (ns : List Int) (first most : Int) (n : Nat) : List (Int × Int) := (List.range n).flatMap fun (k : Nat) =>
  let p := cellAt ns (first + 1 + (k : Int))
  if p % most = p / most % most then [] else [(p % most, p / most % most)]
def lawFl (ns : List Int) (first most : Int) : FL :=
  let c := cellAt ns first
  (2 + c % 3, 1 + c / 3 % 6, 1 + c / 18 % 3, lawBans ns first most (c / 72 % 5).toNat)
theorem lawBans_succ (ns : List Int) (first most : Int) (n : Nat) : lawBans ns first most (n + 1) = lawBans ns first most n ++ (
  let p := cellAt ns (first + 1 + (n : Int))
  if p % most = p / most % most then [] else [(p % most, p / most % most)]) := fm_succ _ _
theorem lawBans_len (ns : List Int) (first most : Int) (n : Nat) : (lawBans ns first most n).length ≤ n := by
  have := fm_le (fun (k : Nat) => (let p := cellAt ns (first + 1 + (k : Int))
    if p % most = p / most % most then [] else [(p % most, p / most % most)] : List (Int × Int))) 1 (fun i => by dsimp only; split <;> simp) n
  unfold lawBans
  omega
theorem lawFl_nums (ns : List Int) (first most : Int) : (2 ≤ (lawFl ns first most).1 ∧ (lawFl ns first most).1 ≤ 4) ∧ (1 ≤ (lawFl ns first most).2.1 ∧ (lawFl ns first most).2.1 ≤ 6) ∧ (1 ≤ (lawFl ns first most).2.2.1 ∧ (lawFl ns first most).2.2.1 ≤ 3) ∧ (lawFl ns first most).2.2.2.length ≤ 4 := by
  have l := lawBans_len ns first most (cellAt ns first / 72 % 5).toNat
  unfold lawFl
  dsimp only
  omega
theorem lawBans_ok {ns : List Int} {first most : Int} {n : Nat} (h1 : 0 < most) (h2 : most ≤ 10) {u : Int × Int} (h : u ∈ lawBans ns first most n) : okPair u = true := by
  unfold lawBans at h
  obtain ⟨k, _, hk⟩ := List.mem_flatMap.mp h
  dsimp only at hk
  split at hk
  · cases hk
  · rename_i hne
    rw [List.mem_singleton] at hk
    subst hk
    have a1 := Int.emod_nonneg (cellAt ns (first + 1 + (k : Int))) (show most ≠ 0 by omega)
    have a2 := Int.emod_lt_of_pos (cellAt ns (first + 1 + (k : Int))) h1
    have b1 := Int.emod_nonneg (cellAt ns (first + 1 + (k : Int)) / most) (show most ≠ 0 by omega)
    have b2 := Int.emod_lt_of_pos (cellAt ns (first + 1 + (k : Int)) / most) h1
    unfold okPair
    simp only [Bool.and_eq_true, decide_eq_true_eq, ne_eq]
    omega
theorem lawFl_ok (ns : List Int) (first : Int) {most : Int} (h1 : 0 < most) (h2 : most ≤ 10) : floorOk (lawFl ns first most) = true := by
  obtain ⟨n1, n2, n3, n4⟩ := lawFl_nums ns first most
  unfold floorOk numsOk bansOk
  rw [decide_eq_true n1.1, decide_eq_true n1.2, decide_eq_true n2.1, decide_eq_true n2.2, decide_eq_true n3.1, decide_eq_true n3.2, decide_eq_true (by omega)]
  have : (lawFl ns first most).2.2.2.all okPair = true := List.all_eq_true.mpr fun u hu => lawBans_ok h1 h2 hu
  rw [this]; rfl
theorem prs_app (q : List (Int × Int)) (x y : Int) : dPrs q ++ [.tuple [.int x, .int y]] = dPrs (q ++ [(x, y)]) := by
  unfold dPrs
  rw [List.map_append]; rfl
theorem rowOk_norm (bs : List (Int × Int)) (r : List Int) : rowOk (sdedup bs) r = rowOk bs r := by
  unfold rowOk
  congr 1
  funext k
  rw [decide_eq_decide.mpr (mem_sdedup _ bs)]
theorem good_norm (f : FL) (S : List (List Int)) : goodF (normF f) S = goodF f S := by
  obtain ⟨m, h, t, bs⟩ := f
  have : stackOk h (sdedup bs) = stackOk h bs := by
    funext r
    unfold stackOk
    rw [rowOk_norm]
  show good m h (sdedup bs) S = good m h bs S
  unfold good
  rw [this]
theorem behind_norm (f : FL) (S : List (List Int)) : liftsOf (normF f) S = liftsOf f S := by
  unfold liftsOf liftsAB topN
  simp only [good_norm]
  rfl
end G

namespace G
open PySem L2
section
variable {X : Cx} {B : Bs} {ss : List SD} {e a b c : Expr} {es : List Expr} {pos p p2 p3 p4 p5 : Pos} {d x y z : PyData} {ds ds' : List PyData} {rest body orelse : List Stmt} {st : Stmt} {D : Ends}
/-- the script, read as a list -/
theorem PD.scl {ns : List Int} (h : PD X B e ss (scr ns)) : PLi X B e ss (ns.map .int) := fun σ F H s Q q => h σ F H s Q fun v F' H' g r => by
  generalize hd : scr ns = dd at r
  cases r with
  | non => cases hd
  | bl => cases hd
  | int => cases hd
  | str => cases hd
  | lst => cases hd
  | tup => cases hd
  | flr => cases hd
  | @scr a ms h1 =>
    have e1 : ns.map PyData.int = ms.map PyData.int := by
      injection hd with h2
      injection h2 with h3 _
      injection h3 with h4 _
      injection h4
    have e2 : ns = ms := by
      have inj : ∀ {l m : List Int}, l.map PyData.int = m.map PyData.int → l = m := by
        intro l
        induction l with
        | nil => intro m q; cases m with
          | nil => rfl
          | cons _ _ => cases q
        | cons i l ih => intro m q; cases m with
          | nil => cases q
          | cons j m =>
            rw [List.map_cons, List.map_cons] at q
            injection q with q1 q2
            injection q1 with q1
            rw [q1, ih q2]
      exact inj e1
    subst e2
    exact q _ _ F' H' g (g.fh.seq h1) (RpAll.ints ns)
/-- for k in range(n - 1, -1, -1) -/
theorem go_rngD {n : Int} (j : Nat) {x : Str} (J : Nat → List SD → Prop) (cx : Cxt X) (he : PDs X B [a, b, c] ss [.int (n - 1), .int (-1), .int (-1)]) (hn : 0 ≤ n ∧ n < 2 ^ 60) (h0 : J 0 ss)
    (hb : ∀ (i : Nat) (ss' : List SD), (i : Int) < n → J i ss' → Go X B body (ss'.set j (.dat (.int (n - 1 - (i : Int))))) (lpE X B (J (i + 1)) rest D))
    (hd : ∀ ss', J n.toNat ss' → Go X B rest ss' D) (hm : X.mg "range" = none) (hg : Gl X "range" := by rfl)
    (hs : starEach [a, b, c] X.env = (false, eval a X.env) :: starEach [b, c] X.env := by rfl) (hpl : (backTo p3 (starEach [b, c] X.env)).any (·.1) = false := by rfl)
    (hps : ∀ wi, PI X (.Name x p) (.Call (.Name "range" p2) [a, b, c] [] p3) wi → PS X (.For (.Name x p) (.Call (.Name "range" p2) [a, b, c] [] p3) body [] pos) (tFor wi (gName j) (tSS X body)) := by intro _ hw; exact ps_for (Cxt.pass (by assumption)) (Cxt.calm (by assumption)) hw (pg_name (Cxt.nd (by assumption)) (by rfl) (by first | exact Or.inl rfl | exact Or.inr rfl)) pss_sem) :
    Go X B (.For (.Name x p) (.Call (.Name "range" p2) [a, b, c] [] p3) body [] pos :: rest) ss D :=
  go_step (hps _ (pi_range3 hg hm pa_sem hs hpl)) fun σ F H s => he σ F H s _ fun vs F1 H1 g r => by
    cases r with
    | cons r1 t1 => cases t1 with
      | cons r2 t2 => cases t2 with
        | cons r3 t3 =>
          cases t3; cases r1; cases r2; cases r3
          have e1 : (n - 1 - (-1) : Int).toNat = n.toNat := by omega
          have rg := RgC.neg (i := n - 1) (j := -1) (by omega) (by omega) (by omega) (by omega)
          rw [e1] at rg
          refine ⟨n - 1, -1, -1, n.toNat, rfl, rg, for_rangeC (lo := n - 1) (c := -1) (n := n.toNat) (fun i => Mid X B (J i)) ⟨F1, ss, h0, s.grow g⟩ (fun i σ' H' hi ⟨F', ss', j', s'⟩ => ?_) fun σ' H' ⟨F', ss', j', s'⟩ => hd ss' j' σ' F' H' s'⟩
          have e0 : n - 1 + ((i : Nat) : Int) * -1 = n - 1 - (i : Int) := by omega
          show tSS X body (lpE X B (J (i + 1)) rest D) (σ'.set j (some (.int (n - 1 + ((i : Nat) : Int) * -1)))) H'
          rw [e0]
          exact hb i ss' (by omega) j' _ F' H' (s'.set_dat (.int _))
end
def rgI (a b : Int) : List Int := (List.range (b - a).toNat).map fun i => a + (i : Nat)
theorem rgD_I (a b : Int) : rgD a b = dIs (rgI a b) := by
  unfold rgD rgI dIs
  rw [List.map_map]; rfl
theorem rgI_len (a b : Int) : (rgI a b).length = (b - a).toNat := by unfold rgI; rw [List.length_map, List.length_range]
/-! ### a lift goes back -/
def backL (l : LF) : LF := (l.2.1, l.1, l.2.2)
theorem set_getD_self {α : Type} (S : List (List α)) {i : Nat} (h : i < S.length) : S.set i (S.getD i []) = S := by
  apply List.ext_getElem?
  intro k
  by_cases e : i = k
  · subst e
    rw [List.getElem?_set_self h, List.getD_eq_getElem?_getD, List.getElem?_eq_getElem h] <;> rfl
  · rw [List.getElem?_set_ne e]
theorem behind_back {S : List (List Int)} {l : LF} (ha : l.1 < S.length) (hb : l.2.1 < S.length) (hab : l.1 ≠ l.2.1) (hk : l.2.2 ≤ (S.getD l.1 []).length) : behindL (behindL S l) (backL l) = S := by
  obtain ⟨a, b, k⟩ := l
  simp only at ha hb hab hk
  have hT : behindL S (a, b, k) = (S.set b (S.getD b [] ++ (S.getD a []).drop ((S.getD a []).length - k))).set a ((S.getD a []).take ((S.getD a []).length - k)) := rfl
  generalize hr : S.getD a [] = r at hT hk
  generalize hq : S.getD b [] = q at hT
  have hTb : (behindL S (a, b, k)).getD b [] = q ++ r.drop (r.length - k) := by
    rw [hT, getD_set_ne hab, getD_set_eq hb]
  have hTa : (behindL S (a, b, k)).getD a [] = r.take (r.length - k) := by
    rw [hT, getD_set_eq (by rw [List.length_set]; exact ha)]
  show (((behindL S (a, b, k)).set a ((behindL S (a, b, k)).getD a [] ++ ((behindL S (a, b, k)).getD b []).drop (((behindL S (a, b, k)).getD b []).length - k))).set b (((behindL S (a, b, k)).getD b []).take (((behindL S (a, b, k)).getD b []).length - k))) = S
  rw [hTa, hTb]
  have e1 : (q ++ r.drop (r.length - k)).length - k = q.length := by
    rw [List.length_append, List.length_drop]; omega
  rw [e1, List.drop_left, List.take_left, List.take_append_drop, hT, List.set_set, List.set_comm _ _ hab, List.set_set, ← hr, ← hq]
  have e2 : (S.set b (S.getD b [])).set a (S.getD a []) = S := by
    rw [set_getD_self S hb, set_getD_self S ha]
  rw [List.set_comm _ _ (Ne.symm hab)] at e2 ⊢
  first
    | exact e2
    | (rw [List.set_comm _ _ hab]; exact e2)
theorem back_in {f : FL} {S : List (List Int)} {l : LF} (h : l ∈ liftsOf f S) (hg : goodF f S = true) : backL l ∈ liftsOf f (behindL S l) ∧ behindL (behindL S l) (backL l) = S ∧ goodF f (behindL S l) = true ∧ (behindL S l).flatten.Perm S.flatten := by
  obtain ⟨h1, h2, h3, h4, h5, h6⟩ := mem_liftsOf.mp h
  have hk : l.2.2 ≤ (S.getD l.1 []).length := Nat.le_trans h5 (Nat.min_le_right _ _)
  have hbk := behind_back h1 h2 h3 hk
  refine ⟨mem_liftsOf.mpr ⟨by rw [behind_length]; exact h2, by rw [behind_length]; exact h1, Ne.symm h3, h4, ?_, by rw [hbk]; exact hg⟩, hbk, h6, behind_perm h1 h2 h3⟩
  have hTb : ((behindL S l).getD l.2.1 []).length = (S.getD l.2.1 []).length + l.2.2 := by
    unfold behindL
    dsimp only
    rw [getD_set_ne h3, getD_set_eq h2, List.length_append, List.length_drop]
    omega
  show l.2.2 ≤ min f.2.2.1.toNat ((behindL S l).getD l.2.1 []).length
  rw [hTb]
  have : l.2.2 ≤ f.2.2.1.toNat := Nat.le_trans h5 (Nat.min_le_left _ _)
  omega
/-! ### the law as the end wants it -/
def spLaw (K : PySem.W.Frag) : Sp := fun vs H Q _ => ∃ (a : Addr) (ns : List Int), vs = [.ref a] ∧ SqL K H a (ns.map V.int) ∧ ns.length ≤ 63 ∧ ∀ H', Q (.bl true) H'
abbrev sp_law (K : PySem.W.Frag) (C : Addr) : Sp := spO K C (fun ns : List Int => [scr ns]) (fun ns => ns.length ≤ 63) (fun _ => .val (.bool true))
theorem law_imp {P : Program} {w : World} {K : PySem.W.Frag} {mg : Str → Option Value} {base : Heap} {CX : CXT} {k : Nat} {f C : Addr} {fd : FuncData} {ps : List Str} (F : FnOk P w K mg base CX k f fd ps (sp_law K C)) : FnOk P w K mg base CX k f fd ps (spLaw K) :=
  F.imp fun vs H Q E ⟨a, ns, hv, hs, hl, hq⟩ => ⟨ns, H, hl, fun _ _ h => h, by rw [hv]; exact .cons (.scr hs) .nil, fun v F' H' _ r => by cases r; exact hq H'⟩
end G

namespace G
open PySem L2
/-! ### a def that is called while an error is held: p is that error -/
abbrev SpE := Addr × Obj → Sp
structure FnE (P : Program) (w : World) (K : PySem.W.Frag) (mg : Str → Option Value) (base : Heap) (k : Nat) (f : Addr) (fd : FuncData) (ps : List Str) (sp : SpE) : Prop where
  ln : ∀ (p : Addr × Obj) (vs : List V) (H : Hp) (Q : VK) (E : XK), sp p vs H Q E → vs.length = ps.length
  go : ∀ (p : Addr × Obj) (A : Around) (outer : List Env) (s : Shared) (H : Hp) (gs : Args) (us : List Value) (vs : List V) (Q : VK) (E : XK), L2H.RoomH k A → L2H.PinOk outer H s p → Env0 P w K mg base A outer s H →
    BindsTo s fd gs (ps.zip us) → Vals vs us → sp p vs H Q E → codeAny (model P w) A (.call (.ref f) gs) (CR (L2.CX P w) outer P w H s Q E) s
section
variable {P : Program} {w : World} {K : PySem.W.Frag} {mg : Str → Option Value} {base : Heap}
theorem fnE_of {x qual : Str} {st : Stmt} {f : Addr} {fd : FuncData} {N ps : List Str} {k : Nat} {sp : SpE} (F : L2.Fun K x qual st f fd) (S : FnScope N ps (defScope st)) (hln : ∀ (p : Addr × Obj) (vs : List V) (H : Hp) (Q : VK) (E : XK), sp p vs H Q E → vs.length = ps.length)
    (body : ∀ (p : Addr × Obj) (cdv : Value) (A : Around) (outer : List Env) (s : Shared) (H : Hp) (vs : List V) (Q : VK) (E : XK) (X : Cx), X = L2H.cxH (L2.CX P w) P w K mg base N qual (defScope st) f cdv A outer s H E p → sp p vs H Q E → tSS X (defBody st) { nx := fun _ H' => Q .non H', rt := Q } (L2.start N vs) H) :
    FnE P w K mg base (k + 1) f fd ps sp := by
  obtain ⟨oc, od, kV, doc, pm, an, cdv, ct, osl, rfl, lk, hcd⟩ := F.ex
  refine ⟨hln, fun p A outer s H gs us vs Q E room pin env bind vals hsp => ?_⟩
  have kin : K.In s.heap := env.mod.kin.keeps fun b o q => (env.bs b o q).1
  have hlim : s.heap.NoLimit := env.mod.nolimit.keeps fun b o q => (env.bs b o q).1
  have kinds : ∀ y ∈ ps.zip us, (defScope st).names.lookup y.1 = some .local ∨ ((defScope st).names.lookup y.1 = some .cell ∧ ((cellsFrom (s.heap.objs.size + 1) (defScope st).names []).lookup y.1).isSome = true) := by
    rintro ⟨m, v⟩ hy
    rcases S.par m (List.of_mem_zip hy).1 with q | q
    · exact Or.inl q
    · exact Or.inr ⟨q, PySem.W.cellsFrom_some _ _ _ (Or.inl q)⟩
  refine codeAny_call_function room.depth (kin _ _ lk) rfl S.co S.gen rfl (PySem.W.codeRec_of kin hcd) (bind _ _ _ _ ?_)
  refine wpAny_newFunctionEnv_cells S.kind kinds fun ev hev s1 c1 => ?_
  subst hev
  refine ⟨hlim.keeps c1.toInCall.keep, codeAny_func ?_⟩
  have J := L2H.inv_startH (CX := L2.CX P w) (E := E) S pin env (hln p vs H Q E hsp) vals c1
  refine wpAny_mono (body p cdv A outer s H vs Q E _ rfl hsp [] s1 J) (fun fl s' hs => ?_) fun _ _ z => z
  cases fl with
  | next =>
    obtain ⟨σ', H', J', q⟩ := hs
    exact ⟨V.non, H', J'.os, J'.bare, J'.base, J'.hok, rfl, q⟩
  | ret u =>
    obtain ⟨v, σ', H', J', rv, q⟩ := hs
    exact ⟨v, H', J'.os, J'.bare, J'.base, J'.hok, rv, q⟩
  | brk => obtain ⟨_, _, _, q⟩ := hs; exact q.elim
  | cont => obtain ⟨_, _, _, q⟩ := hs; exact q.elim
end
section
variable {X : Cx} {B : Bs} {ss : List SD} {e a b c : Expr} {es : List Expr} {pos p p2 p3 p4 p5 : Pos} {d x y z : PyData} {ds ds' : List PyData} {rest body orelse : List Stmt} {st : Stmt} {D : Ends}
/-- the same call, an expression of the suite -/
theorem pe_callE {fn : Str} {k : Nat} {f : Addr} {fd : FuncData} {ps : List Str} {sp : SpE} {t : TA} {q : Addr × Obj} (F : FnE X.prog X.w X.K X.mg X.base k f fd ps sp) (hr : L2H.RoomH k X.A) (hq : q ∈ X.pn) (hg : Gl X fn) (hm : X.mg fn = some (.ref f)) (hk : PySem.W.keepIn X.K (.ref f) = true) (hb : Binds X.K fd ps [])
    (ha : PA X (e :: es) t) (hdb : (fn == ("__debug__" : Str)) = false := by decide) (he : starEach (e :: es) X.env = (false, eval e X.env) :: starEach es X.env := by rfl) (hpl : (backTo pos (starEach es X.env)).any (·.1) = false := by rfl) :
    PE X (.Call (.Name fn p) (e :: es) [] pos) (fun σ H Q => t σ H fun vs H1 => sp q vs H1 Q E0) := by
  refine ⟨fun pins s σ H Q I h => wpAny_Call_Name_kw (ld_glob I hg hm ?_ hdb)⟩
  refine PySem.W.callWith_K (h₀ := X.base) I.ok.mod.kin hk (thn (ha.run pos pins s σ H _ I h) fun us s1 ⟨vs, H1, I1, r, hs⟩ => ⟨I1.kIn, ?_⟩) he hpl
  have hl : us.length = ps.length := by rw [← r.length]; exact F.ln _ _ _ _ _ hs
  have bd := hb s1 us I1.kIn (by rw [List.append_nil]; exact hl)
  rw [List.append_nil] at bd
  obtain ⟨g1, g2, g3, g4, g5⟩ := I1.pin q (List.mem_append_left _ hq)
  have pin : L2H.PinOk X.stack H1 s1 q := ⟨g1, g2, fun z => (List.mem_cons.mp (I1.stkSub q.1 z)).elim g3 g4, g5⟩
  refine wpAny_call (codeAny_mono (F.go q X.A X.stack s1 H1 ⟨us, []⟩ us vs Q E0 hr pin I1.env0 bd r hs) fun r' s' z => ?_)
  cases r' with
  | error u => exact passL pins σ H1 s1 u s' I1 z
  | ok fl =>
    cases fl with
    | ret u => exact I1.after z
    | next => exact z.elim
    | brk => exact z.elim
    | cont => exact z.elim
/-- isinstance of an error at hand -/
theorem call_isP {q : Addr × Obj} {E : Addr} (cE : ExcC X.K E) (hq : q ∈ X.pn) (hz : Zc (.ref E) none q.2) (hf : ∃ us, q.2.data = .fields us) : CallR X (.builtin "isinstance") (rIsE X.K E q.1) := by
  obtain ⟨qa, ⟨oc, od, oda, osl⟩⟩ := q
  rintro pins s σ H xs us Q I r ⟨cl, cv, b, rfl, only, kit, k⟩
  match us, r with
  | [u1, u2], .cons r1 (.cons r2 .nil) =>
    obtain rfl : u1 = Value.ref qa := r1
    obtain rfl := only _ r2
    obtain ⟨here, _⟩ := I.pin _ (List.mem_append_left _ hq)
    obtain ⟨vs, hv⟩ := hf
    obtain ⟨hc, hd⟩ := hz
    dsimp only at hv hc hd
    subst hc hd hv
    have at_ : PySem.W.InstAt s.heap qa ⟨.ref E, none, .fields vs, osl⟩ E none := ⟨here, rfl, rfl, trivial⟩
    exact PySem.W.kia_one (PySem.W.handS_kitx_exc cE.hg cE.hk cE.hs cE.hd cE.ha cE.hn cE.ht cE.hm) I.kIn at_ kit (fun z => nomatch z) fun tk => ⟨.bl b, H, I.kept (t' := tk) fun _ _ z => z, rfl, k⟩
theorem pd_isE {n : Str} {q : Addr × Obj} {E : Addr} {cl : V} {cv : Value} {bb : Bool} (i : Nat) (cE : ExcC X.K E) (hq : q ∈ X.pn) (hz : Zc (.ref E) none q.2) (hf : ∃ us, q.2.data = .fields us) (hs : ss[i]? = some (.val (.ref q.1))) (ht : PE X c (tC cl)) (only : ∀ u, RelV cl u → u = cv) (kit : PySem.W.kitOne X.K (.ref E) cv = some bb)
    (hm : X.mg "isinstance" = none) (hN : X.N[i]? = some n := by rfl) (hv : Vis X.env.scope n := by first | exact Or.inl rfl | exact Or.inr (Or.inl rfl) | exact Or.inr (Or.inr rfl)) (hd : (n == ("__debug__" : Str)) = false := by decide) (hcd : (n == ("__classdict__" : Str)) = false := by decide)
    (hg : Gl X "isinstance" := by rfl) (hb : bootBuiltins "isinstance" = some (.builtin "isinstance") := by decide +kernel) (n1 : NSt X (.Name n p2) := by intro _; rfl) (n2 : NSt X c := by intro _; rfl) (hpl : (backTo pos (starEach [c] X.env)).any (·.1) = false := by rfl) :
    PD X B (.Call (.Name "isinstance" p) [.Name n p2, c] [] pos) ss (.bool bb) := fun σ F H s Q k =>
  sem_of (pe_callB (call_isP cE hq hz hf) hg hm hb (pa_cons (pe_var hN hv hd hcd) (pa_cons ht pa_nil (n2 [])) (n1 [c])) (by decide) (by decide) (n1 [c]) hpl) ⟨.ref q.1, s.slot i _ hs, ⟨cl, cv, bb, rfl, only, kit, k _ F H (Grow.refl s.fh) (.bl bb)⟩⟩
theorem pd_isOwn {n x : Str} {q : Addr × Obj} {E cl : Addr} {bb : Bool} (i : Nat) (cE : ExcC X.K E) (hq : q ∈ X.pn) (hz : Zc (.ref E) none q.2) (hf : ∃ us, q.2.data = .fields us) (hs : ss[i]? = some (.val (.ref q.1))) (hcl : X.mg x = some (.ref cl)) (kit : PySem.W.kitOne X.K (.ref E) (.ref cl) = some bb)
    (hm : X.mg "isinstance" = none) (hN : X.N[i]? = some n := by rfl) (hv : Vis X.env.scope n := by first | exact Or.inl rfl | exact Or.inr (Or.inl rfl) | exact Or.inr (Or.inr rfl)) (hd : (n == ("__debug__" : Str)) = false := by decide) (hcd : (n == ("__classdict__" : Str)) = false := by decide)
    (hg : Gl X "isinstance" := by rfl) (hg2 : Gl X x := by rfl) (hdb : (x == ("__debug__" : Str)) = false := by decide) (n1 : NSt X (.Name n p2) := by intro _; rfl) (n2 : NSt X (.Name x p3) := by intro _; rfl) (hpl : (backTo pos (starEach [.Name x p3] X.env)).any (·.1) = false := by rfl) :
    PD X B (.Call (.Name "isinstance" p) [.Name n p2, .Name x p3] [] pos) ss (.bool bb) :=
  pd_isE (cl := .ref cl) (cv := .ref cl) i cE hq hz hf hs (pe_glob hg2 hcl rfl hdb) (fun _ r => r) kit hm hN hv hd hcd hg (by decide +kernel) n1 n2 hpl
/-- weaker ends -/
theorem ss_mono {l : List Stmt} {D1 D2 : Ends} {σ : St} {H : Hp} (h : tSS X l D1 σ H) (n : ∀ σ' H', D1.nx σ' H' → D2.nx σ' H') (r : ∀ v H', D1.rt v H' → D2.rt v H') (b : ∀ σ' H', D1.bk σ' H' → D2.bk σ' H') (c : ∀ σ' H', D1.ct σ' H' → D2.ct σ' H') : tSS X l D2 σ H := fun pins s I =>
  thn (h pins s I) fun f s1 q => by
    cases f with
    | next => obtain ⟨σ', H', J, z⟩ := q; exact ⟨σ', H', J, n _ _ z⟩
    | brk => obtain ⟨σ', H', J, z⟩ := q; exact ⟨σ', H', J, b _ _ z⟩
    | cont => obtain ⟨σ', H', J, z⟩ := q; exact ⟨σ', H', J, c _ _ z⟩
    | ret u => obtain ⟨v, σ', H', J, rv, z⟩ := q; exact ⟨v, σ', H', J, rv, r _ _ z⟩
theorem Sat.over {K : PySem.W.Frag} {σ : St} {F H H' : Hp} (h : Sat K B ss σ F H) (e : Same H H') : Sat K B ss σ F H' := h.grow ⟨e, Same.refl _, h.fh.trans e, fun _ _ _ n => n⟩
/-- try: body, except x as n: suite; Pc tells the classes that the body may raise -/
theorem go_try {n x : Str} {cc : Addr} {b0 : Stmt} {suite : List Stmt} (i : Nat) (Pc : Addr → Prop) (J Js : List SD → Prop) (cx : Cxt X) (hm : X.mg x = some (.ref cc)) (hpc : ∀ E, Pc E → PySem.W.exmOne X.K (.ref E) (.ref cc) = some true)
    (hb : ∀ (pn : List (Addr × Obj)) (xe : Value → Shared → Prop) (W : WX), Takes (X.tr pn xe) W → (∀ (E : Addr) (σ : St) (F H : Hp), Pc E → Sat X.K B ss σ F H → ∀ H', Same H H' → W (.ref E) none σ H') → Cxt (X.tr pn xe) → Go (X.tr pn xe) B body ss { D with nx := Mid X B J })
    (hsu : ∀ (E a : Addr) (oe : Obj) (pn : List (Addr × Obj)), Pc E → Zc (.ref E) none oe → (∃ us, oe.data = .fields us) → Go (X.suite a ((a, oe) :: pn)) B (b0 :: suite) (ss.set i (.val (.ref a))) { nx := Mid X B Js, rt := fun _ _ => False, bk := fun _ _ => False, ct := fun _ _ => False })
    (hj : ∀ ss', Js ss' → J (ss'.set i .un)) (h3 : ∀ ss', J ss' → Go X B rest ss' D)
    (hi : X.N[i]? = some n := by rfl) (hst : X.stack = X.env :: X.outer := by rfl) (hfr : X.env.frame = some X.env.locals := by rfl) (hln : X.env.kindOf n = some .local := by rfl) (hg : Gl X x := by rfl) (hdb : (x == ("__debug__" : Str)) = false := by decide) :
    Go X B (.Try body [.ExceptHandler (some (.Name x p)) (some n) (b0 :: suite) p2] [] [] p3 :: rest) ss D := by
  refine go_stepC (ps_try_as (c := .ref cc) (i := i) (Wout := fun _ _ _ _ => False)
    (tb := fun W D' σ H => ∀ pn xe, Takes (X.tr pn xe) W → PassesOwn (model X.prog X.w) X.A X.env xe → tSS (X.tr pn xe) body D' σ H)
    (ts := fun a cls dd D' σ H => ∀ oe pn, Zc cls dd oe → (∃ us, oe.data = .fields us) → tSS (X.suite a ((a, oe) :: pn)) (b0 :: suite) D' σ H)
    hst hfr cx.nd hi hln ⟨hg, hdb, Or.inl hm⟩ takes0
    (fun W pn xe tk po => ⟨fun pins s σ H D' I h => h pn xe tk po pins s I⟩)
    (fun a oe cls dd pn hz hf => ⟨fun pins s σ H D' I h => h oe pn hz hf pins s I⟩)) J (fun σ F H s => ?_) h3
  intro pn xe tk po
  refine hb pn xe _ tk (fun E σ' F' H' hE s' H2 e2 => ?_) ⟨cx.calm, cx.nd, po, cx.units⟩ σ F H s
  refine ⟨true, hpc E hE, fun _ a ha oe pn2 hz hf => ?_, fun z => nomatch z⟩
  refine ss_mono (hsu E a oe pn2 hE hz hf _ F' H2 ((s'.over e2).set_val)) (fun σ3 H3 ⟨F3, ss3, j3, s3⟩ => ⟨F3, _, hj _ j3, s3.swap⟩) (fun _ _ z => z.elim) (fun _ _ z => z.elim) fun _ _ z => z.elim
end
/-! ### the law's kinds -/
/-- the eight error classes of the module, told by number -/
structure KindT (mg : Str → Option Value) (c : Nat → Addr) : Prop where
  g0 : mg "NoFloor" = some (.ref (c 0))
  g1 : mg "NoStanding" = some (.ref (c 1))
  g2 : mg "NoLift" = some (.ref (c 2))
  g3 : mg "OtherCrates" = some (.ref (c 3))
  g4 : mg "TooMany" = some (.ref (c 4))
  g5 : mg "NoNames" = some (.ref (c 5))
  g6 : mg "NoOrder" = some (.ref (c 6))
  g7 : mg "BadText" = some (.ref (c 7))
  vE : mg "ValueError" = none
/-- E is the class of number k, and no other's child -/
structure KindOf (K : PySem.W.Frag) (c : Nat → Addr) (k : Nat) (E : Addr) : Prop where
  ex : ExcC K E
  is : ∀ j, j < 8 → PySem.W.kitOne K (.ref E) (.ref (c j)) = some (decide (k = j))
  vE : PySem.W.kitOne K (.ref E) (.type "ValueError") = some true
def oneD (k : Nat) : List PyData := (List.range 8).map (fun j => PyData.bool (decide (k = j))) ++ [.bool true]
def spKind (K : PySem.W.Frag) (C : Addr) (c : Nat → Addr) : SpE := fun p vs H Q E => ∃ (k : Nat) (D : Addr) (F : Hp), vs = [.ref p.1] ∧ Same F H ∧ Zc (.ref D) none p.2 ∧ (∃ us, p.2.data = .fields us) ∧ KindOf K c k D ∧ OutK K C F H Q E (.new (oneD k))
def CalE (P : Program) (w : World) (K : PySem.W.Frag) (mg : Str → Option Value) (base : Heap) (x : Str) (k : Nat) (sp : SpE) : Prop :=
  ∃ (f : Addr) (fd : FuncData) (ps : List Str), FnE P w K mg base k f fd ps sp ∧ mg x = some (.ref f) ∧ PySem.W.keepIn K (.ref f) = true ∧ Binds K fd ps []
theorem calE_mk {P : Program} {w : World} {K : PySem.W.Frag} {mg : Str → Option Value} {base : Heap} {x : Str} {st : Stmt} {f : Addr} {fd : FuncData} {ps : List Str} {k : Nat} {sp : SpE} (F : L2.Fun K x x st f fd) (g : mg x = some (.ref f)) (b : Binds K fd ps []) (h : FnE P w K mg base k f fd ps sp) : CalE P w K mg base x k sp := ⟨f, fd, ps, h, g, F.kp, b⟩
section
variable {X : Cx} {B : Bs} {ss : List SD} {pos p p2 : Pos}
theorem pn_kind {fn n : Str} {k m : Nat} {E : Addr} {c : Nat → Addr} {q : Addr × Obj} (i : Nat) (cf : CalE X.prog X.w X.K X.mg X.base fn k (spKind X.K B.C c)) (hr : L2H.RoomH k X.A) (hq : q ∈ X.pn) (hz : Zc (.ref E) none q.2) (hf : ∃ us, q.2.data = .fields us) (kd : KindOf X.K c m E) (hs : ss[i]? = some (.val (.ref q.1)))
    (hN : X.N[i]? = some n := by rfl) (hv : Vis X.env.scope n := by first | exact Or.inl rfl | exact Or.inr (Or.inl rfl) | exact Or.inr (Or.inr rfl)) (hd : (n == ("__debug__" : Str)) = false := by decide) (hcd : (n == ("__classdict__" : Str)) = false := by decide)
    (hg : Gl X fn := by rfl) (hdb : (fn == ("__debug__" : Str)) = false := by decide) (n1 : NSt X (.Name n p2) := by intro _; rfl) (hpl : (backTo pos (starEach [] X.env)).any (·.1) = false := by rfl) :
    PN X B (.Call (.Name fn p) [.Name n p2] [] pos) ss (oneD m) := fun σ F H s Q h => by
  obtain ⟨f, fd, ps, FE, hm, hk, hb⟩ := cf
  refine sem_of (pe_callE (q := q) FE hr hq hg hm hk hb (pa_cons (pe_var hN hv hd hcd) pa_nil (n1 [])) hdb (n1 []) hpl) ⟨.ref q.1, s.slot i _ hs, m, E, F, rfl, s.fh, hz, hf, kd, ?_⟩
  exact fun l vs F2 H2 g2 nn nf h2 r2 => h l vs F2 H2 g2 nn nf h2 r2
end
end G

namespace G
open PySem L2
/-! ### isinstance of data -/
def tyD : PyData → Option String
  | .none => some "NoneType"
  | .bool _ => some "bool"
  | .int _ => some "int"
  | .str _ => some "str"
  | .list _ => some "list"
  | .tuple _ => some "tuple"
  | _ => none
theorem sqt_ty {K : PySem.W.Frag} {H : Hp} {a : Addr} {xs : List V} (h : SqT K H a xs) : TyX K H (.ref a) (.type "tuple") := by
  rcases h with (h | ⟨o, h⟩) | ⟨o, its, n, h1, h2, _⟩
  · exact .base (.tup h)
  · exact .fTuple h
  · exact .kTuple h1 h2
theorem rp_ty {K : PySem.W.Frag} {C : Addr} {H : Hp} {v : V} {d : PyData} {t : String} (r : Rp K C H v d) (h : tyD d = some t) : TyX K H v (.type t) := by
  cases r with
  | non => cases h; exact .base .non
  | bl b => cases h; exact .base (.bl b)
  | int i => cases h; exact .base (.int i)
  | str x => cases h; exact .base (.str x)
  | lst h1 _ => cases h; exact .base (.lst h1)
  | tup h1 _ => cases h; exact sqt_ty h1
  | flr _ _ _ => cases h
  | scr _ => cases h
section
variable {X : Cx} {B : Bs} {ss : List SD} {e a b c : Expr} {es : List Expr} {pos p p2 p3 p4 p5 : Pos} {d x y z : PyData} {ds ds' : List PyData} {rest body orelse : List Stmt} {st : Stmt} {D : Ends}
theorem pd_isi {n : Str} {t : String} {k : Bool} (T : String) (ha : PB X B e ss d) (hty : tyD d = some t) (hk : kitB t T = some k) (hm : X.mg "isinstance" = none) (hmT : X.mg n = none) (hv : bootBuiltins n = some (.type T) := by decide +kernel) (hg : Gl X "isinstance" := by rfl) (hg2 : Gl X n := by rfl) (hnn : n ≠ "__name__" := by decide) (hdb : (n == ("__debug__" : Str)) = false := by decide)
    (hb : bootBuiltins "isinstance" = some (.builtin "isinstance") := by decide +kernel) (n1 : NSt X e := by intro _; rfl) (n2 : NSt X (.Name n p2) := by intro _; rfl) (hpl : (backTo pos (starEach [.Name n p2] X.env)).any (·.1) = false := by rfl) :
    PD X B (.Call (.Name "isinstance" p) [e, .Name n p2] [] pos) ss (.bool k) := fun σ F H s Q q =>
  sem_of (pe_callB call_isi hg hm hb (pa_cons pe_sem (pa_cons (pe_bltn (v := .ty T) hg2 hmT hv rfl hnn hdb) pa_nil (n2 [])) (n1 [.Name n p2])) (by decide) (by decide) (n1 [.Name n p2]) hpl)
    (ha σ F H s _ fun v F1 H1 g r => ⟨v, .ty T, .type t, .type T, k, rfl, .ty T, rp_ty r hty, kit_ty hk, q _ F1 H1 g (.bl k)⟩)
end
theorem eqv_refl {n : Nat} {d : PyData} (h : Pl n d) : PyData.eqv d d = true := by
  have all : ∀ {n : Nat} {ds : List PyData}, (∀ d ∈ ds, PyData.eqv d d = true) → PyData.eqvAll ds ds = true := by
    intro n ds
    induction ds with
    | nil => intro _; simp [PyData.eqvAll]
    | cons d r ih =>
      intro q
      simp only [PyData.eqvAll, Bool.and_eq_true]
      exact ⟨q d List.mem_cons_self, ih fun e he => q e (List.mem_cons_of_mem _ he)⟩
  induction h with
  | non => simp [PyData.eqv]
  | bl => simp [PyData.eqv]
  | int => simp [PyData.eqv]
  | str _ => simp [PyData.eqv]
  | @lst n ds _ ih => simp only [PyData.eqv]; exact all (n := n) ih
  | @tup n ds _ ih => simp only [PyData.eqv]; exact all (n := n) ih
end G

namespace G
open PySem L2
/-! ### a tuple with a list that may change within -/
def tolP (K : PySem.W.Frag) (C : Addr) (n i j : Nat) (ds : List PyData) (d2 : PyData) : Hp → V → Hp → Hp → Prop := fun H v F' H' =>
  ∃ (t l : Addr) (us vs : List V) (w : V), v = .ref t ∧ SqT K F' t us ∧ us.length = n ∧ us[i]? = some (.ref l) ∧ us[j]? = some w ∧ H l = none ∧ F' l = none ∧ H' l = some (.lst vs) ∧ RpAll K C F' vs ds ∧ Rp K C F' w d2
theorem tolP_grow {K : PySem.W.Frag} {C : Addr} {n i j : Nat} {ds : List PyData} {d2 : PyData} {H0 F H F' H' : Hp} {v : V} (h : tolP K C n i j ds d2 H0 v F H) (g : Grow F H F' H') : tolP K C n i j ds d2 H0 v F' H' := by
  obtain ⟨t, l, us, vs, w, e, h1, hl, h2, h3, h4, h5, h6, h7, h8⟩ := h
  exact ⟨t, l, us, vs, w, e, Same.sqt g.ff h1, hl, h2, h3, h4, g.own l _ h6 h5, g.hh l _ h6, h7.mono g.ff, h8.mono g.ff⟩
theorem tolP_from {K : PySem.W.Frag} {C : Addr} {n i j : Nat} {ds : List PyData} {d2 : PyData} {H0 H1 F' H' : Hp} {v : V} (e : Same H0 H1) (h : tolP K C n i j ds d2 H1 v F' H') : tolP K C n i j ds d2 H0 v F' H' := by
  obtain ⟨t, l, us, vs, w, e1, h1, hl, h2, h3, h4, h⟩ := h
  exact ⟨t, l, us, vs, w, e1, h1, hl, h2, h3, e.free h4, h⟩
def noOwn : List SD → Bool
  | [] => true
  | .own _ :: _ => false
  | _ :: r => noOwn r
theorem noOwn_at : ∀ {ss : List SD} {j : Nat} {es : List PyData}, noOwn ss = true → ss[j]? ≠ some (.own es)
  | [], j, es, _ => by simp
  | x :: r, 0, es, n => fun e => by
    have e' : x = .own es := Option.some.inj (by simpa using e)
    subst e'
    simp [noOwn] at n
  | x :: r, j + 1, es, n => fun e => by
    refine noOwn_at (ss := r) (j := j) (es := es) ?_ (by simpa using e)
    cases x with
    | own ds => simp [noOwn] at n
    | un => exact n
    | dat d => exact n
    | bor d => exact n
    | val v => exact n
    | fro P => exact n
    | dic w kvs => exact n
    | raw P => exact n
section
variable {X : Cx} {B : Bs} {ss : List SD} {e a b c : Expr} {es : List Expr} {pos p p2 p3 p4 p5 : Pos} {d x y z : PyData} {ds ds' : List PyData} {rest body orelse : List Stmt} {st : Stmt} {D : Ends}
  {α : Type} {args : α → List PyData} {pre : α → Prop} {out : α → Out} {fn : Str} {k : Nat}
def PRw (X : Cx) (B : Bs) (e : Expr) (ss : List SD) (P : Hp → V → Hp → Hp → Prop) : Prop := ∀ (σ : St) (F H : Hp), Sat X.K B ss σ F H → ∀ Q : VK, (∀ v F' H', Grow F H F' H' → P H v F' H' → Q v H') → tSem X e σ H Q
theorem pr_call {P : Hp → V → Hp → Hp → Prop} (cf : Cal X.prog X.w X.K X.mg X.base fn k (spO X.K B.C args pre out)) (hr : Room k X.A) (u : α) (ha : PDs X B (e :: es) ss (args u)) (ho : out u = .raw P) (hp : pre u) (hP : ∀ {H0 H1 F' H' : Hp} {v : V}, Same H0 H1 → P H1 v F' H' → P H0 v F' H') (hg : Gl X fn := by rfl)
    (hdb : (fn == ("__debug__" : Str)) = false := by decide) (he : starEach (e :: es) X.env = (false, eval e X.env) :: starEach es X.env := by rfl) (hpl : (backTo pos (starEach es X.env)).any (·.1) = false := by rfl) :
    PRw X B (.Call (.Name fn p) (e :: es) [] pos) ss P := fun σ F H s Q q => by
  obtain ⟨f, fd, ps, F0, hm, hk, hb⟩ := cf
  refine sem_of (pe_call (dvs := []) (ds := []) F0 hr hg hm hk hb .nil passL pa_sem hdb he hpl) (ha σ F H s _ fun vs F1 H1 g r => ?_)
  refine ⟨u, F1, hp, g.fh, by rw [List.append_nil]; exact r, ?_⟩
  rw [ho]
  exact fun v F2 H2 g2 r2 => q v F2 H2 (g.trans g2) (hP g.hh r2)
/-- x = .. -/
theorem go_asgT {n i' j' : Nat} (i : Nat) {x : Str} (hN : X.N.Nodup) (he : PRw X B e ss (tolP X.K B.C n i' j' ds d)) (h : Go X B rest (ss.set i (.raw fun v F' H' => tolP X.K B.C n i' j' ds d B.H0 v F' H')) D) (hi : X.N[i]? = some x := by rfl) (hx : Loc X.env.scope x := by first | exact Or.inl rfl | exact Or.inr rfl) (hs : swapsWith e (some (.Name x p)) pos.line X.env = pure false := by rfl)
    (hf : X.fn x = true ∨ X.env.scope.names.lookup x = some .local := by first | exact .inl rfl | exact .inr rfl) : Go X B (.Assign [.Name x p] e pos :: rest) ss D :=
  go_step (ps_set hN hi hx pe_sem hs hf) fun σ F H s => he σ F H s _ fun v F1 H1 g r => h _ F1 H1 ((s.grow g).set_raw fun F2 H2 g2 => tolP_grow (tolP_from s.g.hh r) g2)
/-- x[k], the list within -/
theorem pl_tol {n i' j' : Nat} {kk : Int} {x : Str} {jj : Nat} (i : Nat) (hs : ss[i]? = some (.raw fun v F' H' => tolP X.K B.C n i' j' ds d B.H0 v F' H')) (hk : ixN n kk = some i') (hN : X.N[i]? = some x := by rfl) (hv : Vis X.env.scope x := by first | exact Or.inl rfl | exact Or.inr (Or.inl rfl) | exact Or.inr (Or.inr rfl)) (hd : (x == ("__debug__" : Str)) = false := by decide)
    (hcd : (x == ("__classdict__" : Str)) = false := by decide) (hx : PlainIx (.Constant (.int kk) jj p2) := by intro _ _; rfl) : PLi X B (.Subscript (.Name x p) (.Constant (.int kk) jj p2) pos) ss ds := fun σ F H s Q q => by
  obtain ⟨v, ev, hP⟩ := s.slot i _ hs
  obtain ⟨t, l, us, vs, w, rfl, h1, hl, h2, h3, h4, h5, h6, h7, h8⟩ := hP F H (Grow.refl s.fh)
  exact sem_of (pe_ix ix_seq (pe_var hN hv hd hcd) pe_int hx) ⟨.ref t, ev, .inr (.inl ⟨t, us, kk, .ref l, rfl, rfl, Same.sqt s.fh h1, by unfold atI; rw [hl, hk]; exact h2, q l vs F H (Grow.refl s.fh) (SqL.of h6) h7⟩)⟩
theorem pd_tol {n i' j' : Nat} {kk : Int} {x : Str} {jj : Nat} (i : Nat) (hs : ss[i]? = some (.raw fun v F' H' => tolP X.K B.C n i' j' ds d B.H0 v F' H')) (hk : ixN n kk = some j') (hN : X.N[i]? = some x := by rfl) (hv : Vis X.env.scope x := by first | exact Or.inl rfl | exact Or.inr (Or.inl rfl) | exact Or.inr (Or.inr rfl)) (hd : (x == ("__debug__" : Str)) = false := by decide)
    (hcd : (x == ("__classdict__" : Str)) = false := by decide) (hx : PlainIx (.Constant (.int kk) jj p2) := by intro _ _; rfl) : PD X B (.Subscript (.Name x p) (.Constant (.int kk) jj p2) pos) ss d := fun σ F H s Q q => by
  obtain ⟨v, ev, hP⟩ := s.slot i _ hs
  obtain ⟨t, l, us, vs, w, rfl, h1, hl, h2, h3, h4, h5, h6, h7, h8⟩ := hP F H (Grow.refl s.fh)
  exact sem_of (pe_ix ix_seq (pe_var hN hv hd hcd) pe_int hx) ⟨.ref t, ev, .inr (.inl ⟨t, us, kk, w, rfl, rfl, Same.sqt s.fh h1, by unfold atI; rw [hl, hk]; exact h3, q w F H (Grow.refl s.fh) h8⟩)⟩
/-- isinstance(e, list) -/
theorem sql_ty {K : PySem.W.Frag} {H : Hp} {a : Addr} {xs : List V} (h : SqL K H a xs) : TyX K H (.ref a) (.type "list") := by
  rcases h with (h | ⟨o, h⟩) | ⟨o, its, n, h1, h2, _⟩
  · exact .base (.lst h)
  · exact .base (.frz h)
  · exact .kList h1 h2
theorem pd_isiL {n : Str} (ha : PLi X B e ss ds) (hm : X.mg "isinstance" = none) (hmT : X.mg n = none) (hn : n = ("list" : Str) := by rfl) (hv : bootBuiltins n = some (.type "list") := by decide +kernel) (hg : Gl X "isinstance" := by rfl) (hg2 : Gl X n := by rfl) (hnn : n ≠ "__name__" := by decide) (hdb : (n == ("__debug__" : Str)) = false := by decide)
    (hb : bootBuiltins "isinstance" = some (.builtin "isinstance") := by decide +kernel) (n1 : NSt X e := by intro _; rfl) (n2 : NSt X (.Name n p2) := by intro _; rfl) (hpl : (backTo pos (starEach [.Name n p2] X.env)).any (·.1) = false := by rfl) :
    PD X B (.Call (.Name "isinstance" p) [e, .Name n p2] [] pos) ss (.bool true) := fun σ F H s Q q =>
  sem_of (pe_callB call_isi hg hm hb (pa_cons pe_sem (pa_cons (pe_bltn (v := .ty "list") hg2 hmT hv rfl hnn hdb) pa_nil (n2 [])) (n1 [.Name n p2])) (by decide) (by decide) (n1 [.Name n p2]) hpl)
    (ha σ F H s _ fun l vs F1 H1 g sq r => ⟨.ref l, .ty "list", .type "list", .type "list", true, rfl, .ty "list", sql_ty sq, kit_ty (by decide +kernel), q _ F1 H1 g (.bl true)⟩)
/-- return (x, y), x a list of its own -/
theorem go_retT (i j : Nat) {x y : Str} {kx : Nat} (hs : ss[i]? = some (.own ds)) (hs2 : ss[j]? = some (.dat d)) (k : ∀ v F H, Grow B.F0 B.H0 F H → tolP X.K B.C 2 0 1 ds d B.H0 v F H → D.rt v H)
    (hN : X.N[i]? = some x := by rfl) (hv : Vis X.env.scope x := by first | exact Or.inl rfl | exact Or.inr (Or.inl rfl) | exact Or.inr (Or.inr rfl)) (hd : (x == ("__debug__" : Str)) = false := by decide) (hcd : (x == ("__classdict__" : Str)) = false := by decide)
    (hN2 : X.N[j]? = some y := by rfl) (hv2 : Vis X.env.scope y := by first | exact Or.inl rfl | exact Or.inr (Or.inl rfl) | exact Or.inr (Or.inr rfl)) (hd2 : (y == ("__debug__" : Str)) = false := by decide) (hcd2 : (y == ("__classdict__" : Str)) = false := by decide)
    (n1 : NSt X (.Name x p) := by intro _; rfl) (n2 : NSt X (.Name y p2) := by intro _; rfl) : Go X B (.Return (some (.Tuple [.Name x p, .Name y p2] kx p3)) pos :: rest) ss D :=
  go_step (ps_ret (pe_tup (pa_cons (pe_var hN hv hd hcd) (pa_cons (pe_var hN2 hv2 hd2 hcd2) pa_nil (n2 [])) (n1 [.Name y p2])))) fun σ F H s => by
    obtain ⟨l, vs, el, h0, n, hl, r⟩ := s.slot i _ hs
    obtain ⟨w, ew, rw_⟩ := s.slot j _ hs2
    refine ⟨_, el, _, ew, Nat.le_of_ble_eq_true rfl, fun t ht => ?_⟩
    have nl : F l = none := n
    have g := Grow.new (o := .tup [.ref l, w]) s.fh ht
    refine k _ (upd F t (.tup [.ref l, w])) _ (s.g.trans g) ⟨t, l, [.ref l, w], vs, w, rfl, SqT.of upd_same, rfl, rfl, rfl, h0, g.own l _ hl nl, g.hh l _ hl, r.mono g.ff, rw_.mono g.ff⟩
/-- x[k].append(e): what stood within has changed, x is let go -/
theorem go_tolApp {n i' j' : Nat} {kk : Int} {x : Str} {jj : Nat} {p6 : Pos} (i : Nat) (hs : ss[i]? = some (.raw fun v F' H' => tolP X.K B.C n i' j' ds d B.H0 v F' H')) (hk : ixN n kk = some i') (he : PD X B e ss y) (h : Go X B rest (ss.set i .un) D) (hz : ds.length < sizeLine)
    (nr : noRaw (ss.set i .un) = true := by rfl) (no : ∀ (j : Nat) (es : List PyData), (ss.set i .un)[j]? ≠ some (.own es))
    (hN : X.N[i]? = some x := by rfl) (hv : Vis X.env.scope x := by first | exact Or.inl rfl | exact Or.inr (Or.inl rfl) | exact Or.inr (Or.inr rfl)) (hd : (x == ("__debug__" : Str)) = false := by decide) (hcd : (x == ("__classdict__" : Str)) = false := by decide) (hx : PlainIx (.Constant (.int kk) jj p2) := by intro _ _; rfl)
    (hpe : ∀ {t : TE}, PE X (.Subscript (.Name x p) (.Constant (.int kk) jj p2) p3) t → PE X (.Call (.Attribute (.Subscript (.Name x p) (.Constant (.int kk) jj p2) p3) "append" p4) [e] [] p5) (tBM X.K "list" rAppend t (tCons (tSem X e) tNil)) := by
      intro _ ht; exact pe_bm PySem.F.plainAttrs_list PySem.F.slot_list_append PySem.F.type_list_append mt_append ht (pa_cons pe_sem pa_nil))
    (hsw : swapsWith (.Call (.Attribute (.Subscript (.Name x p) (.Constant (.int kk) jj p2) p3) "append" p4) [e] [] p5) none p6.line X.env = pure false := by rfl) :
    Go X B (.Expr (.Call (.Attribute (.Subscript (.Name x p) (.Constant (.int kk) jj p2) p3) "append" p4) [e] [] p5) p6 :: rest) ss D :=
  go_step (ps_expr (hpe (pe_ix ix_seq (pe_var hN hv hd hcd) pe_int hx)) hsw) fun σ F H s => by
    obtain ⟨v, ev, hP⟩ := s.slot i _ hs
    obtain ⟨t, l, us, vs, w, rfl, h1, hl, h2, h3, h4, h5, h6, h7, h8⟩ := hP F H (Grow.refl s.fh)
    refine ⟨.ref t, ev, .inr (.inl ⟨t, us, kk, .ref l, rfl, rfl, Same.sqt s.fh h1, by unfold atI; rw [hl, hk]; exact h2, ?_⟩)⟩
    refine .inl ⟨rfl, vs, SqL.of h6⟩ |> fun z => ⟨z, he σ F H s _ fun u F1 H1 g r1 => ⟨l, vs, u, rfl, rfl, g.hh _ _ h6, by rw [h7.length]; exact hz, ?_⟩⟩
    have wk : Sat X.K B (ss.set i .un) σ F1 H1 := by
      have s1 := s.grow g
      refine ⟨s1.g, s1.pin, by rw [List.length_set]; exact s1.len, fun j sd q => ?_, fun a' b' es1 es2 _ q1 _ => (no a' es1 q1).elim⟩
      by_cases hj : i = j
      · subst hj
        have hi : i < ss.length := by
          have := (List.getElem?_eq_some_iff.mp q).1
          rwa [List.length_set] at this
        rw [List.getElem?_set_self hi] at q
        cases q; trivial
      · rw [List.getElem?_set_ne hj] at q
        exact s1.slot j sd q
    exact h σ F1 _ (wk.upd h4 (g.own l _ h6 h5) nr (fun j es q => (no j es q).elim) (nx_lst (g.hh _ _ h6)))
end
end G

namespace G
open PySem L2 PySem.Spec PyProof.Rows
theorem tuple_mul1 (l : Addr) (items : Array Value) (n : Nat) (dd : Option Addr) (sl : Array (Option Value)) (u : Tok) :
    Meets (Builtin.«tuple.__mul__» ⟨[.ref l, .int 1 u], []⟩) (fun _ R s => s.heap.get? l = some { cls := .type "tuple", dict := dd, data := .seq items n, slots := sl } ∧ R (.ok (.ret (Value.ref l))) s) :=
  .of_wp fun prog w A R s h => by
    obtain ⟨hp, g, d, tk, os⟩ := s
    obtain ⟨hl, k⟩ := h
    have f1 := AutoSeq1.idx_int
    have c1 : (items.isEmpty || (1 : Int) == 1) = true := by simp
    wp_walk using wpAny_loadPart' hl
    repeat (first
      | (refine wpAny_ite_true (decide_eq_true (by rw [c1])) ?_; wp_walk using wpAny_loadPart' hl)
      | (refine wpAny_ite_true c1 ?_; wp_walk using wpAny_loadPart' hl))
    exact ⟨_, rfl, k⟩
def rRep1 (K : PySem.W.Frag) : R2 := fun x y H Q => ∃ (l : Addr) (xs : List V), x = .ref l ∧ y = .int 1 ∧ SqT K H l xs ∧ Q (.ref l) H
theorem op_rep1 {X : Cx} : OpR X (binaryOp .Mult) (rRep1 X.K) := by
  rintro pins s σ H x y v u Q I rx ry ⟨l, xs, rfl, rfl, hT, q⟩
  cases rx
  obtain ⟨t, rfl⟩ := ry
  obtain ⟨its, r, ⟨⟨cls, dd, data, sl⟩, here, hc, n, hd⟩, hs⟩ := I.tuple hT
  simp only at hc hd
  subst hc hd
  refine wpAny_binaryOp_repeat_ref (T := "tuple") (U := "int") (by decide) ⟨_, here, rfl⟩ (fun s' => typeIs_int s' 1 t) noFill_tuple_mul F.fills_int_mul F.slot_int_rmul repeat_tuple F.slot_int_index.lookup ?_
  refine call_meets F.slot_int_rmul (typeIs_int s 1 t) F.entry_int_rmul (F.args_int_rmul_2 _ _) (int_rmul_tuple 1 t l its.toArray n dd sl) ⟨here, rfl, ⟨_, here, rfl⟩, ?_⟩
  exact call_meets F.slot_tuple_mul ⟨_, here, rfl⟩ F.entry_tuple_mul (F.args_tuple_mul_2 _ _) (tuple_mul1 l its.toArray n dd sl t) ⟨here, .ref l, H, I, rfl, q⟩
section
variable {X : Cx} {B : Bs} {ss : List SD} {a b : Expr} {pos : Pos} {ds : List PyData}
theorem pd_rep1 (ha : PD X B a ss (.tuple ds)) (hb : PD X B b ss (.int 1)) : PD X B (.BinOp a .Mult b pos) ss (.tuple ds) := pd_op op_rep1 ha hb fun F H v w f r1 r2 Q q => by
  cases r2
  cases r1 with
  | tup h1 q1 => exact ⟨_, _, rfl, rfl, Same.sqt f h1, q _ F H (Grow.refl f) (.tup h1 q1)⟩
/-- chained comparison, as a value -/
theorem pd_chain {op op' : CmpOp} {f f' : Int → Int → Bool} {c : Expr} {i j k : Int} (ho : OpR X (compareOp op) (rI0 fun i j => .bl (f i j))) (ho' : OpR X (compareOp op') (rI0 fun i j => .bl (f' i j))) (ha : PD X B a ss (.int i)) (hb : PD X B b ss (.int j)) (hc : PD X B c ss (.int k))
    (hm : lastMarks [op, op'] [b, c] = false := by with_unfolding_all rfl) : PD X B (.Compare a [op, op'] [b, c] pos) ss (.bool (f i j && f' j k)) := fun σ F H s Q q =>
  sem_of (pe_chain ho ho' pe_sem pe_sem pe_sem hm) (ha σ F H s _ fun v F1 H1 g1 r1 => hb σ F1 H1 (s.grow g1) _ fun w F2 H2 g2 r2 => by
    cases r1; cases r2
    refine ⟨i, j, rfl, rfl, f i j, rfl, ?_⟩
    cases hf : f i j with
    | false =>
      refine iteF ?_
      rw [hf] at q
      exact q _ F2 H2 (g1.trans g2) (.bl _)
    | true =>
      refine iteT ?_
      rw [hf, Bool.true_and] at q
      exact hc σ F2 H2 (s.grow (g1.trans g2)) _ fun u F3 H3 g3 r3 => by
        cases r3
        exact ⟨j, k, rfl, rfl, q _ F3 H3 ((g1.trans g2).trans g3) (.bl _)⟩)
end
end G

namespace G
open PySem L2
/-! ### a list of one's own is lent to a def, which may change it; behind the call it is let go -/
def hole (H : Hp) (a : Addr) : Hp := fun b => if b = a then none else H b
theorem hole_at (H : Hp) (a : Addr) : hole H a a = none := if_pos rfl
theorem hole_ne {H : Hp} {a b : Addr} (h : b ≠ a) : hole H a b = H b := if_neg h
theorem hole_to {H G : Hp} {a : Addr} (e : Same G H) (n : G a = none) : Same G (hole H a) := fun b o q => by
  rw [hole_ne (ne_of_none q n)]; exact e b o q
theorem Sat.unset {K : PySem.W.Frag} {B : Bs} {ss : List SD} {σ : St} {F H : Hp} (h : Sat K B ss σ F H) (i : Nat) : Sat K B (ss.set i .un) σ F H := by
  refine ⟨h.g, h.pin, by rw [List.length_set]; exact h.len, fun j sd q => ?_, fun j k xs ys hjk q1 q2 => ?_⟩
  · by_cases hj : i = j
    · subst hj
      have hi : i < ss.length := by
        have := (List.getElem?_eq_some_iff.mp q).1
        rwa [List.length_set] at this
      rw [List.getElem?_set_self hi] at q
      cases q; trivial
    · rw [List.getElem?_set_ne hj] at q
      exact h.slot j sd q
  · have f : ∀ {k : Nat} {xs : List PyData}, (ss.set i .un)[k]? = some (.own xs) → ss[k]? = some (.own xs) := fun {k xs} q => by
      by_cases hk : i = k
      · subst hk
        have hi : i < ss.length := by
          have := (List.getElem?_eq_some_iff.mp q).1
          rwa [List.length_set] at this
        rw [List.getElem?_set_self hi] at q; cases q
      · rw [List.getElem?_set_ne hk] at q; exact q
    exact h.ne j k xs ys hjk (f q1) (f q2)
theorem Sat.hole {K : PySem.W.Frag} {B : Bs} {ss : List SD} {σ : St} {F H : Hp} {i : Nat} {a : Addr} {ds : List PyData} (h : Sat K B ss σ F H) (hs : ss[i]? = some (.own ds)) (ea : σ[i]? = some (some (.ref a))) (nr : noRaw ss = true) : Sat K B (ss.set i .un) σ F (hole H a) := by
  obtain ⟨a', vs, ea', a0, n, ha, r⟩ := h.slot i _ hs
  rw [ea] at ea'
  cases ea'
  have hi : i < ss.length := (List.getElem?_eq_some_iff.mp hs).1
  have u := h.unset i
  refine ⟨⟨hole_to u.g.hh a0, u.g.ff, hole_to u.g.fh n, u.g.own⟩, u.pin, u.len, fun j sd q => ?_, u.ne⟩
  by_cases hj : i = j
  · subst hj
    rw [List.getElem?_set_self hi] at q
    cases q; trivial
  · have z := u.slot j sd q
    rw [List.getElem?_set_ne hj] at q
    cases sd with
    | un => trivial
    | dat d => exact z
    | bor d => exact z
    | val v => exact z
    | fro P => exact z
    | dic w kvs =>
      obtain ⟨b, e1, b0, nb, hb⟩ := z
      exact ⟨b, e1, b0, nb, hb.mono (Same.refl _) (.inl (hole_ne (hb.ne (nx_lst ha))).symm)⟩
    | raw P => exact (noRaw_at nr q).elim
    | own es =>
      obtain ⟨b, ws, eb, b0, nb, hb, rb⟩ := z
      have nab : b ≠ a := fun y => h.ne i j ds es hj hs q (by rw [ea, eb, y])
      exact ⟨b, ws, eb, b0, nb, by rw [hole_ne nab]; exact hb, rb⟩
section
variable {X : Cx} {B : Bs} {ss ss' : List SD} {e a b c : Expr} {es : List Expr} {pos p p2 p3 : Pos} {d x y z : PyData} {ds ds' : List PyData} {rest body orelse : List Stmt} {st : Stmt} {D : Ends}
  {α : Type} {args ow : α → List PyData} {pre : α → Prop} {out : α → PyData} {fn : Str} {k : Nat}
def PDS (X : Cx) (B : Bs) (e : Expr) (ss : List SD) (d : PyData) (ss' : List SD) : Prop := ∀ (σ : St) (F H : Hp), Sat X.K B ss σ F H → ∀ Q : VK, (∀ v F' H', Sat X.K B ss' σ F' H' → Rp X.K B.C F' v d → Q v H') → tSem X e σ H Q
def TDS (X : Cx) (B : Bs) (e : Expr) (ss : List SD) (u : Bool) (ss' : List SD) : Prop := ∀ (σ : St) (F H : Hp), Sat X.K B ss σ F H → ∀ Q : Bool → Hp → Prop, (∀ F' H', Sat X.K B ss' σ F' H' → Q u H') → tSemT X e σ H Q
def TWS (X : Cx) (B : Bs) (e : Expr) (ss : List SD) (u : Bool) (ss' : List SD) : Prop := ∀ (σ : St) (F H : Hp), Sat X.K B ss σ F H → ∀ Q : Bool → Hp → Prop, (∀ F' H', Sat X.K B ss' σ F' H' → Q u H') → tSemW X e σ H Q
theorem TWS.t {u : Bool} (h : TWS X B e ss u ss') : TDS X B e ss u ss' := fun σ F H s Q q => semT_of (PW.pt pw_sem) (h σ F H s Q q)
theorem tws_or1 {u : Bool} (ha : TDS X B a ss u ss') : TWS X B (.BoolOp .Or [a] pos) ss u ss' := fun σ F H s Q q => semW_of (pw_or1 pt_sem) (ha σ F H s Q q)
theorem tws_or {u v : Bool} (ha : TD X B a ss u) (hu : u = false) (hb : TWS X B (.BoolOp .Or (b :: es) pos) ss v ss') : TWS X B (.BoolOp .Or (a :: b :: es) pos) ss v ss' := fun σ F H s Q q =>
  semW_of (pw_or pt_sem pw_sem) (ha σ F H s _ fun F1 H1 g1 => by
    subst hu
    exact iteF (hb σ F1 H1 (s.grow g1) Q q))
theorem tds_not {u : Bool} (ha : TDS X B a ss u ss') : TDS X B (.UnaryOp .Not a pos) ss (!u) ss' := fun σ F H s Q q => semT_of (pt_not pt_sem) (ha σ F H s _ fun F1 H1 g1 => q F1 H1 g1)
theorem tds_val {u : Bool} (ha : PDS X B e ss (.bool u) ss') (he : ∀ whole, isTrue e X.env whole = (do let v ← whole; standAt e.pos; holding [v] (truthy v)) := by intro _; rfl) : TDS X B e ss u ss' := fun σ F H s Q q =>
  semT_of (pt_val pe_sem he) (ha σ F H s _ fun v F1 H1 s1 r => by cases r; exact ⟨u, rfl, q F1 H1 s1⟩)
theorem go_ifS {u : Bool} (hc : TDS X B c ss u ss') (h1 : u = true → Go X B body ss' { D with nx := tSS X rest D }) (h2 : u = false → Go X B orelse ss' { D with nx := tSS X rest D }) : Go X B (.If c body orelse pos :: rest) ss D :=
  go_step (ps_if pt_sem pss_sem pss_sem) fun σ F H s => hc σ F H s _ fun F1 H1 s1 => by
    cases u with
    | true => exact iteT (h1 rfl σ F1 H1 s1)
    | false => exact iteF (h2 rfl σ F1 H1 s1)
theorem go_ifU {u : Bool} (i : Nat) (hc : TDS X B c ss u (ss.set i .un)) (h1 : u = true → Go X B body (ss.set i .un) { D with nx := tSS X rest D }) (h2 : u = false → Go X B orelse (ss.set i .un) { D with nx := tSS X rest D }) : Go X B (.If c body orelse pos :: rest) ss D := go_ifS hc h1 h2
/-- arguments, the last one a list of one's own -/
def PAL (X : Cx) (B : Bs) (es : List Expr) (ss : List SD) (ds : List PyData) (i : Nat) : Prop := ∀ (σ : St) (F H : Hp), Sat X.K B ss σ F H → ∀ Q : List V → Hp → Prop, (∀ us v F' H', Grow F H F' H' → σ[i]? = some (some v) → RpAll X.K B.C F' us ds → Q (us ++ [v]) H') → tSemA X es σ H Q
theorem pal_last (i : Nat) {x : Str} (hs : ss[i]? = some (.own ds')) (hN : X.N[i]? = some x := by rfl) (hv : Vis X.env.scope x := by first | exact Or.inl rfl | exact Or.inr (Or.inl rfl) | exact Or.inr (Or.inr rfl)) (hd : (x == ("__debug__" : Str)) = false := by decide)
    (hcd : (x == ("__classdict__" : Str)) = false := by decide) (hn : NSt X (.Name x p) := by intro _; rfl) : PAL X B [.Name x p] ss [] i := fun σ F H s Q q => by
  obtain ⟨a, vs, e, _⟩ := s.slot i _ hs
  exact semA_of (pa_cons (pe_var hN hv hd hcd) pa_nil (hn [])) ⟨_, e, q [] _ F H (Grow.refl s.fh) e .nil⟩
theorem pal_cons {i : Nat} (h : PD X B e ss d) (t : PAL X B es ss ds i) (hn : NSt X e := by intro _; rfl) : PAL X B (e :: es) ss (d :: ds) i := fun σ F H s Q q =>
  semA_of (pa_cons pe_sem pa_sem (hn es)) (h σ F H s _ fun v F1 H1 g1 r1 => t σ F1 H1 (s.grow g1) _ fun us w F2 H2 g2 ew r2 => q (v :: us) w F2 H2 (g1.trans g2) ew (.cons (r1.mono g2.ff) r2))
def spL (K : PySem.W.Frag) (C : Addr) (args ow : α → List PyData) (pre : α → Prop) (out : α → PyData) : Sp := fun vs H Q E =>
  ∃ (u : α) (F : Hp) (l : Addr) (ws us : List V), pre u ∧ vs = us ++ [.ref l] ∧ H l = some (.lst ws) ∧ F l = none ∧ Same F H ∧ RpAll K C F us (args u) ∧ RpAll K C F ws (ow u) ∧ ∀ v F' H', Grow F (hole H l) F' H' → Rp K C F' v (out u) → Q v H'
theorem pd_callL (i : Nat) (cf : Cal X.prog X.w X.K X.mg X.base fn k (spL X.K B.C args ow pre out)) (hr : Room k X.A) (u : α) (hs : ss[i]? = some (.own (ow u))) (ha : PAL X B (e :: es) ss (args u) i) (ho : out u = d) (hp : pre u) (nr : noRaw ss = true := by rfl) (hg : Gl X fn := by rfl)
    (hdb : (fn == ("__debug__" : Str)) = false := by decide) (he : starEach (e :: es) X.env = (false, eval e X.env) :: starEach es X.env := by rfl) (hpl : (backTo pos (starEach es X.env)).any (·.1) = false := by rfl) :
    PDS X B (.Call (.Name fn p) (e :: es) [] pos) ss d (ss.set i .un) := fun σ F H s Q q => by
  subst ho
  obtain ⟨f, fd, ps, F0, hm, hk, hb⟩ := cf
  refine sem_of (pe_call (dvs := []) (ds := []) F0 hr hg hm hk hb .nil passL pa_sem hdb he hpl) (ha σ F H s _ fun us v F1 H1 g ev r => ?_)
  have s1 := s.grow g
  obtain ⟨l, ws, el, l0, n, hl, rl⟩ := s1.slot i _ hs
  rw [ev] at el
  cases el
  refine ⟨u, F1, l, ws, us, hp, by rw [List.append_nil], hl, n, g.fh, r, rl, fun v' F2 H2 g2 r2 => q v' F2 H2 ((s1.hole hs ev nr).grow g2) r2⟩
end
section
variable {P : Program} {w : World} {K : PySem.W.Frag} {mg : Str → Option Value} {base : Heap}
theorem ok_fnL {x qual : Str} {st : Stmt} {f : Addr} {fd : FuncData} {N ps : List Str} {k : Nat} {C : Addr} {α : Type} {args ow : α → List PyData} {pre : α → Prop} {out : α → PyData} (F : L2.Fun K x qual st f fd) (S : FnScope N ps (defScope st)) (hl : ∀ a, (args a).length + 1 = ps.length)
    (body : ∀ (cdv : Value) (A : Around) (outer : List Env) (s : Shared) (H H1 F0 : Hp) (u : α) (Q : VK) (E : XK) (X : Cx) (hX : X = cxOf (L2.CX P w) P w K mg base N qual (defScope st) f cdv A outer s H E), Cxt X → Room k X.A → pre u → (∀ v F' H', Grow F0 H1 F' H' → Rp K C F' v (out u) → Q v H') →
      Go X ⟨C, F0, H1, F0⟩ (defBody st) ((args u).map SD.dat ++ [.own (ow u)] ++ List.replicate (N.length - ps.length) SD.un) (dE Q)) :
    FnOk P w K mg base (L2.CX P w) (k + 1) f fd ps (spL K C args ow pre out) := by
  have hNl : ps.length ≤ N.length := by have := congrArg List.length S.pre; rw [List.length_take] at this; omega
  refine F.okX S (fun vs H Q E h => ?_) (fun cdv A outer s H vs Q E hr h => ?_)
  · obtain ⟨u, F0, l, ws, us, _, rfl, _, _, _, r, _⟩ := h
    rw [List.length_append, r.length]; exact hl u
  · obtain ⟨u, F0, l, ws, us, hp, rfl, hH, hn, hf, r, rl, ho⟩ := h
    refine ⟨_, pss_sem, ?_⟩
    have cx : Cxt (cxOf (L2.CX P w) P w K mg base N qual (defScope st) f cdv A outer s H E) := ⟨rfl, S.nd, passes_of rfl, by have := hr.un; show (A.deeper _).units + 65 < cLine; omega⟩
    refine body cdv A outer s H (hole H l) F0 u Q E _ rfl cx hr hp ho _ F0 H ?_
    have ll := r.length
    have la := hl u
    have h1 : Same (hole H l) H := fun b o e => by
      by_cases hb : b = l
      · subst hb; rw [hole_at] at e; cases e
      · rw [hole_ne hb] at e; exact e
    refine ⟨⟨h1, Same.refl _, hf, fun _ _ _ z => z⟩, Same.refl _, ?_, fun i sd e => ?_, fun i j xs ys hij e1 e2 => ?_⟩
    · unfold L2.start
      simp only [List.length_append, List.length_map, List.length_replicate, List.length_singleton]
      omega
    · by_cases hi : i < (args u).length
      · rw [List.append_assoc, List.getElem?_append_left (by rw [List.length_map]; exact hi), List.getElem?_map, List.getElem?_eq_getElem hi] at e
        cases e
        obtain ⟨v, hv, rv⟩ := RpAll.get r (List.getElem?_eq_getElem hi)
        exact ⟨v, start_get (by rw [List.getElem?_append_left (by rw [ll]; exact hi)]; exact hv), rv⟩
      · by_cases h2 : i = (args u).length
        · subst h2
          rw [List.append_assoc, List.getElem?_append_right (by rw [List.length_map]; exact Nat.le_refl _), List.length_map, Nat.sub_self] at e
          cases e
          exact ⟨l, ws, start_get (by rw [← ll, List.getElem?_append_right (Nat.le_refl _), Nat.sub_self]; rfl), hole_at _ _, hn, hH, rl⟩
        · rw [List.getElem?_append_right (by rw [List.length_append, List.length_map, List.length_singleton]; omega), List.getElem?_replicate] at e
          split at e
          · cases e; trivial
          · cases e
    · have only : ∀ {i : Nat} {xs : List PyData}, ((args u).map SD.dat ++ [.own (ow u)] ++ List.replicate (N.length - ps.length) SD.un)[i]? = some (.own xs) → i = (args u).length := fun {i xs} e => by
        by_cases hi : i < (args u).length
        · rw [List.append_assoc, List.getElem?_append_left (by rw [List.length_map]; exact hi), List.getElem?_map, List.getElem?_eq_getElem hi] at e
          cases e
        · by_cases h2 : i = (args u).length
          · exact h2
          · rw [List.getElem?_append_right (by rw [List.length_append, List.length_map, List.length_singleton]; omega), List.getElem?_replicate] at e
            split at e
            · cases e
            · cases e
      exact (hij ((only e1).trans (only e2).symm)).elim
end
end G

namespace G
open PySem L2
/-! ### more of lists -/
theorem RpAll.bls {K : PySem.W.Frag} {C : Addr} {H : Hp} : ∀ {bs : List Bool} {vs : List V}, RpAll K C H vs (bs.map PyData.bool) → vs = bs.map V.bl
  | [], _, .nil => rfl
  | b :: r, _, .cons h t => by
    cases h
    rw [RpAll.bls t] <;> rfl
section
variable {X : Cx} {B : Bs} {ss ss' : List SD} {e a b c : Expr} {es : List Expr} {pos p p2 p3 p4 p5 p6 p7 : Pos} {d x y z : PyData} {ds ds' : List PyData} {rest body orelse : List Stmt} {st : Stmt} {D : Ends}
theorem pd_all {bs : List Bool} (hc : X.calm = true) (ha : PLi X B e ss (bs.map .bool)) (hm : X.mg "all" = none) (hv : bootBuiltins "all" = some (.builtin "all") := by decide +kernel) (hg : Gl X "all" := by rfl) (hn : NSt X e := by intro _; rfl) : PD X B (.Call (.Name "all" p) [e] [] pos) ss (.bool (bs.all id)) := fun σ F H s Q q =>
  sem_of (pe_callB (cr_all hc) hg hm hv (pa_cons pe_sem pa_nil (hn [])) (by decide) (by decide) (hn []) rfl) (ha σ F H s _ fun l vs F1 H1 g sq r => by
    have e := RpAll.bls r
    subst e
    exact ⟨l, bs, rfl, sq, q _ F1 H1 g (.bl _)⟩)
theorem eqV_int (i j : Int) : eqV (.int i) (.int j) = (i == j) := rfl
/-- x.index(e), numbers -/
theorem pd_index {ns : List Int} {k : Int} {j : Nat} (ha : PLi X B a ss (ns.map .int)) (hb : PD X B e ss (.int k)) (hj : ns[j]? = some k) (hno : ∀ m z, m < j → ns[m]? = some z → z ≠ k)
    (hpe : PE X (.Call (.Attribute a "index" p2) [e] [] p3) (tBM X.K "list" (rIndex X.K) (tSem X a) (tCons (tSem X e) tNil)) := by exact pe_bm PySem.F.plainAttrs_list PySem.F.slot_list_index PySem.F.type_list_index mt_index pe_sem (pa_cons pe_sem pa_nil)) : PD X B (.Call (.Attribute a "index" p2) [e] [] p3) ss (.int (j : Int)) := fun σ F H s Q q =>
  sem_of hpe (ha σ F H s _ fun l vs F1 H1 g1 sq r1 => ⟨.inl ⟨rfl, vs, sq⟩, hb σ F1 H1 (s.grow g1) _ fun w F2 H2 g2 r2 => by
    cases r2
    have e := RpAll.intsV r1
    subst e
    refine ⟨l, ns.map V.int, .int k, j, .int k, rfl, rfl, g2.hh.seq sq, rfl, ?_, by rw [List.getElem?_map, hj]; rfl, by rw [eqV_int]; exact beq_self_eq_true k, fun m z' hm hz => ?_, q _ F2 H2 (g1.trans g2) (.int _)⟩
    · rw [List.all_eq_true]
      intro v hv
      obtain ⟨n, _, rfl⟩ := List.mem_map.mp hv
      rfl
    · rw [List.getElem?_map] at hz
      cases hn : ns[m]? with
      | none => rw [hn] at hz; cases hz
      | some n =>
        rw [hn] at hz
        cases hz
        rw [eqV_int]
        exact beq_eq_false_iff_ne.mpr (hno m n hm hn)⟩)
/-- x.append(y.pop(e)) -/
theorem go_appPop (i j : Nat) {x y : Str} {k : Int} {m : Nat} (hij : i ≠ j) (hs0 : ss[i]? = some (.own ds)) (hs1 : ss[j]? = some (.own ds')) (hk : PD X B a ss (.int k)) (hm : ixN ds'.length k = some m) (hd : ds'[m]? = some d) (hz : ds.length < sizeLine) (hz' : ds'.length < 2 ^ 62)
    (h : Go X B rest ((ss.set j (.own (ds'.eraseIdx m))).set i (.own (ds ++ [d]))) D) (nr : noRaw ss = true := by rfl) (nr2 : noRaw (ss.set j (.own (ds'.eraseIdx m))) = true := by rfl)
    (hpe : PE X (.Call (.Attribute (.Name x p) "append" p2) [.Call (.Attribute (.Name y p4) "pop" p5) [a] [] p6] [] p3) (tBM X.K "list" rAppend (tVar i) (tCons (tBM X.K "list" rPopAt (tVar j) (tCons (tSem X a) tNil)) tNil)) := by
      exact pe_bm PySem.F.plainAttrs_list PySem.F.slot_list_append PySem.F.type_list_append mt_append (pe_var (by rfl) (by first | exact Or.inl rfl | exact Or.inr (Or.inl rfl) | exact Or.inr (Or.inr rfl)) (by decide) (by decide)) (pa_cons (pe_bm PySem.F.plainAttrs_list PySem.F.slot_list_pop PySem.F.type_list_pop mt_popAt (pe_var (by rfl) (by first | exact Or.inl rfl | exact Or.inr (Or.inl rfl) | exact Or.inr (Or.inr rfl)) (by decide) (by decide)) (pa_cons pe_sem pa_nil)) pa_nil))
    (hs : swapsWith (.Call (.Attribute (.Name x p) "append" p2) [.Call (.Attribute (.Name y p4) "pop" p5) [a] [] p6] [] p3) none p7.line X.env = pure false := by rfl) : Go X B (.Expr (.Call (.Attribute (.Name x p) "append" p2) [.Call (.Attribute (.Name y p4) "pop" p5) [a] [] p6] [] p3) p7 :: rest) ss D :=
  go_step (ps_expr hpe hs) fun σ F H s => by
    obtain ⟨q, vs, ea, a0, n, ha, r⟩ := s.slot i _ hs0
    refine ⟨_, ea, .inl ⟨rfl, vs, SqL.of ha⟩, ?_⟩
    obtain ⟨q', vs', ea', a0', n', ha', r'⟩ := s.slot j _ hs1
    refine ⟨_, ea', .inl ⟨rfl, vs', SqL.of ha'⟩, hk σ F H s _ fun w F1 H1 g r1 => ?_⟩
    cases r1
    obtain ⟨v, hv, rv⟩ := RpAll.get r' hd
    obtain ⟨q1, q2, q3, q4⟩ := ixN_seq hm
    have ll := r'.length
    have s1 := (s.grow g).mut hs1 ea' nr ((r'.mono g.ff).erase m)
    have hs0' : (ss.set j (.own (ds'.eraseIdx m)))[i]? = some (.own ds) := by rw [List.getElem?_set_ne (Ne.symm hij)]; exact hs0
    obtain ⟨q2', vs2, ea2, b0, n2, ha2, r2⟩ := s1.slot i _ hs0'
    rw [ea] at ea2
    cases ea2
    refine ⟨q', vs', k, m, v, rfl, rfl, g.hh _ _ ha', by omega, by omega, by rw [ll]; exact q1, hv, ?_⟩
    refine ⟨q, vs2, v, rfl, rfl, ha2, by rw [r2.length]; exact hz, ?_⟩
    exact h σ F1 _ (s1.mut hs0' ea nr2 (r2.app (.one (rv.mono g.ff))))
theorem RpAll.drl {K : PySem.W.Frag} {C : Addr} {H : Hp} {vs : List V} {ds : List PyData} (h : RpAll K C H vs ds) : RpAll K C H vs.dropLast ds.dropLast := by
  rw [List.dropLast_eq_take, List.dropLast_eq_take, h.length]
  exact h.take _
/-- x.pop() -/
theorem go_popL (i : Nat) {x : Str} (hs0 : ss[i]? = some (.own ds)) (hne : ds ≠ []) (h : Go X B rest (ss.set i (.own ds.dropLast)) D) (nr : noRaw ss = true := by rfl)
    (hpe : PE X (.Call (.Attribute (.Name x p) "pop" p2) [] [] p3) (tBM0 X.K "list" rPop (tVar i)) := by exact pe_bm0 PySem.F.plainAttrs_list PySem.F.slot_list_pop PySem.F.type_list_pop mt_pop (pe_var (by rfl) (by first | exact Or.inl rfl | exact Or.inr (Or.inl rfl) | exact Or.inr (Or.inr rfl)) (by decide) (by decide)))
    (hs : swapsWith (.Call (.Attribute (.Name x p) "pop" p2) [] [] p3) none p4.line X.env = pure false := by rfl) : Go X B (.Expr (.Call (.Attribute (.Name x p) "pop" p2) [] [] p3) p4 :: rest) ss D :=
  go_step (ps_expr hpe hs) fun σ F H s => by
    obtain ⟨q, vs, ea, a0, n, ha, r⟩ := s.slot i _ hs0
    have hl : 0 < vs.length := by
      rw [r.length]
      exact List.length_pos_iff.mpr hne
    refine ⟨_, ea, .inl ⟨rfl, vs, SqL.of ha⟩, ⟨q, vs, vs[vs.length - 1], rfl, rfl, ha, List.getElem?_eq_getElem (by omega), ?_⟩⟩
    exact h σ F _ (s.mut hs0 ea nr r.drl)
end
end G

namespace G
open PySem L2
/-! ### texts -/
abbrev sL (l : List Nat) : Str := ⟨l.toArray⟩
theorem RpAll.strs {K : PySem.W.Frag} {C : Addr} {H : Hp} : ∀ {ys : List Str} {vs : List V}, RpAll K C H vs (ys.map PyData.str) → vs = ys.map V.str
  | [], _, .nil => rfl
  | b :: r, _, .cons h t => by
    cases h
    rw [RpAll.strs t] <;> rfl
theorem strs_rp {K : PySem.W.Frag} {C : Addr} {H : Hp} : ∀ (ys : List Str), RpAll K C H (ys.map V.str) (ys.map PyData.str)
  | [] => .nil
  | y :: r => .cons (.str y) (strs_rp r)
theorem ob_eqS {K : PySem.W.Frag} {C : Addr} {i j : Str} : OpB K C rEq (.str i) (.str j) (decide (i = j)) := fun H v w r1 r2 Q q => by
  cases r1; cases r2
  refine ⟨rfl, ?_⟩
  have e : decide (V.str i = V.str j) = decide (i = j) := decide_eq_decide.mpr ⟨fun h => V.str.inj h, fun h => by rw [h]⟩
  rw [e]; exact q
theorem ob_neS {K : PySem.W.Frag} {C : Addr} {i j : Str} : OpB K C rNe (.str i) (.str j) (!decide (i = j)) := fun H v w r1 r2 Q q => by
  cases r1; cases r2
  refine ⟨rfl, ?_⟩
  have e : decide (V.str i = V.str j) = decide (i = j) := decide_eq_decide.mpr ⟨fun h => V.str.inj h, fun h => by rw [h]⟩
  rw [e]; exact q
theorem ob_inS {K : PySem.W.Frag} {C : Addr} {c : Nat} {z : Str} : OpB K C (fun x y H Q => ∃ (c : Nat) (z : Str), x = .str ⟨#[c]⟩ ∧ y = .str z ∧ Q (.bl (decide (c ∈ z.cps.toList))) H) (.str (sL [c])) (.str z) (decide (c ∈ z.cps.toList)) := fun H v w r1 r2 Q q => by
  cases r1; cases r2; exact ⟨c, z, rfl, rfl, q⟩
theorem ob_notInS {K : PySem.W.Frag} {C : Addr} {c : Nat} {z : Str} : OpB K C (fun x y H Q => ∃ (c : Nat) (z : Str), x = .str ⟨#[c]⟩ ∧ y = .str z ∧ Q (.bl (!decide (c ∈ z.cps.toList))) H) (.str (sL [c])) (.str z) (!decide (c ∈ z.cps.toList)) := fun H v w r1 r2 Q q => by
  cases r1; cases r2; exact ⟨c, z, rfl, rfl, q⟩
theorem str_app (a b : List Nat) : sL a ++ sL b = sL (a ++ b) := by
  show (⟨a.toArray ++ b.toArray⟩ : Str) = ⟨(a ++ b).toArray⟩
  rw [List.append_toArray]
theorem str_len (l : List Nat) : (sL l).length = l.length := by
  show l.toArray.size = l.length
  rw [List.size_toArray]
theorem digit_str {i : Int} (h0 : 0 ≤ i) (h1 : i ≤ 9) : (Str.ofString (toString i)) = sL [48 + i.toNat] := by
  have : i = 0 ∨ i = 1 ∨ i = 2 ∨ i = 3 ∨ i = 4 ∨ i = 5 ∨ i = 6 ∨ i = 7 ∨ i = 8 ∨ i = 9 := by omega
  rcases this with e | e | e | e | e | e | e | e | e | e <;> subst e <;> decide +kernel
theorem digit_int {c : Nat} (h0 : 48 ≤ c) (h1 : c ≤ 57) : PySem.intText? (sL [c]) = some ((c : Int) - 48) := by
  have : c = 48 ∨ c = 49 ∨ c = 50 ∨ c = 51 ∨ c = 52 ∨ c = 53 ∨ c = 54 ∨ c = 55 ∨ c = 56 ∨ c = 57 := by omega
  rcases this with e | e | e | e | e | e | e | e | e | e <;> subst e <;> decide +kernel
section
variable {X : Cx} {B : Bs} {ss ss' : List SD} {e a b c : Expr} {es : List Expr} {pos p p2 p3 p4 p5 p6 p7 : Pos} {d x y z : PyData} {ds ds' : List PyData} {rest body orelse : List Stmt} {st : Stmt} {D : Ends}
theorem pd_strI {i : Int} (h0 : 0 ≤ i) (h1 : i ≤ 9) (ha : PD X B e ss (.int i)) (hm : X.mg "str" = none) (hv : bootBuiltins "str" = some (.type "str") := by decide +kernel) (hg : Gl X "str" := by rfl) (hn : NSt X e := by intro _; rfl) : PD X B (.Call (.Name "str" p) [e] [] pos) ss (.str (sL [48 + i.toNat])) := fun σ F H s Q q =>
  sem_of (pe_callTy call_str_int hg hm hv (pa_cons pe_sem pa_nil (hn [])) (by decide) (by decide) (hn []) rfl) (ha σ F H s _ fun v F1 H1 g r => by
    cases r
    refine ⟨i, rfl, Nat.lt_of_le_of_lt (m := 4) ?_ (by decide), ?_⟩
    · have : i.natAbs < 2 ^ 4 := by omega
      by_cases z : i.natAbs = 0
      · rw [z]; decide
      · exact Nat.le_of_lt ((Nat.log2_lt z).mpr this)
    · show Q (.str (Str.ofString (toString i))) H1
      rw [digit_str h0 h1]
      exact q _ F1 H1 g (.str _))
theorem pd_intS {ch : Nat} (h0 : 48 ≤ ch) (h1 : ch ≤ 57) (ha : PD X B e ss (.str (sL [ch]))) (hm : X.mg "int" = none) (hv : bootBuiltins "int" = some (.type "int") := by decide +kernel) (hg : Gl X "int" := by rfl) (hn : NSt X e := by intro _; rfl) : PD X B (.Call (.Name "int" p) [e] [] pos) ss (.int ((ch : Int) - 48)) := fun σ F H s Q q =>
  sem_of (pe_callTy call_int_str hg hm hv (pa_cons pe_sem pa_nil (hn [])) (by decide) (by decide) (hn []) rfl) (ha σ F H s _ fun v F1 H1 g r => by
    cases r
    exact ⟨_, _, rfl, digit_int h0 h1, by rw [str_len]; exact Nat.le_of_ble_eq_true rfl, q _ F1 H1 g (.int _)⟩)
theorem pn_split {u v : Str} (ha : PD X B a ss (.str u)) (hb : PD X B b ss (.str v)) (h1 : (v.length == 0) = false) (h2 : u.length + 2 ≤ sizeLine) (hs : starEach [b] X.env = [(false, eval b X.env)] := by rfl) (hbase : attributeBase a "split" X.env (eval a X.env) = eval a X.env := by rfl) (hline : (p.endLine == pos.line) = true := by rfl) :
    PN X B (.Call (.Attribute a "split" p) [b] [] pos) ss ((Txt.split u v).map .str) := fun σ F H s Q q =>
  sem_of (pe_split pe_sem pe_sem hs hbase hline) (ha σ F H s _ fun v1 F1 H1 g1 r1 => ⟨(by cases r1; exact ⟨u, rfl⟩), hb σ F1 H1 (s.grow g1) _ fun v2 F2 H2 g2 r2 => by
    cases r1; cases r2
    have g := g1.trans g2
    exact ⟨u, v, rfl, rfl, h1, h2, fun t ht => q t _ F2 _ (g.trans (Grow.newO g.fh ht)) (g.hh.free ht) (g.fh.free ht) upd_same (strs_rp _)⟩⟩)
theorem pd_join {u : Str} {ys : List Str} (ha : PD X B a ss (.str u)) (hb : PLi X B b ss (ys.map .str)) (h1 : (ys.map (·.length)).sum + ys.length * u.length ≤ 16777216) (hs : starEach [b] X.env = [(false, eval b X.env)] := by rfl) (hbase : attributeBase a "join" X.env (eval a X.env) = eval a X.env := by rfl) (hline : (p.endLine == pos.line) = true := by rfl) :
    PD X B (.Call (.Attribute a "join" p) [b] [] pos) ss (.str (Txt.join u ys)) := fun σ F H s Q q =>
  sem_of (pe_join pe_sem pe_sem hs hbase hline) (ha σ F H s _ fun v1 F1 H1 g1 r1 => ⟨(by cases r1; exact ⟨u, rfl⟩), hb σ F1 H1 (s.grow g1) _ fun l vs F2 H2 g2 sq r2 => by
    cases r1
    have e := RpAll.strs r2
    subst e
    exact ⟨u, l, ys, rfl, rfl, .inl sq, h1, q _ F2 H2 (g1.trans g2) (.str _)⟩⟩)
/-- for sign in text -/
theorem go_forS {l : List Nat} (j : Nat) {x : Str} (J : Nat → List SD → Prop) (cx : Cxt X) (he : PD X B e ss (.str (sL l))) (h0 : J 0 ss)
    (hb : ∀ (i : Nat) (ch : Nat) (ss' : List SD), l[i]? = some ch → J i ss' → Go X B body (ss'.set j (.dat (.str (sL [ch])))) (lpE X B (J (i + 1)) rest D))
    (hd : ∀ ss', J l.length ss' → Go X B rest ss' D)
    (hps : ∀ wi, PI X (.Name x p) e wi → PS X (.For (.Name x p) e body [] pos) (tFor wi (gName j) (tSS X body)) := by intro _ hw; exact ps_for (Cxt.pass (by assumption)) (Cxt.calm (by assumption)) hw (pg_name (Cxt.nd (by assumption)) (by rfl) (by first | exact Or.inl rfl | exact Or.inr rfl)) pss_sem) :
    Go X B (.For (.Name x p) e body [] pos :: rest) ss D :=
  go_step (hps _ (pi_str pe_sem)) fun σ F H s => he σ F H s _ fun v F1 H1 g r => by
    cases r
    have hsz : (sL l).cps.size = l.length := List.size_toArray
    refine ⟨sL l, rfl, for_it (walk_str (z := sL l)) (fun i => Mid X B (J i)) ⟨F1, ss, h0, s.grow g⟩ (fun _ _ _ _ _ => trivial) (fun i w σ' H' H2 hi ⟨F', ss', j', s'⟩ ⟨e1, ch, hc, e2⟩ => ?_) (by rw [hsz]; exact fun σ' H' ⟨F', ss', j', s'⟩ => hd ss' j' σ' F' H' s')⟩
    subst e1 e2
    have hc' : l[i]? = some ch := by
      have : (sL l).cps[i]? = l[i]? := List.getElem?_toArray
      rw [← this]; exact hc
    exact hb i ch ss' hc' j' _ F' _ (s'.set_dat (.str _))
/-- [e for y in text] -/
theorem pl_lcS {l : List Nat} {g : Nat → PyData} (j : Nat) {y : Str} {scope : Scope} (cx : Cxt X) (he : PD X B a ss (.str (sL l)))
    (hel : ∀ (ch : Nat), ch ∈ l → ∀ (s : Shared) (H' : Hp) (C : Addr) (cl : List (Str × Addr)) (fp : List Addr), PD (Blk X scope s H' C cl fp) B e (ss.set j (.dat (.str (sL [ch])))) (g ch))
    (hz : l.length < sizeLine) (nr : noRaw ss = true := by rfl)
    (hok : BlkOk X.N X.env.scope scope [(y, j)] := by exact blkOk_by (by kernel_rfl))
    (hpg : X.N.Nodup → ∀ (s : Shared) (H' : Hp) (C : Addr) (cl : List (Str × Addr)) (fp : List Addr), PG (Blk X scope s H' C cl fp) (.Name y p) (gName j) := by intro hnd _ _ _ _ _; exact pg_name hnd (by rfl) (Or.inl rfl))
    (hs : ∀ x, foldedSetIterable a X.env x = pure x := by intro _; rfl) :
    PLc X B (.ListComp e [⟨.Name y p, a, [], 0⟩] scope pos) ss (l.map g) :=
  ⟨_, _, _, _, _, _, _, _, _, _, [(y, j)], rfl, pi_str pe_sem, hok, hpg cx.nd, fun _ _ _ _ _ => pts_nil, fun s H' C cl fp => (⟨fun pins s1 σ H Q I h => h s H' C cl fp pins s1 I⟩ : PE _ e (tBlk X scope e)), hs, fun σ F H s Q q => he σ F H s _ fun v F1 H1 g1 r1 => by
    cases r1
    have s1 := s.grow g1
    have hsz : (sL l).cps.size = l.length := List.size_toArray
    refine ⟨sL l, rfl, fun Dl hD => ?_⟩
    have ap : ∀ (i : Nat) (es : List PyData), ss[i]? = some (.own es) → σ[i]? ≠ some (some (.ref Dl)) := fun i es e1 e2 => by
      obtain ⟨a', ws, ea, _, _, h2, _⟩ := s1.slot i _ e1
      rw [e2] at ea
      injection ea with ea
      injection ea with ea
      injection ea with ea
      subst ea
      rw [hD] at h2; cases h2
    have hF1 : F1 Dl = none := g1.fh.free hD
    have hB0 : B.H0 Dl = none := s1.g.hh.free hD
    have hH : H Dl = none := g1.hh.free hD
    refine lc_it (walk_str (z := sL l)) (fun i H' => ∃ F' acc, Sat X.K B ss σ F' H' ∧ Grow F H F' H' ∧ F' Dl = none ∧ H' Dl = some (.lst acc) ∧ RpAll X.K B.C F' acc ((l.take i).map g))
      ⟨F1, [], s1.upd hB0 hF1 nr ap, g1.trans (Grow.newO g1.fh hD), hF1, upd_same, ?_⟩ (fun _ _ _ _ => trivial) ?_ ?_
    · rw [List.take_zero]; exact .nil
    · rintro i w H' H2 hi ⟨F', acc, s', g', n', h', r'⟩ ⟨e1, ch, hc, e2⟩
      subst e1 e2
      have hc' : l[i]? = some ch := by
        have : (sL l).cps[i]? = l[i]? := List.getElem?_toArray
        rw [← this]; exact hc
      have hil : i < l.length := (List.getElem?_eq_some_iff.mp hc').1
      have tk : l.take (i + 1) = l.take i ++ [ch] := by rw [List.take_add_one, hc']; rfl
      have al : acc.length ≤ i := by rw [r'.length, List.length_map, List.length_take]; omega
      have wset' : ∀ v, (wipe σ (List.map (fun x => x.2) [(y, j)])).set j v = σ.set j v := fun v => by
        show ((wipe σ []).set j none).set j v = _
        rw [List.set_set]; rfl
      unfold gName
      rw [wset']
      have wset2 : wipe (σ.set j (some (V.str ⟨#[ch]⟩))) [j] = wipe σ [j] := by
        show (σ.set j _).set j none = σ.set j none
        rw [List.set_set]
      refine ⟨wset2, ?_⟩
      simp only [tYes, ↓reduceIte]
      intro s5 H5 C5 cl5 fp5
      refine hel ch (List.mem_of_getElem? hc') s5 H5 C5 cl5 fp5 _ F' H2 (s'.set_dat (.str _)) _ fun z F4 H4 g4 r4 => ?_
      have n4 := g4.own _ _ h' n'
      refine ⟨acc, g4.hh _ _ h', Nat.lt_of_le_of_lt al (Nat.lt_trans hil hz), F4, acc ++ [z], (s'.grow g4).upd hB0 n4 nr ap (nx_lst (g4.hh _ _ h')), ?_, n4, upd_same, ?_⟩
      · exact ⟨fun b o e => by rw [upd_ne (ne_of_none e hH)]; exact (g'.trans g4).hh b o e, (g'.trans g4).ff, fun b o e => by rw [upd_ne (ne_of_none e n4)]; exact g4.fh b o e, (g'.trans g4).own⟩
      · rw [tk, List.map_append]
        exact (r'.mono g4.ff).app (.one r4)
    · rintro H' ⟨F', acc, s', g', n', h', r'⟩
      rw [hsz, List.take_length] at r'
      exact q Dl acc F' H' g' hH n' h' r'⟩
end
end G

namespace G
open PySem L2
def topS (i : Nat) : Stmt := PySem.Challenge.pw_cranefloor_k11_read.main.body.getD i (.Pass ⟨0, 0, 0, 0⟩)
abbrev s_crates_of : Stmt := topS 11
abbrev s_stack_of : Stmt := topS 14
abbrev s_read : Stmt := topS 15
abbrev s_law_cell_at : Stmt := topS 17
abbrev s_law_whole : Stmt := topS 18
abbrev s_law_kind : Stmt := topS 19
abbrev s_law_one : Stmt := topS 20
abbrev s_law_due : Stmt := topS 21
abbrev s_law_text : Stmt := topS 22
abbrev s_law : Stmt := topS 23
end G

namespace G
open PySem L2
theorem sc_crates_of : FnScope ["standing", "found", "stack"] ["standing"] (defScope s_crates_of) := ⟨rfl, rfl, rfl, by decide +kernel, rfl, by decide +kernel, by decide +kernel⟩
abbrev sp_crates_of (K : PySem.W.Frag) (C : Addr) : Sp := spO K C (fun S : List (List Int) => [dSt S]) (fun S => S.flatten.length ≤ 1000) (fun S => .new (dIs (isort S.flatten)))
theorem ok_crates_of {P : Program} {w : World} {K : PySem.W.Frag} {mg : Str → Option Value} {base : Heap} {C f : Addr} {fd : FuncData} (T : Bl mg) (F : L2.Fun K "crates_of" "crates_of" s_crates_of f fd) :
    FnOk P w K mg base (L2.CX P w) 1 f fd ["standing"] (sp_crates_of K C) := by
  refine ok_fn F sc_crates_of (fun _ => rfl) (fun cdv A outer s H F0 S Q E X hX cx hr tk hp ho => ?_)
  subst hX
  refine go_asgN 1 cx.nd (pn_lst pds_nil) ?_
  refine go_for 2 (fun i ss => ∃ z, ss = [.dat (dSt S), .own (dIs (S.take i).flatten), z]) cx (PD.itt (pd_var 0)) ⟨_, rfl⟩ ?_ ?_
  · rintro Fp i r _ hi ⟨z, rfl⟩
    refine go_extend 1 rfl (PN.da (pn_list (PIs.it (PD.itt (pd_var 2))) T.list)) (go_end ⟨.dat (dRow r), ?_⟩) ?_
    · simp [dIs, flatten_take hi]
    · rw [List.length_map, List.length_map, ← List.length_append, ← flatten_take hi]
      exact sz1000 (Nat.le_trans (flatten_take_le _ _) hp)
  · rintro _ ⟨z, rfl⟩
    rw [List.take_length]
    exact go_retN (pn_sorted (pl_own 1) T.sorted (hms := fun l h1 h2 => isort_is h1 h2)) ho
end G

namespace G
open PySem L2
def digs (r : List Int) : List Nat := r.map fun c => 48 + c.toNat
def undig (l : List Nat) : List Int := l.map fun (c : Nat) => (c : Int) - 48
abbrev isDig (c : Nat) : Prop := 48 ≤ c ∧ c ≤ 57
theorem figures : (Str.ofString "0123456789").cps.toList = [48, 49, 50, 51, 52, 53, 54, 55, 56, 57] := by decide +kernel
theorem fig_mem {c : Nat} : c ∈ (Str.ofString "0123456789").cps.toList ↔ isDig c := by
  rw [figures]
  unfold isDig
  constructor
  · intro h
    simp only [List.mem_cons, List.not_mem_nil, or_false] at h
    omega
  · intro h
    simp only [List.mem_cons, List.not_mem_nil, or_false]
    omega
theorem slash : (Str.ofString "/") = sL [47] := by decide +kernel
theorem empt : (Str.ofString "") = sL [] := by decide +kernel
theorem joinL_nil : ∀ ps : List (List Nat), TL.joinL [] ps = ps.flatten
  | [] => rfl
  | [p] => by simp [TL.joinL]
  | p :: q :: r => by
    show p ++ ([] ++ TL.joinL [] (q :: r)) = _
    rw [joinL_nil (q :: r), List.nil_append]; rfl
theorem digs_flat (r : List Int) : (r.map fun c => [48 + c.toNat]).flatten = digs r := by
  induction r with
  | nil => rfl
  | cons a r ih => simp [digs] at ih ⊢; exact ih
theorem undig_digs {r : List Int} (h : ∀ c ∈ r, 0 ≤ c) : undig (digs r) = r := by
  unfold undig digs
  rw [List.map_map]
  induction r with
  | nil => rfl
  | cons a r ih =>
    rw [List.map_cons, ih fun c hc => h c (List.mem_cons_of_mem _ hc)]
    have := h a List.mem_cons_self
    congr 1
    show ((48 + a.toNat : Nat) : Int) - 48 = a
    omega
theorem digs_dig {r : List Int} (h : ∀ c ∈ r, 0 ≤ c ∧ c ≤ 9) : ∀ c ∈ digs r, isDig c := fun c hc => by
  unfold digs at hc
  obtain ⟨x, hx, rfl⟩ := List.mem_map.mp hc
  have := h x hx
  unfold isDig
  omega
theorem sum_ones : ∀ r : List Int, (r.map fun _ => (1 : Nat)).sum = r.length
  | [] => rfl
  | a :: r => by rw [List.map_cons, List.sum_cons, sum_ones r, List.length_cons]; omega
theorem joinL_len : ∀ ps : List (List Nat), (TL.joinL [47] ps).length ≤ ps.flatten.length + ps.length
  | [] => by simp [TL.joinL]
  | [p] => by simp [TL.joinL]
  | p :: q :: r => by
    have ih := joinL_len (q :: r)
    show (p ++ ([47] ++ TL.joinL [47] (q :: r))).length ≤ _
    simp only [List.flatten_cons, List.length_append, List.length_cons, List.length_nil] at ih ⊢
    omega
section
variable {P : Program} {w : World} {K : PySem.W.Frag} {mg : Str → Option Value} {base : Heap}
theorem sc_stack_of : FnScope ["word", "sign"] ["word"] (defScope s_stack_of) := ⟨rfl, rfl, rfl, by decide +kernel, rfl, by decide +kernel, by decide +kernel⟩
abbrev sp_stack_of (K : PySem.W.Frag) (C cB : Addr) : Sp := spO K C (fun l : List Nat => [.str (sL l)]) (fun l => l.length ≤ 1000) (fun l => if l.all (fun c => decide (isDig c)) = true then .val (dRow (undig l)) else .exc cB)
theorem ok_stack_of {C cB f : Addr} {fd : FuncData} {tf : Nat} (T : Bl mg) (F : L2.Fun K "stack_of" "stack_of" s_stack_of f fd) (hF : mg "FIGURES" = some (Value.str (Str.ofString "0123456789") tf)) (TB : ExT K mg "BadText" cB) : FnOk P w K mg base (L2.CX P w) 1 f fd ["word"] (sp_stack_of K C cB) := by
  refine ok_fn F sc_stack_of (fun _ => rfl) (fun cdv A outer s H F0 l Q E X hX cx hr tk hp ho => ?_)
  subst hX
  refine go_forS (l := l) 1 (fun i ss => ss = [.dat (.str (sL l)), .un] ∧ ∀ k, k < i → ∀ c, l[k]? = some c → isDig c) cx (pd_var 0) ⟨rfl, fun k hk => by omega⟩ ?_ ?_
  · rintro i ch _ hi ⟨rfl, hk⟩
    refine go_if (k := !decide (ch ∈ (Str.ofString "0123456789").cps.toList)) (td_cmp op_notIn_sign (PD.bo (pd_var 1)) (PD.bo (pd_glob (v := .str (Str.ofString "0123456789")) hF ⟨tf, rfl⟩ (fun F => .str _))) ob_notInS rfl) (fun q => ?_) (fun q => go_on (go_end ⟨rfl, fun k hk' c hc => ?_⟩ (by repeat (first | exact Wk.nil | apply Wk.same | apply Wk.un))))
    · have hno : ¬ isDig ch := fun z => by
        rw [decide_eq_true (fig_mem.mpr z)] at q; cases q
      have : ¬ l.all (fun c => decide (isDig c)) = true := fun z => hno (of_decide_eq_true (List.all_eq_true.mp z ch (List.mem_of_getElem? hi)))
      rw [if_neg this] at ho
      exact go_raise cx.calm tk TB (fun σ F H' sa => ho H' sa.g.hh)
    · by_cases e : k = i
      · subst e
        rw [hi] at hc; cases hc
        exact fig_mem.mp (by simpa using q)
      · exact hk k (by omega) c hc
  · rintro _ ⟨rfl, hk⟩
    have all : ∀ c ∈ l, isDig c := fun c hc => by
      obtain ⟨k, hk', e⟩ := List.mem_iff_getElem.mp hc
      exact hk k hk' c (by rw [List.getElem?_eq_getElem hk', e])
    rw [if_pos (List.all_eq_true.mpr fun c hc => decide_eq_true (all c hc))] at ho
    refine go_ret (PD.eq (pd_tupleN (PLc.n (pl_lcS (l := l) (g := fun (ch : Nat) => PyData.int ((ch : Int) - 48)) 1 cx (pd_var 0) (fun ch hc s5 H5 C5 cl5 fp5 => pd_intS (all ch hc).1 (all ch hc).2 (pd_var 1) T.int) (szBig (by have : l.length ≤ 1000 := hp; omega))) cx) T.tuple) ?_) ho
    unfold undig dRow
    rw [List.map_map]; rfl
end
end G

namespace G
open PySem L2
theorem joinL_snoc (s p : List Nat) : ∀ ps : List (List Nat), TL.joinL s (ps ++ [p]) = (if ps = [] then [] else TL.joinL s ps ++ s) ++ p
  | [] => by simp [TL.joinL]
  | [q] => by
    rw [if_neg (by simp)]
    show q ++ (s ++ p) = _
    simp [TL.joinL]
  | q :: q2 :: r => by
    rw [if_neg (by simp)]
    have ih := joinL_snoc s p (q2 :: r)
    rw [if_neg (by simp)] at ih
    show q ++ (s ++ TL.joinL s (q2 :: r ++ [p])) = (q ++ (s ++ TL.joinL s (q2 :: r))) ++ s ++ p
    have e : TL.joinL s (q2 :: r ++ [p]) = TL.joinL s ((q2 :: r) ++ [p]) := rfl
    rw [e, ih]
    simp
/-- the words between the strokes: those that are done, and the last one -/
def splStep (u : List (List Nat) × List Nat) (c : Nat) : List (List Nat) × List Nat := if c = 47 then (u.1 ++ [u.2], []) else (u.1, u.2 ++ [c])
def splP (l : List Nat) : List (List Nat) × List Nat := l.foldl splStep ([], [])
def splL (l : List Nat) : List (List Nat) := (splP l).1 ++ [(splP l).2]
theorem splP_snoc (l : List Nat) (c : Nat) : splP (l ++ [c]) = splStep (splP l) c := by
  unfold splP
  rw [List.foldl_append]; rfl
theorem splL_nil : splL [] = [[]] := rfl
theorem splL_cut (l : List Nat) : splL (l ++ [47]) = splL l ++ [[]] := by
  unfold splL
  rw [splP_snoc]
  unfold splStep
  rw [if_pos rfl]
theorem splL_len (l : List Nat) : (splL l).length = (splP l).1.length + 1 := by
  unfold splL
  rw [List.length_append]; rfl
theorem splL_put {l : List Nat} {c : Nat} (h : c ≠ 47) : splL (l ++ [c]) = (splL l).set (splP l).1.length ((splP l).2 ++ [c]) := by
  unfold splL
  rw [splP_snoc]
  unfold splStep
  rw [if_neg h, List.set_append_right _ _ (Nat.le_refl _), Nat.sub_self]; rfl
theorem splL_last (l : List Nat) : (splL l).getD (splP l).1.length [] = (splP l).2 := by
  unfold splL
  rw [List.getD_eq_getElem?_getD, List.getElem?_append_right (Nat.le_refl _), Nat.sub_self]; rfl
theorem snoc_ind {P : List Nat → Prop} (h0 : P []) (h1 : ∀ l c, P l → P (l ++ [c])) (l : List Nat) : P l := by
  have key : ∀ n, ∀ l : List Nat, l.length = n → P l := by
    intro n
    induction n with
    | zero => intro l hl; rw [List.length_eq_zero_iff.mp hl]; exact h0
    | succ n ih =>
      intro l hl
      have hne : l ≠ [] := fun e => by rw [e] at hl; cases hl
      rw [← List.dropLast_concat_getLast hne]
      exact h1 _ _ (ih _ (by rw [List.length_dropLast, hl]; rfl))
  exact key _ l rfl
theorem splL_flat (l : List Nat) : (splL l).flatten = l.filter fun c => !decide (c = 47) := by
  refine snoc_ind (P := fun l => (splL l).flatten = l.filter fun c => !decide (c = 47)) rfl (fun l c ih => ?_) l
  rw [List.filter_append]
  by_cases h : c = 47
  · subst h
    rw [splL_cut, List.flatten_append, ih]; rfl
  · unfold splL at ih ⊢
    rw [splP_snoc]
    unfold splStep
    rw [if_neg h]
    rw [List.flatten_append] at ih ⊢
    have e : List.filter (fun c => !decide (c = 47)) [c] = [c] := by
      rw [List.filter_cons_of_pos (by rw [decide_eq_false h]; rfl)]; rfl
    rw [e, ← ih]
    simp
theorem splL_word (l : List Nat) : ∀ w ∈ splL l, 47 ∉ w := fun w hw hm => by
  have : 47 ∈ (splL l).flatten := List.mem_flatten.mpr ⟨w, hw, hm⟩
  rw [splL_flat] at this
  have := (List.mem_filter.mp this).2
  simp at this
theorem splL_join (l : List Nat) : TL.joinL [47] (splL l) = l := by
  refine snoc_ind (P := fun l => TL.joinL [47] (splL l) = l) rfl (fun l c ih => ?_) l
  by_cases h : c = 47
  · subst h
    rw [splL_cut, joinL_snoc, if_neg (by unfold splL; simp), ih, List.append_nil]
  · unfold splL at ih ⊢
    rw [splP_snoc]
    unfold splStep
    rw [if_neg h]
    rw [joinL_snoc] at ih ⊢
    rw [← List.append_assoc, ih]
theorem split_text (l : List Nat) : Txt.split (sL l) (sL [47]) = (splL l).map sL := by
  have e := SX.split_S (a := l) (b := [47]) (by simp) (by decide)
  refine e.trans ?_
  have q := TL.spl_join (s := 47) (S := []) (parts := splL l) (by unfold splL; simp) (splL_word l)
  rw [splL_join] at q
  rw [q]
theorem word_len {l w : List Nat} (h : w ∈ splL l) : w.length ≤ l.length := by
  have a : w.length ≤ (splL l).flatten.length := by
    obtain ⟨s, t, e⟩ := List.append_of_mem h
    rw [e, List.flatten_append, List.length_append, List.flatten_cons, List.length_append]
    omega
  rw [splL_flat] at a
  exact Nat.le_trans a (List.length_filter_le _ _)
theorem words_len (l : List Nat) : (splL l).length ≤ l.length + 1 := by
  refine snoc_ind (P := fun l => (splL l).length ≤ l.length + 1) (Nat.le_refl _) (fun l c ih => ?_) l
  rw [List.length_append]
  by_cases h : c = 47
  · subst h
    rw [splL_cut, List.length_append]
    simp only [List.length_cons, List.length_nil]
    omega
  · rw [splL_put h, List.length_set]
    omega
/-- all signs are figures and strokes -/
def figText (l : List Nat) : Prop := ∀ c ∈ l, isDig c ∨ c = 47
instance (l : List Nat) : Decidable (figText l) := by unfold figText; infer_instance
theorem fig_words (l : List Nat) : figText l ↔ ∀ w ∈ splL l, ∀ c ∈ w, isDig c := by
  constructor
  · intro h w hw c hc
    have : c ∈ (splL l).flatten := List.mem_flatten.mpr ⟨w, hw, hc⟩
    rw [splL_flat] at this
    obtain ⟨m, n⟩ := List.mem_filter.mp this
    rcases h c m with q | q
    · exact q
    · rw [decide_eq_true q] at n; cases n
  · intro h c hc
    by_cases e : c = 47
    · exact Or.inr e
    · have : c ∈ (splL l).flatten := by
        rw [splL_flat]
        exact List.mem_filter.mpr ⟨hc, by rw [decide_eq_false e]; rfl⟩
      obtain ⟨w, hw, hm⟩ := List.mem_flatten.mp this
      exact Or.inl (h w hw c hm)
def dueOf (l : List Nat) : Option (List (List Int)) := if figText l ∧ (l.filter fun c => !decide (c = 47)).Nodup ∧ 2 ≤ (splL l).length ∧ (splL l).length ≤ 4 then some ((splL l).map undig) else none
theorem undig_flat (ws : List (List Nat)) : (ws.map undig).flatten = undig ws.flatten := by
  unfold undig
  rw [List.map_flatten]
theorem nodup_inj {α β : Type} {f : α → β} (hf : ∀ a b, f a = f b → a = b) (l : List α) : (l.map f).Nodup ↔ l.Nodup := by
  unfold List.Nodup
  rw [List.pairwise_map]
  constructor
  · intro h; exact h.imp fun {a b} q e => q (congrArg f e)
  · intro h; exact h.imp fun {a b} q e => q (hf a b e)
theorem undig_nodup (l : List Nat) : (undig l).Nodup ↔ l.Nodup := nodup_inj (fun a b e => by omega) l
theorem signs_nodup (l : List Nat) : (l.map fun c => sL [c]).Nodup ↔ l.Nodup := nodup_inj (fun a b e => by
  have e2 : (sL [a]).cps.toList = (sL [b]).cps.toList := congrArg (fun z : Str => z.cps.toList) e
  simpa using e2) l
end G

namespace G
open PySem L2
/-! ### a list of lists of numbers, all of one's own -/
structure RowsAt (H0 : Hp) (S : List (List Int)) (a : Addr) (as : List Addr) (F H : Hp) : Prop where
  o0 : H0 a = none
  of_ : F a = none
  at_ : H a = some (.lst (as.map V.ref))
  len : as.length = S.length
  nd : as.Nodup
  row : ∀ (j : Nat) (l : Addr) (r : List Int), as[j]? = some l → S[j]? = some r → l ≠ a ∧ H0 l = none ∧ F l = none ∧ H l = some (.lst (r.map V.int))
theorem RowsAt.grow {H0 F H F' H' : Hp} {S : List (List Int)} {a : Addr} {as : List Addr} (h : RowsAt H0 S a as F H) (g : Grow F H F' H') : RowsAt H0 S a as F' H' :=
  ⟨h.o0, g.own a _ h.at_ h.of_, g.hh a _ h.at_, h.len, h.nd, fun j l r e1 e2 => by
    obtain ⟨q1, q2, q3, q4⟩ := h.row j l r e1 e2
    exact ⟨q1, q2, g.own l _ q4 q3, g.hh l _ q4⟩⟩
def rowsP (H0 : Hp) (S : List (List Int)) : V → Hp → Hp → Prop := fun v F H => ∃ a as, v = .ref a ∧ RowsAt H0 S a as F H
theorem RowsAt.get {H0 F H : Hp} {S : List (List Int)} {a : Addr} {as : List Addr} (h : RowsAt H0 S a as F H) {j : Nat} (hj : j < S.length) : ∃ l, as[j]? = some l ∧ l ≠ a ∧ H0 l = none ∧ F l = none ∧ H l = some (.lst ((S.getD j []).map V.int)) := by
  have hl : j < as.length := by rw [h.len]; exact hj
  refine ⟨as[j], List.getElem?_eq_getElem hl, ?_⟩
  exact h.row j as[j] (S.getD j []) (List.getElem?_eq_getElem hl) (by rw [List.getD_eq_getElem?_getD, List.getElem?_eq_getElem hj] <;> rfl)
/-- one row has changed -/
theorem RowsAt.put {H0 F H : Hp} {S : List (List Int)} {a l : Addr} {as : List Addr} {j : Nat} {r' : List Int} (h : RowsAt H0 S a as F H) (hj : as[j]? = some l) : RowsAt H0 (S.set j r') a as F (upd H l (.lst (r'.map V.int))) := by
  have hjl : j < as.length := (List.getElem?_eq_some_iff.mp hj).1
  have hjS : j < S.length := by rw [← h.len]; exact hjl
  obtain ⟨l', e', n1, _⟩ := h.get hjS
  rw [hj] at e'
  cases e'
  refine ⟨h.o0, h.of_, by rw [upd_ne (Ne.symm n1)]; exact h.at_, by rw [List.length_set]; exact h.len, h.nd, fun k m r e1 e2 => ?_⟩
  by_cases hk : j = k
  · subst hk
    rw [hj] at e1
    cases e1
    rw [List.getElem?_set_self hjS] at e2
    cases e2
    obtain ⟨_, q1, q2, q3, q4, q5⟩ := h.get hjS
    rw [hj] at q1
    cases q1
    exact ⟨q2, q3, q4, upd_same⟩
  · rw [List.getElem?_set_ne hk] at e2
    obtain ⟨q1, q2, q3, q4⟩ := h.row k m r e1 e2
    have ne : m ≠ l := fun e => by
      subst e
      have hkl : k < as.length := (List.getElem?_eq_some_iff.mp e1).1
      have pw := List.pairwise_iff_getElem.mp h.nd
      have v1 := (List.getElem?_eq_some_iff.mp hj).2
      have v2 := (List.getElem?_eq_some_iff.mp e1).2
      rcases Nat.lt_or_gt_of_ne hk with z | z
      · exact pw j k hjl hkl z (v1.trans v2.symm)
      · exact pw k j hkl hjl z (v2.trans v1.symm)
    exact ⟨q1, q2, q3, by rw [upd_ne ne]; exact q4⟩
section
variable {X : Cx} {B : Bs} {ss ss' : List SD} {e a b c : Expr} {es : List Expr} {pos p p2 p3 p4 p5 p6 p7 : Pos} {d x y z : PyData} {ds ds' : List PyData} {rest body orelse : List Stmt} {st : Stmt} {D : Ends} {S : List (List Int)}
/-- rows[k], read -/
theorem pli_row (i : Nat) {x : Str} {k : Int} {j : Nat} (hs : ss[i]? = some (.raw (rowsP B.H0 S))) (hb : PD X B b ss (.int k)) (hj : ixN S.length k = some j) (hN : X.N[i]? = some x := by rfl) (hv : Vis X.env.scope x := by first | exact Or.inl rfl | exact Or.inr (Or.inl rfl) | exact Or.inr (Or.inr rfl)) (hd : (x == ("__debug__" : Str)) = false := by decide)
    (hcd : (x == ("__classdict__" : Str)) = false := by decide) (hx : PlainIx b := by intro _ _; rfl) : PLi X B (.Subscript (.Name x p) b pos) ss (dIs (S.getD j [])) := fun σ F H s Q q => by
  obtain ⟨v, ev, hP⟩ := s.slot i _ hs
  refine sem_of (pe_ix ix_seq (pe_var hN hv hd hcd) pe_sem hx) ⟨v, ev, hb σ F H s _ fun w F1 H1 g r1 => ?_⟩
  cases r1
  obtain ⟨a, as, rfl, ra⟩ := hP F1 H1 g
  have hjS : j < S.length := (ixN_seq hj).2.1
  obtain ⟨l, e1, _, _, _, hl⟩ := ra.get hjS
  exact .inl ⟨a, as.map V.ref, k, .ref l, rfl, rfl, SqL.of ra.at_, by unfold atI; rw [List.length_map, ra.len, hj]; show (as.map V.ref)[j]? = _; rw [List.getElem?_map, e1]; rfl, q l _ F1 H1 g (SqL.of hl) (RpAll.ints _)⟩
/-- len(rows) -/
theorem pd_lenRows (i : Nat) {x : Str} (hs : ss[i]? = some (.raw (rowsP B.H0 S))) (hm : X.mg "len" = none) (hN : X.N[i]? = some x := by rfl) (hv : Vis X.env.scope x := by first | exact Or.inl rfl | exact Or.inr (Or.inl rfl) | exact Or.inr (Or.inr rfl)) (hd : (x == ("__debug__" : Str)) = false := by decide)
    (hcd : (x == ("__classdict__" : Str)) = false := by decide) (hg : Gl X "len" := by rfl) (hn : NSt X (.Name x p2) := by intro _; rfl) : PD X B (.Call (.Name "len" p) [.Name x p2] [] pos) ss (.int (S.length : Int)) := fun σ F H s Q q => by
  obtain ⟨v, ev, hP⟩ := s.slot i _ hs
  obtain ⟨a, as, rfl, ra⟩ := hP F H (Grow.refl s.fh)
  exact sem_of (pe_callB call_len_seq hg hm PySem.boot_len (pa_cons (pe_var hN hv hd hcd) pa_nil (hn [])) (by decide) (by decide) (hn []) rfl) ⟨_, ev, ⟨a, as.map V.ref, rfl, .inl (SqL.of ra.at_), q _ F H (Grow.refl s.fh) (by rw [List.length_map, ra.len]; exact .int _)⟩⟩
/-- where a row has changed -/
theorem Sat.rowPut {K : PySem.W.Frag} {σ : St} {F H : Hp} {i : Nat} {aa l : Addr} {as : List Addr} {j : Nat} {r' : List Int} (h : Sat K B ss σ F H) (hs : ss[i]? = some (.raw (rowsP B.H0 S))) (ev : σ[i]? = some (some (.ref aa))) (ra : RowsAt B.H0 S aa as F H) (hj : as[j]? = some l)
    (nr : noRaw (ss.set i .un) = true) (no : ∀ (k : Nat) (es : List PyData), (ss.set i .un)[k]? ≠ some (.own es)) : Sat K B (ss.set i (.raw (rowsP B.H0 (S.set j r')))) σ F (L2.upd H l (.lst (r'.map V.int))) := by
  have hi : i < ss.length := (List.getElem?_eq_some_iff.mp hs).1
  have hjS : j < S.length := by rw [← ra.len]; exact (List.getElem?_eq_some_iff.mp hj).1
  obtain ⟨l', e', n1, n2, n3, n4⟩ := ra.get hjS
  rw [hj] at e'
  cases e'
  have u := (h.unset i).upd (o := .lst (r'.map V.int)) n2 n3 nr (fun k es q => (no k es q).elim)
  have w := u.set_raw (i := i) (v := .ref aa) (P := rowsP B.H0 (S.set j r')) (fun F2 H2 g2 => ⟨aa, as, rfl, (ra.put hj).grow g2⟩)
  rw [List.set_set] at w
  have e3 : σ.set i (some (.ref aa)) = σ := by
    apply List.ext_getElem?
    intro k
    by_cases hk : i = k
    · subst hk; rw [List.getElem?_set_self (by rw [h.len]; exact hi), ev]
    · rw [List.getElem?_set_ne hk]
  rw [e3] at w
  exact w
/-- rows[k].insert(m, n) -/
theorem go_rowIns (i : Nat) {x : Str} {k m n : Int} {j : Nat} (hs : ss[i]? = some (.raw (rowsP B.H0 S))) (hb : PD X B b ss (.int k)) (hj : ixN S.length k = some j) (hm : PD X B a ss (.int m)) (hn : PD X B e ss (.int n)) (h0 : 0 ≤ m) (h1 : m < 2 ^ 60) (hz : (S.getD j []).length < sizeLine)
    (h : Go X B rest (ss.set i (.raw (rowsP B.H0 (S.set j ((S.getD j []).take m.toNat ++ [n] ++ (S.getD j []).drop m.toNat))))) D) (no : noOwn (ss.set i .un) = true := by rfl) (nr : noRaw (ss.set i .un) = true := by rfl)
    (hN : X.N[i]? = some x := by rfl) (hv : Vis X.env.scope x := by first | exact Or.inl rfl | exact Or.inr (Or.inl rfl) | exact Or.inr (Or.inr rfl)) (hd : (x == ("__debug__" : Str)) = false := by decide) (hcd : (x == ("__classdict__" : Str)) = false := by decide) (hx : PlainIx b := by intro _ _; rfl)
    (hpe : ∀ {t : TE}, PE X (.Subscript (.Name x p) b p2) t → PE X (.Call (.Attribute (.Subscript (.Name x p) b p2) "insert" p3) [a, e] [] p4) (tBM X.K "list" (fun x vs H Q => ∃ (l : Addr) (xs : List V) (i : Int) (y : V), x = .ref l ∧ vs = [.int i, y] ∧ H l = some (.lst xs) ∧ xs.length < sizeLine ∧ 0 ≤ i ∧ i < 2 ^ 63 ∧ Q .non (upd H l (.lst (xs.take i.toNat ++ [y] ++ xs.drop i.toNat)))) t (tCons (tSem X a) (tCons (tSem X e) tNil))) := by
      intro _ ht; exact pe_bm PySem.F.plainAttrs_list PySem.F.slot_list_insert PySem.F.type_list_insert mt_insert ht (pa_cons pe_sem (pa_cons pe_sem pa_nil)))
    (hsw : swapsWith (.Call (.Attribute (.Subscript (.Name x p) b p2) "insert" p3) [a, e] [] p4) none p5.line X.env = pure false := by rfl) :
    Go X B (.Expr (.Call (.Attribute (.Subscript (.Name x p) b p2) "insert" p3) [a, e] [] p4) p5 :: rest) ss D :=
  go_step (ps_expr (hpe (pe_ix ix_seq (pe_var hN hv hd hcd) pe_sem hx)) hsw) fun σ F H s => by
    obtain ⟨v, ev, hP⟩ := s.slot i _ hs
    refine ⟨v, ev, hb σ F H s _ fun w F1 H1 g1 r1 => ?_⟩
    cases r1
    obtain ⟨aa, as, rfl, ra⟩ := hP F1 H1 g1
    have hjS : j < S.length := (ixN_seq hj).2.1
    obtain ⟨l, e1, _, _, _, hl⟩ := ra.get hjS
    refine .inl ⟨aa, as.map V.ref, k, .ref l, rfl, rfl, SqL.of ra.at_, by unfold atI; rw [List.length_map, ra.len, hj]; show (as.map V.ref)[j]? = _; rw [List.getElem?_map, e1]; rfl, .inl ⟨rfl, _, SqL.of hl⟩, hm σ F1 H1 (s.grow g1) _ fun w2 F2 H2 g2 r2 => hn σ F2 H2 (s.grow (g1.trans g2)) _ fun w3 F3 H3 g3 r3 => ?_⟩
    cases r2; cases r3
    have ra3 := (ra.grow g2).grow g3
    have hl3 := g3.hh _ _ (g2.hh _ _ hl)
    refine ⟨l, (S.getD j []).map V.int, m, .int n, rfl, rfl, hl3, by rw [List.length_map]; exact hz, h0, by omega, ?_⟩
    have e4 : ((S.getD j []).map V.int).take m.toNat ++ [V.int n] ++ ((S.getD j []).map V.int).drop m.toNat = ((S.getD j []).take m.toNat ++ [n] ++ (S.getD j []).drop m.toNat).map V.int := by
      simp [List.map_take, List.map_drop]
    rw [e4]
    exact h σ F3 _ ((s.grow ((g1.trans g2).trans g3)).rowPut hs ev ra3 e1 nr (fun k es => noOwn_at no))
/-- rows[k].reverse() -/
theorem go_rowRev (i : Nat) {x : Str} {k : Int} {j : Nat} (hs : ss[i]? = some (.raw (rowsP B.H0 S))) (hb : PD X B b ss (.int k)) (hj : ixN S.length k = some j)
    (h : Go X B rest (ss.set i (.raw (rowsP B.H0 (S.set j (S.getD j []).reverse)))) D) (no : noOwn (ss.set i .un) = true := by rfl) (nr : noRaw (ss.set i .un) = true := by rfl)
    (hN : X.N[i]? = some x := by rfl) (hv : Vis X.env.scope x := by first | exact Or.inl rfl | exact Or.inr (Or.inl rfl) | exact Or.inr (Or.inr rfl)) (hd : (x == ("__debug__" : Str)) = false := by decide) (hcd : (x == ("__classdict__" : Str)) = false := by decide) (hx : PlainIx b := by intro _ _; rfl)
    (hpe : ∀ {t : TE}, PE X (.Subscript (.Name x p) b p2) t → PE X (.Call (.Attribute (.Subscript (.Name x p) b p2) "reverse" p3) [] [] p4) (tBM0 X.K "list" rReverse t) := by
      intro _ ht; exact pe_bm0 PySem.F.plainAttrs_list PySem.F.slot_list_reverse PySem.F.type_list_reverse mt_reverse ht)
    (hsw : swapsWith (.Call (.Attribute (.Subscript (.Name x p) b p2) "reverse" p3) [] [] p4) none p5.line X.env = pure false := by rfl) :
    Go X B (.Expr (.Call (.Attribute (.Subscript (.Name x p) b p2) "reverse" p3) [] [] p4) p5 :: rest) ss D :=
  go_step (ps_expr (hpe (pe_ix ix_seq (pe_var hN hv hd hcd) pe_sem hx)) hsw) fun σ F H s => by
    obtain ⟨v, ev, hP⟩ := s.slot i _ hs
    refine ⟨v, ev, hb σ F H s _ fun w F1 H1 g1 r1 => ?_⟩
    cases r1
    obtain ⟨aa, as, rfl, ra⟩ := hP F1 H1 g1
    have hjS : j < S.length := (ixN_seq hj).2.1
    obtain ⟨l, e1, _, _, _, hl⟩ := ra.get hjS
    refine .inl ⟨aa, as.map V.ref, k, .ref l, rfl, rfl, SqL.of ra.at_, by unfold atI; rw [List.length_map, ra.len, hj]; show (as.map V.ref)[j]? = _; rw [List.getElem?_map, e1]; rfl, .inl ⟨rfl, _, SqL.of hl⟩, ⟨l, _, rfl, rfl, hl, ?_⟩⟩
    rw [← List.map_reverse]
    exact h σ F1 _ ((s.grow g1).rowPut hs ev ra e1 nr (fun k es => noOwn_at no))
/-- rows[k][m] = n -/
theorem go_rowSet (i : Nat) {x : Str} {k m n : Int} {j q : Nat} (hs : ss[i]? = some (.raw (rowsP B.H0 S))) (he : PD X B e ss (.int n)) (hb : PD X B b ss (.int k)) (hj : ixN S.length k = some j) (hm : PD X B a ss (.int m)) (hq : ixN (S.getD j []).length m = some q)
    (h : Go X B rest (ss.set i (.raw (rowsP B.H0 (S.set j ((S.getD j []).set q n))))) D) (no : noOwn (ss.set i .un) = true := by rfl) (nr : noRaw (ss.set i .un) = true := by rfl)
    (hN : X.N[i]? = some x := by rfl) (hv : Vis X.env.scope x := by first | exact Or.inl rfl | exact Or.inr (Or.inl rfl) | exact Or.inr (Or.inr rfl)) (hd : (x == ("__debug__" : Str)) = false := by decide) (hcd : (x == ("__classdict__" : Str)) = false := by decide) (hx : PlainIx b := by intro _ _; rfl)
    (hps : ∀ {t : TE}, PE X (.Subscript (.Name x p) b p2) t → PS X (.Assign [.Subscript (.Subscript (.Name x p) b p2) a p3] e pos) (tAsg (tSem X e) (gSub t (tSem X a) rSetL)) := by intro _ ht; exact ps_asg pe_sem (pg_sub ht pe_sem set_list)) :
    Go X B (.Assign [.Subscript (.Subscript (.Name x p) b p2) a p3] e pos :: rest) ss D :=
  go_step (hps (pe_ix ix_seq (pe_var hN hv hd hcd) pe_sem hx)) fun σ F H s => he σ F H s _ fun u F0 H0' g0 r0 => by
    cases r0
    have s0 := s.grow g0
    obtain ⟨v, ev, hP⟩ := s0.slot i _ hs
    refine ⟨v, ev, hb σ F0 H0' s0 _ fun w F1 H1 g1 r1 => ?_⟩
    cases r1
    obtain ⟨aa, as, rfl, ra⟩ := hP F1 H1 g1
    have hjS : j < S.length := (ixN_seq hj).2.1
    obtain ⟨l, e1, _, _, _, hl⟩ := ra.get hjS
    refine .inl ⟨aa, as.map V.ref, k, .ref l, rfl, rfl, SqL.of ra.at_, by unfold atI; rw [List.length_map, ra.len, hj]; show (as.map V.ref)[j]? = _; rw [List.getElem?_map, e1]; rfl, hm σ F1 H1 (s0.grow g1) _ fun w2 F2 H2 g2 r2 => ?_⟩
    cases r2
    have ra2 := ra.grow g2
    refine ⟨l, _, m, q, rfl, rfl, g2.hh _ _ hl, by rw [List.length_map]; exact hq, ?_⟩
    rw [← List.map_set]
    exact h σ F2 _ ((s0.grow (g1.trans g2)).rowPut hs ev ra2 e1 nr (fun k es => noOwn_at no))
/-- the rows are known for good from now on -/
theorem go_rowsFreeze {l : List Stmt} (i : Nat) (hs : ss[i]? = some (.raw (rowsP B.H0 S))) (h : Go X B l (ss.set i (.own (S.map (dSq false)))) D) (no : noOwn (ss.set i .un) = true := by rfl) (nr : noRaw (ss.set i .un) = true := by rfl) : Go X B l ss D := fun σ F H s => by
  obtain ⟨v, ev, hP⟩ := s.slot i _ hs
  obtain ⟨aa, as, rfl, ra⟩ := hP F H (Grow.refl s.fh)
  have hi : i < ss.length := (List.getElem?_eq_some_iff.mp hs).1
  let F' : Hp := fun b => if b ∈ as then H b else F b
  have inas : ∀ b ∈ as, B.H0 b = none ∧ F b = none ∧ b ≠ aa := fun b hb => by
    obtain ⟨j, hj, e⟩ := List.mem_iff_getElem.mp hb
    have e' : as[j]? = some b := by rw [List.getElem?_eq_getElem hj, e]
    obtain ⟨l', q1, q2, q3, q4, _⟩ := ra.get (j := j) (by rw [← ra.len]; exact hj)
    rw [e'] at q1
    cases q1
    exact ⟨q3, q4, q2⟩
  have sm : Same F F' := fun b o q => by
    show (if b ∈ as then H b else F b) = some o
    rw [if_neg (fun z => by rw [(inas b z).2.1] at q; cases q)]
    exact q
  have fh : Same F' H := fun b o q => by
    have q' : (if b ∈ as then H b else F b) = some o := q
    by_cases hb : b ∈ as
    · rw [if_pos hb] at q'; exact q'
    · rw [if_neg hb] at q'; exact s.fh b o q'
  have u := s.unset i
  have rp : RpAll X.K B.C F' (as.map V.ref) (S.map (dSq false)) := by
    have key : ∀ (S' : List (List Int)) (as' : List Addr), as'.length = S'.length → (∀ (j : Nat) (l : Addr) (r : List Int), as'[j]? = some l → S'[j]? = some r → F' l = some (.lst (r.map V.int))) → RpAll X.K B.C F' (as'.map V.ref) (S'.map (dSq false)) := by
      intro S'
      induction S' with
      | nil => intro as' hl _; cases as' with
        | nil => exact .nil
        | cons _ _ => cases hl
      | cons r S' ih => intro as' hl hq; cases as' with
        | nil => cases hl
        | cons l as' =>
          refine .cons (.lst (hq 0 l r rfl rfl) (RpAll.ints r)) (ih as' (Nat.succ.inj hl) fun j l' r' e1 e2 => hq (j + 1) l' r' (by simpa using e1) (by simpa using e2))
    refine key S as ra.len fun j l r e1 e2 => ?_
    show (if l ∈ as then H l else F l) = _
    rw [if_pos (List.mem_of_getElem? e1)]
    exact (ra.row j l r e1 e2).2.2.2
  have fa : F' aa = none := by
    show (if aa ∈ as then H aa else F aa) = none
    rw [if_neg (fun z => (inas aa z).2.2 rfl)]; exact ra.of_
  have g' : Grow B.F0 B.H0 F' H := ⟨s.g.hh, s.g.ff.trans sm, fh, fun b o e1 e2 => by
    show (if b ∈ as then H b else F b) = none
    rw [if_neg (fun z => by rw [(inas b z).1] at e1; cases e1)]
    exact s.g.own b o e1 e2⟩
  have u' : Sat X.K B (ss.set i .un) σ F' H := by
    refine ⟨g', s.pin.trans sm, u.len, fun j sd q => ?_, u.ne⟩
    have z := u.slot j sd q
    cases sd with
    | un => trivial
    | dat d => obtain ⟨v, e1, r⟩ := z; exact ⟨v, e1, r.mono sm⟩
    | bor d => exact z
    | val v => exact z
    | fro P => obtain ⟨v, e1, r⟩ := z; exact ⟨v, e1, fun F2 g2 => r F2 (sm.trans g2)⟩
    | dic w kvs =>
      obtain ⟨b, e1, b0, nb, hb⟩ := z
      refine ⟨b, e1, b0, ?_, hb.mono sm (.inl rfl)⟩
      show (if b ∈ as then H b else F b) = none
      rw [if_neg (fun y => by obtain ⟨j, hj, ej⟩ := List.mem_iff_getElem.mp y; have q5 := (ra.row j b _ (by rw [List.getElem?_eq_getElem hj, ej]) (List.getElem?_eq_getElem (by rw [← ra.len]; exact hj))).2.2.2; exact hb.ne (nx_lst q5) rfl)]
      exact nb
    | own es => exact (noOwn_at no q).elim
    | raw P => exact (noRaw_at nr q).elim
  have w := u'.set_own (i := i) ra.o0 fa ra.at_ rp (fun j es _ q => (noOwn_at no q).elim)
  rw [List.set_set] at w
  have e3 : σ.set i (some (.ref aa)) = σ := by
    apply List.ext_getElem?
    intro k
    by_cases hk : i = k
    · subst hk; rw [List.getElem?_set_self (by rw [s.len]; exact hi), ev]
    · rw [List.getElem?_set_ne hk]
  rw [e3] at w
  exact h σ F' H w
/-- one more row -/
theorem RowsAt.more {H0 F H F' H' : Hp} {S : List (List Int)} {a l : Addr} {as : List Addr} {r : List Int} (h : RowsAt H0 S a as F H) (g : Grow F H F' H') (n0 : H0 l = none) (nH : H l = none) (nF : F' l = none) (hl : H' l = some (.lst (r.map V.int))) : RowsAt H0 (S ++ [r]) a (as ++ [l]) F' (upd H' a (.lst (as.map V.ref ++ [V.ref l]))) := by
  have la : l ≠ a := fun e => by subst e; rw [h.at_] at nH; cases nH
  have h' := h.grow g
  have nm : l ∉ as := fun hm => by
    obtain ⟨j, hj, e⟩ := List.mem_iff_getElem.mp hm
    have e' : as[j]? = some l := by rw [List.getElem?_eq_getElem hj, e]
    obtain ⟨l', q1, _, _, _, q5⟩ := h.get (j := j) (by rw [← h.len]; exact hj)
    rw [e'] at q1
    cases q1
    rw [nH] at q5; cases q5
  refine ⟨h.o0, h'.of_, by rw [upd_same, List.map_append]; rfl, by rw [List.length_append, List.length_append, h.len]; rfl, List.nodup_append.mpr ⟨h.nd, List.nodup_cons.mpr ⟨by simp, List.nodup_nil⟩, fun x hx y hy => ?_⟩, fun j m q e1 e2 => ?_⟩
  · rw [List.mem_singleton] at hy
    subst hy
    exact fun e => nm (e ▸ hx)
  · by_cases hj : j < as.length
    · rw [List.getElem?_append_left hj] at e1
      rw [List.getElem?_append_left (by rw [← h.len]; exact hj)] at e2
      obtain ⟨q1, q2, q3, q4⟩ := h'.row j m q e1 e2
      exact ⟨q1, q2, q3, by rw [upd_ne q1]; exact q4⟩
    · have hj2 : j = as.length := by
        have := (List.getElem?_eq_some_iff.mp e1).1
        rw [List.length_append] at this
        simp at this
        omega
      subst hj2
      rw [List.getElem?_append_right (Nat.le_refl _), Nat.sub_self] at e1
      rw [List.getElem?_append_right (by rw [h.len]; exact Nat.le_refl _), h.len, Nat.sub_self] at e2
      cases Option.some.inj e1
      cases Option.some.inj e2
      exact ⟨la, n0, nF, by rw [upd_ne la]; exact hl⟩
/-- rows = [e for y in a], each e a new list of numbers -/
theorem go_asgRows {β : Type} {xs : List β} {f : β → PyData} {g : β → List Int} (i j : Nat) {x y : Str} {scope : Scope} (cx : Cxt X) (he : PIs X B a ss (xs.map f))
    (hel : ∀ (Fp : Hp) (u : β), u ∈ xs → ∀ (s : Shared) (H' : Hp) (C : Addr) (cl : List (Str × Addr)) (fp : List Addr), PN (Blk X scope s H' C cl fp) (B.pinned Fp) e (ss.set j (.dat (f u))) (dIs (g u)))
    (hz : xs.length < sizeLine) (k : Go X B rest (ss.set i (.raw (rowsP B.H0 (xs.map g)))) D) (nr : noRaw ss = true := by rfl)
    (hok : BlkOk X.N X.env.scope scope [(y, j)] := by exact blkOk_by (by kernel_rfl))
    (hpg : X.N.Nodup → ∀ (s : Shared) (H' : Hp) (C : Addr) (cl : List (Str × Addr)) (fp : List Addr), PG (Blk X scope s H' C cl fp) (.Name y p) (gName j) := by intro hnd _ _ _ _ _; exact pg_name hnd (by rfl) (Or.inl rfl))
    (hs : ∀ x, foldedSetIterable a X.env x = pure x := by intro _; rfl)
    (hi : X.N[i]? = some x := by rfl) (hyl : X.env.scope.names.lookup x = some .local := by rfl)
    (hsw : swapsWith (.ListComp e [⟨.Name y p, a, [], 0⟩] scope p2) (some (.Name x p3)) pos.line X.env = pure true := by exact sw_true rfl rfl rfl rfl) : Go X B (.Assign [.Name x p3] (.ListComp e [⟨.Name y p, a, [], 0⟩] scope p2) pos :: rest) ss D :=
  go_step (ps_setLc (te := tBlk X scope e) (own := [(y, j)]) cx.calm cx.nd hi hyl hsw (pi_seq pe_sem) hok (hpg cx.nd) (fun _ _ _ _ _ => pts_nil) (fun s H' C cl fp => ⟨fun pins s1 σ H Q I h => h s H' C cl fp pins s1 I⟩) hs) fun σ F H s => he σ F H s _ fun l vs F1 H1 g1 sq r => by
    have s1 := s.grow g1
    have ll : vs.length = xs.length := by rw [r.length, List.length_map]
    have pn : Same B.Fp F1 := s.pin.trans g1.ff
    have main : ∀ Dl, H1 Dl = none → ∃ Pv : Nat → Hp → Prop, Pv 0 (upd H1 Dl (.lst [])) ∧ (∀ i H', Pv i H' → ∃ F', Same F1 F' ∧ Same F' H') ∧
        (∀ i x H', vs[i]? = some x → Pv i H' → gName j x (wipe σ [j]) H' fun σ2 H2 => wipe σ2 [j] = wipe σ [j] ∧ tYes σ2 H2 fun b H3 =>
          if b = true then tBlk X scope e σ2 H3 fun z H4 => ∃ acc, H4 Dl = some (.lst acc) ∧ acc.length < sizeLine ∧ Pv (i + 1) (upd H4 Dl (.lst (acc ++ [z]))) else Pv (i + 1) H3) ∧
        (∀ H', Pv vs.length H' → gName i (.ref Dl) σ H' (tSS X rest D)) := by
      intro Dl hD
      have ap : ∀ (i : Nat) (es : List PyData), ss[i]? = some (.own es) → σ[i]? ≠ some (some (.ref Dl)) := fun i es e1 e2 => by
        obtain ⟨a', ws, ea, _, _, h2, _⟩ := s1.slot i _ e1
        rw [e2] at ea
        injection ea with ea
        injection ea with ea
        injection ea with ea
        subst ea
        rw [hD] at h2; cases h2
      have hF1 : F1 Dl = none := g1.fh.free hD
      have hB0 : B.H0 Dl = none := s1.g.hh.free hD
      refine ⟨fun n H' => ∃ F' as, Sat X.K (B.pinned F1) ss σ F' H' ∧ RowsAt B.H0 ((xs.take n).map g) Dl as F' H', ⟨F1, [], s1.pinned.upd hB0 hF1 nr ap, ?_⟩, ?_, ?_, ?_⟩
      · rw [List.take_zero]
        exact ⟨hB0, hF1, upd_same, rfl, List.nodup_nil, fun j l r e1 => by simp at e1⟩
      · rintro n H' ⟨F', as, s', _⟩
        exact ⟨F', s'.pin, s'.fh⟩
      · rintro n w H' hi' ⟨F', as, s', ra⟩
        obtain ⟨d, hd, rd⟩ := RpAll.getV r hi'
        rw [List.getElem?_map] at hd
        cases hu : xs[n]? with
        | none => rw [hu] at hd; cases hd
        | some u =>
          rw [hu] at hd
          cases hd
          have hil : n < xs.length := (List.getElem?_eq_some_iff.mp hu).1
          have tk : xs.take (n + 1) = xs.take n ++ [u] := by
            rw [List.take_add_one, hu]; rfl
          have wset : (wipe σ [j]).set j (some w) = σ.set j (some w) := by
            show ((wipe σ []).set j none).set j (some w) = _
            rw [List.set_set]; rfl
          have wset2 : wipe (σ.set j (some w)) [j] = wipe σ [j] := by
            show (σ.set j (some w)).set j none = σ.set j none
            rw [List.set_set]
          show wipe ((wipe σ [j]).set j (some w)) [j] = wipe σ [j] ∧ tYes ((wipe σ [j]).set j (some w)) H' _
          rw [wset]
          refine ⟨wset2, ?_⟩
          simp only [tYes, ↓reduceIte]
          have s2 : Sat X.K (B.pinned F1) (ss.set j (.dat (f u))) (σ.set j (some w)) F' H' := s'.set_dat (rd.mono s'.pin)
          intro s5 H5 C5 cl5 fp5
          refine hel F1 u (List.mem_of_getElem? hu) s5 H5 C5 cl5 fp5 _ F' H' s2 _ fun la lv F4 H4 g4 nH nF h4 r4 => ?_
          have ei := RpAll.intsV r4
          subst ei
          have ra4 := ra.grow g4
          refine ⟨as.map V.ref, ra4.at_, ?_, F4, as ++ [la], (s'.grow g4).upd hB0 ra4.of_ nr ap (nx_lst ra4.at_), ?_⟩
          · rw [List.length_map, ra.len, List.length_map, List.length_take]
            omega
          · rw [tk, List.map_append]
            exact ra.more g4 (s'.g.hh.free nH) nH nF h4
      · rintro H' ⟨F', as, s', ra⟩
        rw [ll, List.take_length] at ra
        exact k _ F' H' ((s'.unpin pn).set_raw fun F2 H2 g2 => ⟨Dl, as, rfl, ra.grow g2⟩)
    refine ⟨l, rfl, ?_⟩
    rcases sq with sq | sq
    · refine .inl ⟨vs, g1.fh.seq sq, fun Dl hD => ?_⟩
      obtain ⟨Pv, p0, pl, ps, pe⟩ := main Dl hD
      exact lc_list (K := X.K) (a := l) (xs := vs) Pv p0 (fun i H' _ pv => let ⟨F', a1, a2⟩ := pl i H' pv; a2.seq (a1.seq sq)) ps pe
    · refine .inr ⟨vs, Same.sqt g1.fh sq, fun Dl hD => ?_⟩
      obtain ⟨Pv, p0, pl, ps, pe⟩ := main Dl hD
      exact lc_tup (K := X.K) (a := l) (xs := vs) Pv p0 (fun i H' _ pv => let ⟨F', a1, a2⟩ := pl i H' pv; Same.sqt a2 (Same.sqt a1 sq)) ps pe
end
end G

namespace G
open PySem PySem.Spec PyProof.Rows L2
/-! ### set(xs), whatever the items: J i tells what the set has behind i of them -/
section
variable {P : Program} {w : World} {A : Around} {E : Value → Shared → Prop} {s : Shared}
abbrev Kept (h0 h : Heap) : Prop := ∀ b o, h0.get? b = some o → h.get? b = some o
/-- one item put in -/
abbrev AddStep (P : Program) (w : World) (A : Around) (E : Value → Shared → Prop) (S : Addr) (h0 : Heap) (Pv : Nat → Value → Prop) (J : Nat → Heap → Prop) : Prop :=
  ∀ (i : Nat) (v : Value) (s : Shared) (Q : Bool → Shared → Prop), Pv i v → Kept h0 s.heap → J i s.heap → (∀ b h' tk, s.toks ≤ tk → Heap.SameBut S s.heap h' → J (i + 1) h' → Q b { s with heap := h', toks := tk }) → wpAny (model P w) A (setAdd S v) Q E s
theorem setLoop {I : Addr} {fp wr : List Addr} {G : Array GenState → Array GenState → Prop} {n : Nat} {Pv : Nat → Value → Prop} {St : Nat → Shared → Prop} {R : Result → Shared → Prop} (Wk : WalksS P w A.in1 I fp wr G n Pv St) (S : Addr) (nS : S ∉ fp) (J : Nat → Heap → Prop) (h0 : Heap) (free : h0.get? S = none)
    (fw : ∀ b ∈ wr, h0.get? b = none) (kp : ∀ i h h', (∀ o, h.get? S = some o → h'.get? S = some o) → Kept h0 h' → J i h → J i h') (add : AddStep P w A.in1 (fun e s' => R (.error e) s') S h0 Pv J) :
    ∀ (k i : Nat) (s : Shared), n - i = k → i ≤ n → St i s → Kept h0 s.heap → J i s.heap → (∀ s', Moved (S :: wr) G s s' → J n s'.heap → Kept h0 s'.heap → R (.ok (.ret .none)) s') → codeAny (model P w) A (.builtin "set.update.loop" ⟨[.ref S, .ref I], []⟩) R s := by
  have nw : S ∉ wr := fun z => nS (Wk.sub _ z)
  have more : ∀ b ∈ wr, b ∈ S :: wr := fun b z => List.mem_cons_of_mem _ z
  have still : ∀ {s1 s2 : Shared}, Moved wr G s1 s2 → Kept h0 s1.heap → Kept h0 s2.heap := fun mv q b o e => mv.heap b o (fun z => by rw [fw b z] at e; cases e) (q b o e)
  intro k
  induction k with
  | zero =>
    intro i s hk hi st q j done
    obtain rfl : i = n := by omega
    refine codeAny_builtin F.entry_set_update_loop ?_
    rw [Around.under_plainId F.plain_set_update_loop _]
    show wpAny _ A.in1 (pyNext (.ref I) >>= _) _ _ s
    exact wpAny_bind (Wk.done s _ _ st fun s2 mv => wpAny_pure (done s2 (mv.mono more) (kp _ _ _ (fun o e => mv.heap S o nw e) (still mv q) j) (still mv q)))
  | succ k ih =>
    intro i s hk hi st q j done
    have lt : i < n := by omega
    refine codeAny_builtin F.entry_set_update_loop ?_
    rw [Around.under_plainId F.plain_set_update_loop _]
    show wpAny _ A.in1 (pyNext (.ref I) >>= _) _ _ s
    refine wpAny_bind (Wk.item i s _ _ lt st fun v s2 pv st2 mv => ?_)
    have q2 := still mv q
    have j2 := kp _ _ _ (fun o e => mv.heap S o nw e) q2 j
    show wpAny _ A.in1 (holding [v] (setAdd S v) >>= _) _ _ s2
    refine wpAny_bind (wpAny_holding (add i v s2 _ pv q2 j2 fun b h3 tk htk sb j3 => ?_))
    have q3 : Kept h0 h3 := fun c o e => (sb.2 c (fun z => by rw [z, free] at e; cases e)).trans (q2 c o e)
    refine wpAny_pure ⟨plainId_quiet F.plain_set_update_loop _, ih (i + 1) _ (by omega) lt (Wk.frame _ s2 _ _ st2 htk fun c hc o e => ?_) q3 j3 fun s4 mv4 j4 q4 => ?_⟩
    · rw [sb.2 c (fun z : c = S => nS (by rw [← z]; exact hc))]; exact e
    · refine done s4 (Moved.trans Wk.gtrans ((mv.mono more).then_heap htk fun c o hc e => ?_) mv4) j4 q4
      rw [sb.2 c (fun z : c = S => hc (by rw [z]; exact List.mem_cons_self))]; exact e
abbrev newSet (w : World) : Obj := { cls := .type "set", dict := none, data := .set #[] 0 (.fresh 0 0 (!w.params.followText "set-order")) }
set_option maxHeartbeats 3200000 in
theorem callSet {l : Addr} {items : Array Value} {Q : Value → Shared → Prop} (J : Nat → Heap → Prop) (hh : A.handled = none) (hl : s.heap.IsList l items) (kp : ∀ i h h', (∀ o, h.get? s.heap.objs.size = some o → h'.get? s.heap.objs.size = some o) → Kept s.heap h' → J i h → J i h')
    (start : ∀ h, h.get? s.heap.objs.size = some (newSet w) → Kept s.heap h → J 0 h)
    (add : ∀ E', AddStep P w A.in1.in1.in1 E' s.heap.objs.size s.heap (fun i v => items[i]? = some v) J)
    (fin : ∀ (h' : Heap) (tk : Nat), J items.size h' → Kept s.heap h' → Q (.ref s.heap.objs.size) { s with heap := h', toks := tk }) :
    wpAny (model P w) A (call (.type "set") [.ref l]) Q E s := by
  obtain ⟨c, tl, mro⟩ := F.called_set.mro
  have made := F.called_set.made
  have sub := F.called_set.sub
  refine wpAny_call (codeAny_of_tree (show wpAny _ _ (callAny (.type "set") _) _ _ _ from ?_))
  refine wpAny_pure ⟨Code.quiet_builtin _ (by decide +kernel), codeAny_builtin F.entry_type_call ?_⟩
  rw [Around.under_plain (weight_type_call_type "set" [.ref l] []) rfl]
  have k1 := F.called_set.notType
  have k2 := F.called_set.canCreate
  have kc := F.typeCall_set_1 (.ref l)
  repeat (any_goals (first | assumption | wp_step))

  refine codeAny_mono (code_set_led1 (.ref l) (E := E) (Q₁ := fun o s1 => o = .ref s.heap.objs.size ∧ s1 = { s with heap := s.heap.push (newSet w) }) ⟨rfl, rfl⟩) fun r s1 hr => ?_
  cases r with
  | error e => exact hr
  | ok fl =>
    cases fl with
    | ret ob =>
      obtain ⟨rfl, rfl⟩ := hr
      have at_ : (s.heap.push (newSet w)).get? s.heap.objs.size = some (newSet w) := Heap.get?_push_size _ rfl
      have ty : Shared.TypeIs { s with heap := s.heap.push (newSet w) } (.ref s.heap.objs.size) "set" := ⟨_, at_, rfl⟩
      have li := F.called_set.init.lookup
      have bi := F.called_set.init.bind (.ref s.heap.objs.size)
      repeat (any_goals (first | assumption | wp_step))

      refine codeAny_mono (codeAny_call_builtin (R := wants (fun r s2 => r = .none ∧ ∃ h' tk, s2 = { s with heap := h', toks := tk } ∧ J items.size h' ∧ Kept s.heap h') E) F.called_set.init.plain F.entry_set_init (check_set_init_1 ty ?_)) fun r2 s2 hr2 => ?_
      · obtain ⟨ol, hol, cl, nl, dl⟩ := hl
        obtain ⟨ocls, odict, odata, oslots⟩ := ol
        simp only at cl dl
        subst cl; subst dl
        have hol2 : (s.heap.push (newSet w)).get? l = some { cls := .type "list", dict := odict, data := .seq items nl, slots := oslots } := Heap.get?_push_of_some _ hol
        have sls := F.sub_list_set
        have slf := F.sub_list_frozenset
        have ne : (Value.type "list" == Value.type "dict") = false := by decide
        have hl2 : (s.heap.push (newSet w)).IsList l items := ⟨_, hol2, rfl, nl, rfl⟩
        unfold Builtin.«set.__init__» noKeywords Builtin.Frozenset.updateFrom
        generalize hPI : pyIter = PI
        wp_walk
        subst hPI
        refine wpAny_pyIter_list hl2 (wpAny_bind (wpAny_runValue ?_))
        have lS : l < s.heap.objs.size := Heap.lt_size hol
        have h3 : A.in1.in1.in1.handled = none := by simp [hh]
        have z1 : (s.heap.push (newSet w)).objs.size = s.heap.objs.size + 1 := Heap.size_push ..
        have neI : l ≠ (s.heap.push (newSet w)).objs.size := by rw [z1]; exact Nat.ne_of_lt (Nat.lt_succ_of_lt lS)
        have nS : s.heap.objs.size ∉ [(s.heap.push (newSet w)).objs.size, l] := by
          rw [z1]; simp only [List.mem_cons, List.mem_singleton, List.not_mem_nil, or_false, not_or]
          exact ⟨Nat.ne_of_lt (Nat.lt_succ_self _), Nat.ne_of_gt lS⟩
        have none_of : ∀ b, s.heap.objs.size ≤ b → s.heap.get? b = none := fun b hb => by
          cases e : s.heap.get? b with
          | none => rfl
          | some o => exact absurd (Nat.lt_of_lt_of_le (Heap.lt_size e) hb) (Nat.lt_irrefl _)
        have kept2 : ∀ x, Kept s.heap ((s.heap.push (newSet w)).push x) := fun x b o e => Heap.get?_push_of_some _ (Heap.get?_push_of_some _ e)
        refine setLoop ((Walks.list h3 _ l neI items).toS) s.heap.objs.size nS J s.heap (none_of _ (Nat.le_refl _)) (fun b hb => none_of b ?_) kp (add _) (items.size - 0) 0 _ (by omega) (Nat.zero_le _) ⟨⟨_, Heap.get?_push_size _ rfl, rfl, rfl⟩, (hl2.push _)⟩ (kept2 _) (start _ (Heap.get?_push_of_some _ at_) (kept2 _)) ?_
        · rw [List.mem_singleton.mp hb, z1]
          exact Nat.le_succ _
        · intro s' mv j q
          obtain ⟨h', g2, d', tk', os'⟩ := s'
          have eg : g2 = s.gens := mv.gens
          have ed : d' = s.drawn := mv.drawn
          have eo : os' = s.os := mv.os
          subst eg; subst ed; subst eo
          exact wpAny_pure (show wpAny _ _ (ret Value.none) _ _ _ from wpAny_pure ⟨rfl, h', tk', rfl, j, q⟩)
      · cases r2 with
        | error e => exact hr2
        | ok fl2 =>
          cases fl2 with
          | ret r =>
            obtain ⟨rfl, h', tk, rfl, j, q⟩ := hr2
            repeat (any_goals (first | assumption | wp_step))
            exact fin h' tk j q
          | _ => exact hr2.elim
    | _ => exact hr.elim
end
end G

namespace G
open PySem PySem.Spec PyProof.Rows L2
/-! ### len(set(texts)) -/
/-- how many unlike texts there are among the first i -/
def dcntS (ys : List Str) : Nat → Nat
  | 0 => 0
  | i + 1 => if (ys.take i).any (· == ys.getD i Str.empty) = true then dcntS ys i else dcntS ys i + 1
theorem dcntS_le (ys : List Str) : ∀ i, dcntS ys i ≤ i
  | 0 => Nat.le_refl _
  | i + 1 => by
    unfold dcntS
    have := dcntS_le ys i
    split <;> omega
theorem any_strs {l : List Str} {y : Str} : l.any (· == y) = true ↔ y ∈ l := by
  rw [List.any_eq_true]
  constructor
  · rintro ⟨x, hx, e⟩
    rw [← beq_iff_eq.mp e]; exact hx
  · intro h
    exact ⟨y, h, beq_self_eq_true y⟩
theorem dcntS_nd (ys : List Str) : ∀ i, i ≤ ys.length → (dcntS ys i = i ↔ (ys.take i).Nodup)
  | 0, _ => by simp [dcntS]
  | i + 1, hi => by
    have ih := dcntS_nd ys i (by omega)
    have le := dcntS_le ys i
    have hg : ys[i]? = some (ys.getD i Str.empty) := by rw [List.getD_eq_getElem?_getD, List.getElem?_eq_getElem (by omega)]; rfl
    have tk : ys.take (i + 1) = ys.take i ++ [ys.getD i Str.empty] := by rw [List.take_add_one, hg]; rfl
    unfold dcntS
    rw [tk, List.nodup_append]
    split
    · rename_i h
      have hm := any_strs.mp h
      refine ⟨fun e => by omega, fun ⟨_, _, q⟩ => ?_⟩
      exact absurd rfl (q _ hm _ (List.mem_singleton.mpr rfl))
    · rename_i h
      have hm : ys.getD i Str.empty ∉ ys.take i := fun z => h (any_strs.mpr z)
      constructor
      · intro e
        refine ⟨ih.mp (by omega), by simp, fun a ha b hb e2 => hm ?_⟩
        rw [List.mem_singleton.mp hb] at e2
        rw [← e2]; exact ha
      · rintro ⟨q, _, _⟩
        rw [ih.mpr q]
theorem dcntS_lt (ys : List Str) : decide ((dcntS ys ys.length : Int) < ys.length) = !decide ys.Nodup := by
  have h := dcntS_nd ys ys.length (Nat.le_refl _)
  have le := dcntS_le ys ys.length
  rw [List.take_length] at h
  by_cases c : ys.Nodup
  · rw [decide_eq_true c, h.mpr c, decide_eq_false (by omega)]; rfl
  · have : dcntS ys ys.length ≠ ys.length := fun e => c (h.mp e)
    rw [decide_eq_false c, decide_eq_true (by omega)]; rfl
section
variable {P : Program} {w : World} {A : Around} {E : Value → Shared → Prop} {s : Shared}
theorem callSetS {l : Addr} {items : Array Value} {ys : List Str} {Q : Value → Shared → Prop} (hh : A.handled = none) (hl : s.heap.IsList l items) (hv : ∀ (i : Nat) (v : Value), items[i]? = some v → ∃ t, v = Value.str (ys.getD i Str.empty) t) (hz : items.size = ys.length) (hb : ys.length ≤ 4000)
    (fin : ∀ (h' : Heap) (tk : Nat), h'.SetOf (strKind P w) s.heap.objs.size (fun k => ys.any (· == k)) (dcntS ys ys.length) → Kept s.heap h' → Q (.ref s.heap.objs.size) { s with heap := h', toks := tk }) :
    wpAny (model P w) A (call (.type "set") [.ref l]) Q E s := by
  refine callSet (fun i h => i ≤ ys.length ∧ h.SetOf (strKind P w) s.heap.objs.size (fun k => (ys.take i).any (· == k)) (dcntS ys i)) hh hl ?_ ?_ ?_ ?_
  · rintro i h h' keep _ ⟨hi, o, es, ep, t, ho, r⟩
    exact ⟨hi, o, es, ep, t, keep o ho, r⟩
  · intro h ho _
    exact ⟨Nat.zero_le _, _, #[], 0, _, ho, ⟨rfl, rfl, rfl⟩, rfl, fun e he => by simp at he, fun k => by simp, by decide, by rfl, rfl⟩
  · rintro E' i v s2 Q2 hi _ ⟨hle, hS⟩ k
    obtain ⟨t, rfl⟩ := hv i v hi
    have hlt : i < ys.length := by
      have : i < items.size := by
        rw [← Array.length_toList]
        exact (List.getElem?_eq_some_iff.mp (by rw [Array.getElem?_toList]; exact hi)).1
      omega
    have is_ : (strKind P w).is (ys.getD i Str.empty) (.str (ys.getD i Str.empty) t) = true := strKind_is _ _ _ _
    unfold setAdd
    refine wpAny_holding (wpAny_bind ((strKind P w).pyHash (k := ys.getD i Str.empty) is_ ?_))
    have dl := dcntS_le ys i
    refine wpAny_setAddHashed_of (knd := strKind P w) (s := { s2 with toks := s2.toks + 1 }) is_ rfl hS (by unfold scanBound; omega) fun h' sb hS2 => ?_
    refine k _ h' (s2.toks + 1) (Nat.le_succ _) sb ⟨hlt, ?_⟩
    have hg : ys[i]? = some (ys.getD i Str.empty) := by rw [List.getD_eq_getElem?_getD, List.getElem?_eq_getElem hlt]; rfl
    have tk : ys.take (i + 1) = ys.take i ++ [ys.getD i Str.empty] := by rw [List.take_add_one, hg]; rfl
    obtain ⟨o, es, ep, tb, ho, hex, hd, hel, hmem, hb2, hf, hn⟩ := hS2
    refine ⟨o, es, ep, tb, ho, hex, hd, hel, fun k' => ?_, hb2, hf, ?_⟩
    · rw [← hmem k', tk]
      dsimp only
      rw [List.any_append]
      have e : [ys.getD i Str.empty].any (· == k') = decide (k' = ys.getD i Str.empty) := by
        by_cases c : k' = ys.getD i Str.empty
        · subst c; simp
        · have : ¬ ys.getD i Str.empty = k' := fun z => c z.symm
          simp only [List.any_cons, List.any_nil, Bool.or_false, decide_eq_false c]
          exact beq_eq_false_iff_ne.mpr this
      rw [e]
    · rw [hn]
      conv => rhs; unfold dcntS
  · rintro h' tk ⟨_, hS⟩ kp
    rw [hz, List.take_length] at hS
    exact fin h' tk hS kp
end
section
variable {X : Cx} {B : Bs} {ss : List SD} {a : Expr}
def tLenSetT (K : PySem.W.Frag) (ta : TE) : TE := fun σ H Q => ta σ H fun x H1 => ∃ (l : Addr) (ys : List Str), x = .ref l ∧ SqL K H1 l (ys.map V.str) ∧ ys.length ≤ 4000 ∧ Q (.int (dcntS ys ys.length : Nat)) H1
theorem vals_strs : ∀ {ys : List Str} {us : List Value}, Vals (ys.map V.str) us → ∀ (i : Nat) (v : Value), us[i]? = some v → ∃ t, v = .str (ys.getD i Str.empty) t
  | [], _, .nil, i, v, h => by simp at h
  | y :: ys, _, .cons r q, i, v, h => by
    cases i with
    | zero =>
      obtain ⟨t, rfl⟩ := r
      exact ⟨t, (Option.some.inj h).symm⟩
    | succ i => exact vals_strs q i v h
theorem pe_lenSetT {p p2 q pos : Pos} {ta : TE} (hc : X.calm = true) (ha : PE X a ta) (hm : X.mg "len" = none) (hm2 : X.mg "set" = none) (hg : Gl X "len") (hg2 : Gl X "set")
    (na : starEach [a] X.env = (false, eval a X.env) :: starEach [] X.env := by rfl) : PE X (.Call (.Name "len" p) [.Call (.Name "set" p2) [a] [] q] [] pos) (tLenSetT X.K ta) := by
  refine ⟨fun pins s σ H Q I h => PyProof.Rows.Call_ (ld_blt I hg hm boot_len ?_)⟩
  refine PyProof.Rows.callWith_builtin1 (PyProof.Rows.args_cons (PyProof.Rows.Call_ (ld_blt I hg2 hm2 PyProof.Rows.boot_set ?_)) rfl) rfl rfl
  refine PyProof.Rows.callWith_type1 (PyProof.Rows.args_cons (thn (ha.run pins s σ H _ I h) fun v s1 ⟨x, H1, I1, r1, q1⟩ => PyProof.Rows.args_nil ?_) na) na rfl
  obtain ⟨l, ys, rfl, hq, hl, q1⟩ := q1
  cases r1
  obtain ⟨its, r, pl, hz⟩ := I1.list hq
  have hlen : its.toArray.size = ys.length := by rw [List.size_toArray, ← r.length, List.length_map]
  refine callSetS (ys := ys) (I1.ok.hd hc) pl.isList (fun i v hv => vals_strs r i v (by rw [← hv]; simp)) hlen hl fun h' tk hS hk => PyProof.Rows.args_nil ?_
  obtain ⟨o, es, ep, t, ho, hex, hd, _, _, _, hf, hn⟩ := hS
  have I2 : Inv X pins σ H1 { s1 with heap := h', toks := tk } := I1.kept hk
  have hdl := dcntS_le ys ys.length
  exact call_len_set ho hex hd hf (by rw [hn]; omega) ⟨.int (dcntS ys ys.length : Nat), H1, I2.tok _, ⟨_, by rw [hn] <;> rfl⟩, q1⟩
theorem pd_lenSetT {ys : List Str} {p p2 q pos : Pos} (cx : Cxt X) (ha : PLi X B a ss (ys.map .str)) (hz : ys.length ≤ 4000) (hm : X.mg "len" = none) (hm2 : X.mg "set" = none) (hg : Gl X "len" := by rfl) (hg2 : Gl X "set" := by rfl)
    (na : starEach [a] X.env = (false, eval a X.env) :: starEach [] X.env := by rfl) : PD X B (.Call (.Name "len" p) [.Call (.Name "set" p2) [a] [] q] [] pos) ss (.int (dcntS ys ys.length : Nat)) := fun σ F H s Q k =>
  sem_of (pe_lenSetT cx.calm pe_sem hm hm2 hg hg2 na) (ha σ F H s _ fun l vs F1 H1 g1 sq r1 => by
    have e := RpAll.strs r1
    subst e
    exact ⟨l, ys, rfl, sq, hz, k _ F1 H1 g1 (.int _)⟩)
end
end G

namespace G
open PySem L2
/-! ### keys -/
theorem nkr_inj : ∀ {a b : List Int}, a.map NestedKey.num = b.map NestedKey.num → a = b
  | [], [], _ => rfl
  | [], _ :: _, e => by simp at e
  | _ :: _, [], e => by simp at e
  | x :: a, y :: b, e => by
    rw [List.map_cons, List.map_cons] at e
    injection e with e1 e2
    injection e1 with e1
    rw [e1, nkr_inj e2]
theorem nkl_inj : ∀ {S T : Stg}, (S.map fun r => NestedKey.tup (r.map .num)) = (T.map fun r => NestedKey.tup (r.map .num)) → S = T
  | [], [], _ => rfl
  | [], _ :: _, e => by simp at e
  | _ :: _, [], e => by simp at e
  | x :: a, y :: b, e => by
    rw [List.map_cons, List.map_cons] at e
    injection e with e1 e2
    injection e1 with e1
    rw [nkr_inj e1, nkl_inj e2]
theorem nk_inj {S T : Stg} (h : nk S = nk T) : S = T := by
  unfold nk at h
  injection h with h
  exact nkl_inj h
theorem nkr_depth : ∀ r : List Int, NestedKey.depthAll (r.map .num) = 0
  | [] => by simp [NestedKey.depthAll]
  | x :: r => by
    rw [List.map_cons, NestedKey.depthAll, nkr_depth r]
    simp [NestedKey.depth]
theorem nkl_depth : ∀ S : Stg, NestedKey.depthAll (S.map fun r => NestedKey.tup (r.map .num)) ≤ 1
  | [] => by simp [NestedKey.depthAll]
  | x :: S => by
    have h := nkl_depth S
    rw [List.map_cons, NestedKey.depthAll]
    have e : NestedKey.depth (.tup (x.map .num)) = 1 := by rw [NestedKey.depth, nkr_depth]
    omega
theorem nk_depth (S : Stg) : (nk S).depth ≤ 8 := by
  have h := nkl_depth S
  unfold nk
  rw [NestedKey.depth]
  omega
theorem ent_eq {P : Program} {w : World} : entryOfKey (nestedKind P w) = dEnt w := rfl
section
variable {X : Cx} {pins : List (Addr × Obj)} {σ : St} {H : Hp} {s : Shared} {C : Addr}
theorem nis_ints {h : Heap} : ∀ {ns : List Int} {its : List Value}, Vals (ns.map V.int) its → NestedAll h (ns.map .num) its
  | [], _, r => by
    rw [List.map_nil] at r
    cases r
    exact .nil
  | n :: ns, _, r => by
    rw [List.map_cons] at r
    cases r with
    | cons h1 h2 =>
      obtain ⟨t, rfl⟩ := (show ∃ t, _ = Value.int n t from h1)
      exact .cons (.int n t) (nis_ints h2)
theorem nis_row (I : Inv X pins σ H s) {v : V} {u : Value} {r : List Int} (h : Rp X.K C H v (.tuple (r.map .int))) (rv : RelV v u) : NestedIs s.heap (.tup (r.map .num)) u := by
  generalize hd : PyData.tuple (r.map .int) = d at h
  cases h with
  | @tup a vs ds h1 h2 =>
    injection hd with hd
    subst hd
    have ei := RpAll.intsV h2
    subst ei
    obtain ⟨its, r2, ⟨o, ho, hc, n, hq⟩, _⟩ := I.tuple h1
    obtain rfl : u = Value.ref a := rv
    exact .tup ho hc hq (nis_ints r2)
  | _ => cases hd
theorem nis_rows (I : Inv X pins σ H s) : ∀ {S : Stg} {vs : List V} {us : List Value}, RpAll X.K C H vs (S.map fun r => .tuple (r.map .int)) → Vals vs us → NestedAll s.heap (S.map fun r => .tup (r.map .num)) us
  | [], _, _, r, rv => by
    rw [List.map_nil] at r
    cases r
    cases rv
    exact .nil
  | x :: S, _, _, r, rv => by
    rw [List.map_cons] at r
    cases r with
    | cons r1 r2 =>
      cases rv with
      | cons q1 q2 => exact .cons (nis_row I r1 q1) (nis_rows I r2 q2)
/-- a standing's own tuple is a key -/
theorem key_is (I : Inv X pins σ H s) {v : V} {u : Value} {S : Stg} (h : Rp X.K C H v (stD S)) (rv : RelV v u) : ∃ a, v = .ref a ∧ u = .ref a ∧ (nestedKind X.prog X.w).is s.heap (nk S) a := by
  generalize hd : stD S = d at h
  cases h with
  | @tup a vs ds h1 h2 =>
    injection hd with hd
    subst hd
    obtain ⟨its, r2, ⟨o, ho, hc, n, hq⟩, _⟩ := I.tuple h1
    obtain rfl : u = Value.ref a := rv
    exact ⟨a, rfl, rfl, .tup ho hc hq (nis_rows I h2 r2), nk_depth S⟩
  | _ => cases hd
end
/-! ### the entries -/
def valK {κ : Type} (kvs : List (Stg × κ)) (S : Stg) : Option κ := (kvs.find? fun e => decide (e.1 = S)).map (·.2)
def esK (es : List (Stg × Addr × V)) : List (Stg × V) := es.map fun e => (e.1, e.2.2)
theorem ent_val {es : List (Stg × Addr × V)} {xs : List (NestedKey × Addr × Value)} (r : Paired EntR es xs) (S : Stg) : RelO (valK (esK es) S) ((atKey xs (nk S)).map (·.2)) := by
  induction r with
  | nil => exact True.intro
  | @cons p q ps qs h t ih =>
    obtain ⟨h1, _, h2⟩ := h
    by_cases e : p.1 = S
    · have e' : q.1 = nk S := h1.trans (congrArg nk e)
      have b : atKey (q :: qs) (nk S) = some q.2 := by simp [atKey, List.find?_cons, e']
      have c : valK (esK (p :: ps)) S = some p.2.2 := by simp [valK, esK, List.find?_cons, e]
      rw [c, b]; exact h2
    · have e' : ¬ q.1 = nk S := fun z => e (nk_inj (h1.symm.trans z))
      have b : atKey (q :: qs) (nk S) = atKey qs (nk S) := by simp [atKey, List.find?_cons, e']
      have c : valK (esK (p :: ps)) S = valK (esK ps) S := by simp [valK, esK, List.find?_cons, e]
      rw [c, b]; exact ih
theorem Paired.snoc {α β : Type} {R : α → β → Prop} {a : α} {b : β} (h : R a b) : ∀ {xs : List α} {ys : List β}, Paired R xs ys → Paired R (xs ++ [a]) (ys ++ [b])
  | _, _, .nil => .cons h .nil
  | _, _, .cons q t => .cons q (Paired.snoc h t)
theorem paired_at {α β : Type} {R : α → β → Prop} : ∀ {xs : List α} {ys : List β} {i : Nat} {a : α}, Paired R xs ys → xs[i]? = some a → ∃ b, ys[i]? = some b ∧ R a b
  | _, _, _, _, .nil, e => by simp at e
  | _, _, 0, _, .cons h _, e => by simp at e; subst e; exact ⟨_, rfl, h⟩
  | _, _, i + 1, a, .cons _ t, e => by
    obtain ⟨b, h1, h2⟩ := paired_at (i := i) (a := a) t (by simpa using e)
    exact ⟨b, by simpa using h1, h2⟩
theorem ent_keys {P : Program} {w : World} {knd : HeapKind P w NestedKey} {h : Heap} {es : List (Stg × Addr × V)} {xs : List (NestedKey × Addr × Value)} (r : Paired EntR es xs) : (∀ e ∈ es, knd.is h (nk e.1) e.2.1) → ∀ x ∈ xs, knd.is h x.1 x.2.1 := by
  induction r with
  | nil => intro _ x hx; cases hx
  | @cons p q ps qs hq t ih =>
    intro hk x hx
    rcases List.mem_cons.mp hx with e | hx
    · subst e
      rw [hq.1, hq.2.1]
      exact hk p List.mem_cons_self
    · exact ih (fun e he => hk e (List.mem_cons_of_mem _ he)) x hx
theorem dic_ok {P : Program} {w : World} {H : Hp} {h : Heap} {d : Addr} {ep : Nat} {es : List (Stg × Addr × V)} (p : dicP w d ep es h) : ObjOk P w H h d (dicO w d ep es) := by
  refine ⟨p, ?_, fun h1 h2 p1 k => ?_⟩
  · obtain ⟨_, _, xs, o, arr, _, ho, _⟩ := p; exact ⟨o, ho⟩
  · obtain ⟨a, b, xs, o, arr, c, ho, r⟩ := p1
    exact ⟨a, b, xs, o, arr, c, k _ ho, r⟩
section
variable {X : Cx} {pins : List (Addr × Obj)} {σ : St} {H : Hp} {s : Shared} {C d : Addr} {ep : Nat} {es : List (Stg × Addr × V)}
/-- the dict as the library tells it -/
theorem dic_at (I : Inv X pins σ H s) (h : H d = some (dicO X.w d ep es)) (hk : ∀ e ∈ es, Rp X.K C H (.ref e.2.1) (stD e.1)) :
    (d == sysModules) = false ∧ es.length ≤ sizeLine ∧ ∃ xs, Paired EntR es xs ∧ s.heap.DictOfH (nestedKind X.prog X.w) d xs := by
  obtain ⟨⟨h1, h2, xs, o, arr, r, ho, hc, hd, he, hn⟩, _⟩ := I.hok d _ h
  refine ⟨h1, h2, xs, r, o, arr, ep, ho, hc, hd, he, ent_keys (knd := nestedKind X.prog X.w) r fun p hp => ?_, hn⟩
  obtain ⟨a, e1, e2, e3⟩ := key_is I (hk p hp) (rfl : RelV (.ref p.2.1) (.ref p.2.1))
  cases e1
  exact e3
end
/-! ### rules -/
section
variable {X : Cx} {C : Addr}
theorem nroom {A : Around} (hu : A.units + 64 < cLine) : A.in1.units + 8 < cLine := by
  have : A.in1.units = A.units + 1 := Around.in1_units A
  omega
def rDicIn (X : Cx) (C : Addr) (neg : Bool) : R2 := fun x y H Q => ∃ d ep es S, y = .ref d ∧ H d = some (dicO X.w d ep es) ∧ (∀ e ∈ es, Rp X.K C H (.ref e.2.1) (stD e.1)) ∧ Rp X.K C H x (stD S) ∧ Q (.bl (neg != (valK (esK es) S).isSome)) H
theorem op_inDic (hu : X.A.units + 64 < cLine) : OpR X (compareOp .In) (rDicIn X C false) := by
  rintro pins s σ H x y v u Q I rx ry ⟨d, ep, es, S, rfl, hd, hk, hS, q⟩
  obtain rfl : u = Value.ref d := ry
  obtain ⟨a, rfl, rfl, ka⟩ := key_is I hS rx
  obtain ⟨h1, h2, xs, r, hm⟩ := dic_at I hd hk
  refine wpAny_in_heap (knd := nestedKind X.prog X.w) (nroom hu) ka h1 hm ?_
  have e := (ent_val r S).isSome_eq
  rw [Option.isSome_map] at e
  rw [← e]
  exact ⟨.bl _, H, I.tok _, rfl, by simpa using q⟩
theorem op_notInDic (hu : X.A.units + 64 < cLine) : OpR X (compareOp .NotIn) (rDicIn X C true) := by
  rintro pins s σ H x y v u Q I rx ry ⟨d, ep, es, S, rfl, hd, hk, hS, q⟩
  obtain rfl : u = Value.ref d := ry
  obtain ⟨a, rfl, rfl, ka⟩ := key_is I hS rx
  obtain ⟨h1, h2, xs, r, hm⟩ := dic_at I hd hk
  refine PyProof.Rows.wpAny_notIn_heap (knd := nestedKind X.prog X.w) (nroom hu) ka h1 hm ?_
  have e := (ent_val r S).isSome_eq
  rw [Option.isSome_map] at e
  rw [← e]
  exact ⟨.bl _, H, I.tok _, rfl, by simpa using q⟩
def rDicGet (X : Cx) (C : Addr) : R2 := fun x y H Q => ∃ d ep es S v, x = .ref d ∧ H d = some (dicO X.w d ep es) ∧ (∀ e ∈ es, Rp X.K C H (.ref e.2.1) (stD e.1)) ∧ Rp X.K C H y (stD S) ∧ valK (esK es) S = some v ∧ Q v H
theorem ix_dic (hu : X.A.units + 64 < cLine) : IxR X (rDicGet X C) := by
  rintro value slice pins s σ H x y v u Q I rx ry ⟨d, ep, es, S, z, rfl, hd, hk, hS, hz, q⟩ hs
  obtain rfl : v = Value.ref d := rx
  obtain ⟨a, rfl, rfl, ka⟩ := key_is I hS ry
  obtain ⟨h1, h2, xs, r, hm⟩ := dic_at I hd hk
  have e := ent_val r S
  rw [hz] at e
  obtain ⟨w', hw, rw'⟩ := e.some_of
  obtain ⟨p, hp, hp2⟩ := Option.map_eq_some_iff.mp hw
  refine PyProof.Rows.tail_any hm.typeIs PySem.F.slot_dict_getitem.lookup (wpAny_getItem_heap (knd := nestedKind X.prog X.w) (nroom hu) ka hm hp ?_) hs
  rw [hp2]
  exact ⟨z, H, I.tok _, rw', q⟩
/-- a new key -/
def rDicSet (X : Cx) (C : Addr) : TSet := fun o i v H Q => ∃ d ep es S a, o = .ref d ∧ i = .ref a ∧ H d = some (dicO X.w d ep es) ∧ (∀ e ∈ es, Rp X.K C H (.ref e.2.1) (stD e.1)) ∧ Rp X.K C H (.ref a) (stD S) ∧ valK (esK es) S = none ∧ es.length < sizeLine ∧ ∀ ep', Q (upd H d (dicO X.w d ep' (es ++ [(S, a, v)])))
theorem dic_put {P : Program} {w : World} {h' : Heap} {d a : Addr} {es : List (Stg × Addr × V)} {xs : List (NestedKey × Addr × Value)} {S : Stg} {v : V} {u : Value} (hs : (d == sysModules) = false) (hz : es.length < sizeLine) (r : Paired EntR es xs) (hn : atKey xs (nk S) = none) (rv : RelV v u)
    (hm : h'.DictOfH (nestedKind P w) d (storedH xs (nk S) a u)) : ∃ ep, dicP w d ep (es ++ [(S, a, v)]) h' := by
  rw [storedH_new hn] at hm
  obtain ⟨o, arr, ep, ho, hc, hd, he, _, hnd⟩ := hm
  exact ⟨ep, hs, by rw [List.length_append, List.length_singleton]; exact hz, xs ++ [(nk S, a, u)], o, arr, Paired.snoc ⟨rfl, rfl, rv⟩ r, ho, hc, hd, he, hnd⟩
theorem set_dic (hu : X.A.units + 64 < cLine) : PSet X (rDicSet X C) := by
  rintro pins s σ H o i v ov iv u Q I ro ri rv ⟨d, ep, es, S, a, rfl, rfl, hd, hk, hS, hn, hz, q⟩
  obtain rfl : ov = Value.ref d := ro
  obtain ⟨a', e1, rfl, ka⟩ := key_is I hS ri
  cases e1
  obtain ⟨h1, h2, xs, r, hm⟩ := dic_at I hd hk
  have e := ent_val r S
  rw [hn] at e
  have hn' : atKey xs (nk S) = none := Option.map_eq_none_iff.mp e.none_of
  have hl : es.length = xs.length := Paired.length r
  refine wpAny_setItem_heap (knd := nestedKind X.prog X.w) (nroom hu) ka hm (fun h' hm' hs => ?_) (hsz := by omega)
  have hex : ∃ q, h'.get? d = some q := let ⟨q, _, _, hq, _⟩ := hm'; ⟨q, hq⟩
  obtain ⟨ep', hp⟩ := dic_put h1 hz r hn' rv hm'
  exact ⟨_, d_write I (by rw [hd]; exact True.intro) hs hex (dic_ok hp), q ep'⟩
/-- {} -/
def tDicNew (X : Cx) : TE := fun _ H Q => ∀ p, H p = none → Q (.ref p) (upd H p (dicO X.w p 0 []))
theorem dic_empty {w : World} (h : Heap) (hb : sysModules < h.objs.size) : dicP w h.objs.size 0 [] (h.push { cls := .type "dict", data := .dict #[] }) :=
  ⟨beq_eq_false_iff_ne.mpr (Ne.symm (Nat.ne_of_lt hb)), Nat.zero_le _, [], _, #[], .nil, Heap.get?_push_size _ rfl, ⟨rfl, rfl, rfl⟩, rfl, rfl, List.nodup_nil⟩
theorem pe_dicNew {pos : Pos} : PE X (.Dict [] [] pos) (tDicNew X) := ⟨fun pins s σ H Q I h =>
  wpAny_Dict_empty ⟨.ref s.heap.objs.size, _, I.laid (a := s.heap.objs.size) (o := dicO X.w s.heap.objs.size 0 []) (t' := s.toks) (fun _ _ q => Heap.get?_push_of_some _ q) (Nat.le_refl _) (dic_ok (dic_empty s.heap I.big)), rfl, h _ (I.hok.fresh (Nat.le_refl _))⟩⟩
/-- {k: v} -/
def tDic1 (X : Cx) (C : Addr) (tk tv : TE) : TE := fun σ H Q => ∀ d, H d = none → tk σ (upd H d (dicO X.w d 0 [])) fun x H1 => tv σ H1 fun y H2 => ∃ S a, x = .ref a ∧ H2 d = some (dicO X.w d 0 []) ∧ Rp X.K C H2 x (stD S) ∧ ∀ ep, Q (.ref d) (upd H2 d (dicO X.w d ep [(S, a, y)]))
theorem disp_H {prog : Program} {w : World} {A : Around} {E : Value → Shared → Prop} {s : Shared} {knd : HeapKind prog w NestedKey} {env : Env} {keys : List (Option Expr)} {values : List Expr} {pos : Pos} {Q : Value → Shared → Prop} (hu : knd.room A)
    (hall : keys.all (·.isSome) = true) (hl : keys.length = values.length) (h0 : keys ≠ []) (hlen : keys.length ≤ 15)
    (h : wpAny (model prog w) A (evalPairs (pairTrees keys values env pos)) (fun vs s₁ => ∃ ps, CarriesH knd s₁.heap vs ps ∧ s₁.heap.DictOfH knd s.heap.objs.size [] ∧
      ∀ h' tk, h'.DictOfH knd s.heap.objs.size (storedAllH [] ps) → Heap.SameBut s.heap.objs.size s₁.heap h' → Q (.ref s.heap.objs.size) { s₁ with heap := h', toks := tk }) E
      { s with heap := s.heap.push { cls := .type "dict", data := .dict #[] } }) :
    wpAny (model prog w) A (eval (.Dict keys values pos) env) Q E s := by
  have hn := pairTrees_length keys values env pos hall hl
  have hne : pairTrees keys values env pos ≠ [] := fun he => by
    rw [he] at hn
    exact h0 (List.length_eq_zero_iff.mp hn.symm)
  rw [arm_eval_Dict, zip_pairTrees keys values env pos hall hl, dictDisplay_pairs _ hne (by omega)]
  exact wpAny_bind (wpAny_standAt (wpAny_bind (wpAny_subDictH (knd := knd) (Q := fun d s' => wpAny (model prog w) A (pure (Value.ref d)) Q E s') hu (by rw [hn]; exact hlen)
    (wpAny_mono h (fun vs s₁ h₁ => by obtain ⟨ps, hc, hm, hq⟩ := h₁; exact ⟨ps, hc, hm, fun h' tk a b => wpAny_pure (hq h' tk a b)⟩) fun _ _ e => e))))
theorem pe_dic1 {k v : Expr} {tk tv : TE} {pos : Pos} (hu : X.A.units + 64 < cLine) (hk : PE X k tk) (hv : PE X v tv) : PE X (.Dict [some k] [v] pos) (tDic1 X C tk tv) := by
  refine ⟨fun pins s σ H Q I q => ?_⟩
  have hn := I.hok.fresh (Nat.le_refl s.heap.objs.size)
  have I1 := I.laid (a := s.heap.objs.size) (o := dicO X.w s.heap.objs.size 0 []) (h' := s.heap.push { cls := .type "dict", data := .dict #[] }) (t' := s.toks) (fun _ _ q => Heap.get?_push_of_some _ q) (Nat.le_refl _) (dic_ok (dic_empty s.heap I.big))
  refine disp_H (knd := nestedKind X.prog X.w) (show X.A.units + 8 < cLine by omega) rfl rfl (by simp) (Nat.le_of_ble_eq_true rfl) (thn ((pps_cons hk hv pps_nil : PPs X pos [some k] [v] [(tk, tv)]).run pins _ σ _ (fun ps H2 => match ps with | [(x, y)] => ∃ S a, x = .ref a ∧ H2 s.heap.objs.size = some (dicO X.w s.heap.objs.size 0 []) ∧ Rp X.K C H2 x (stD S) ∧ ∀ ep, Q (.ref s.heap.objs.size) (upd H2 s.heap.objs.size (dicO X.w s.heap.objs.size ep [(S, a, y)])) | _ => False) I1 ?_) ?_)
  · exact q _ hn
  · rintro ws s2 ⟨ps, H2, I2, rel, q1⟩
    match ps, rel, q1 with
    | [(x, y)], .cons (b := b) h t, q1 =>
      obtain ⟨S, a, rfl, hd, hS, q2⟩ := q1
      cases t
      obtain ⟨b1, b2⟩ := b
      obtain ⟨r1, r2⟩ := h
      obtain ⟨a', e1, e2, ka⟩ := key_is I2 hS r1
      cases e1
      obtain ⟨h1, h2, xs, r, hm⟩ := dic_at (C := C) I2 hd (fun e he => by cases he)
      cases r
      refine ⟨[(nk S, a, b2)], ⟨e2, rfl, ka, trivial⟩, hm, fun h' tk hm' hs => ?_⟩
      have hex : ∃ q, h'.get? s.heap.objs.size = some q := let ⟨q, _, _, hq, _⟩ := hm'; ⟨q, hq⟩
      obtain ⟨ep', hp⟩ := dic_put (es := []) h1 (by rw [sizeLine_eq]; decide) .nil rfl r2 hm'
      exact ⟨.ref s.heap.objs.size, _, d_write I2 (by rw [hd]; exact True.intro) hs hex (dic_ok hp), rfl, q2 ep'⟩
end
end G

namespace G
open PySem L2 PySem.W PyProof.Rows
/-! ### sorted, of data -/
/-- the data in Python's order -/
def srtD (ds : List PyData) : List PyData := ds.mergeSort (dataLe false fun d => d)
section
variable {h : Heap}
theorem nolist_row : ∀ {r : List Int} {us : List Value} {as : List Addr}, ReadsAll h us (r.map PyData.int) as → as = []
  | [], _, _, q => by
    rw [List.map_nil] at q
    cases q
    rfl
  | n :: r, _, _, q => by
    rw [List.map_cons] at q
    cases q with
    | cons q1 q2 =>
      cases q1
      rw [nolist_row q2]
      rfl
theorem nolist_rows : ∀ {S : Stg} {us : List Value} {as : List Addr}, ReadsAll h us (S.map fun r => .tuple (r.map PyData.int)) as → as = []
  | [], _, _, q => by
    rw [List.map_nil] at q
    cases q
    rfl
  | r :: S, _, _, q => by
    rw [List.map_cons] at q
    cases q with
    | cons q1 q2 =>
      cases q1 with
      | tuple _ _ _ q3 => rw [nolist_rows q2, nolist_row q3]; rfl
theorem nolist_st {S : Stg} {u : Value} {as : List Addr} (q : Reads h u (stD S) as) : as = [] := by
  cases q with
  | tuple _ _ _ q3 => exact nolist_rows q3
theorem each_at {α β : Type} {R : α → β → Prop} : ∀ {as : List α} {bs : List β}, as.length = bs.length → (∀ (j : Nat) (a : α) (b : β), as[j]? = some a → bs[j]? = some b → R a b) → EachIs R as bs
  | [], [], _, _ => .nil
  | [], _ :: _, e, _ => by simp at e
  | _ :: _, [], e, _ => by simp at e
  | a :: as, b :: bs, e, q => .cons (q 0 a b rfl rfl) (each_at (by simpa using e) fun j x y e1 e2 => q (j + 1) x y (by simpa using e1) (by simpa using e2))
/-- what a value is known to be, over the frozen heap -/
def RdV (K : PySem.W.Frag) (C : Addr) (G : Hp) (u : Value) (d : PyData) : Prop := ∃ x : V, RelV x u ∧ Rp K C G x d
theorem each_vals {K : PySem.W.Frag} {C : Addr} {G : Hp} : ∀ {us : List Value} {ds : List PyData}, EachIs (RdV K C G) us ds → ∃ vs, Vals vs us ∧ RpAll K C G vs ds
  | _, _, .nil => ⟨[], .nil, .nil⟩
  | _, _, .cons ⟨x, rx, px⟩ t => by
    obtain ⟨vs, h1, h2⟩ := each_vals t
    exact ⟨x :: vs, .cons rx h1, .cons px h2⟩
theorem each_rp {K : PySem.W.Frag} {C : Addr} {G : Hp} : ∀ {vs : List V} {us : List Value} {ds : List PyData}, Vals vs us → RpAll K C G vs ds → EachIs (RdV K C G) us ds
  | _, _, _, .nil, .nil => .nil
  | _, _, _, .cons rx t, .cons px q => .cons ⟨_, rx, px⟩ (each_rp t q)
theorem each_both {α β : Type} {R : α → β → Prop} {T : β → Prop} : ∀ {as : List α} {bs : List β}, EachIs R as bs → (∀ b ∈ bs, T b) → EachIs (fun a b => R a b ∧ T b) as bs
  | _, _, .nil, _ => .nil
  | _, _, .cons h1 t, q => .cons ⟨h1, q _ List.mem_cons_self⟩ (each_both t fun b hb => q b (List.mem_cons_of_mem _ hb))
/-- data that sorted takes: alike, no None, no list within -/
structure SrtOk (ds : List PyData) : Prop where
  al : AllAlike ds
  so : Sortable ds
  pl : ∀ d ∈ ds, Pl 8 d
theorem map_id' {α : Type} (ds : List α) : ds.map (fun d => d) = ds := List.map_id ds
end
section
variable {X : Cx} {C : Addr}
theorem rdv_reads {pins : List (Addr × Obj)} {σ : St} {H G : Hp} {s : Shared} (I : Inv X pins σ H s) (f : Same G H) {us : List Value} {ds : List PyData} (e : EachIs (RdV X.K C G) us ds) (hp : ∀ d ∈ ds, Pl 8 d) : EachIs (fun u d => ∃ as, Reads s.heap u d as) us ds :=
  (each_both e hp).mono fun u d ⟨⟨x, rx, px⟩, pl⟩ => Dp.reads I d x u ((px.mono f).dp pl.lay.1) rx
def rSortD (X : Cx) (C : Addr) : List V → Hp → VK → Prop := fun xs H Q => ∃ (a : Addr) (vs : List V) (ds : List PyData) (G : Hp), xs = [.ref a] ∧ SqL X.K H a vs ∧ Same G H ∧ RpAll X.K C G vs ds ∧ SrtOk ds ∧
  ∀ (p : Addr) (ws : List V), H p = none → RpAll X.K C G ws (srtD ds) → Q (.ref p) (upd H p (.lst ws))
theorem cr_sortD (hu : X.A.units + 64 < cLine) : CallR X (.builtin "sorted") (rSortD X C) := by
  rintro pins s σ H xs us Q I r ⟨a, vs, ds, G, rfl, hs, f, hr, ok, q⟩
  obtain ⟨its, rv, hl, hz⟩ := I.list hs
  rw [Vals.ref1 r]
  have e := each_rp rv hr
  have hlen : ds.length ≤ sizeLine := by rw [← hr.length]; exact hz
  have re := rdv_reads I f e ok.pl
  refine sorted_data (bs := ds) (enc := fun d => d) (R := RdV X.K C G) hl.isList e re (by rw [map_id']; exact ok.al) (by rw [map_id']; exact ok.so) hlen (fun d hd => ?_) fun out ho eo => ?_
  · have := (ok.pl d hd).lay.2
    omega
  · obtain ⟨ws, w1, w2⟩ := each_vals eo
    obtain ⟨ep, he'⟩ := sortedAll_at s.heap its out.toArray
    have w3 : ws.length ≤ sizeLine := by rw [w1.length, ho]; exact hlen
    exact ⟨.ref _, upd H (s.heap.objs.size + 1) (.lst ws), I.laid (t' := s.toks) (fun _ _ => sortedAll_old) (Nat.le_succ _) ⟨w3, out, ep, w1, he'⟩, rfl, q _ _ (I.hok.fresh (Nat.le_succ _)) w2⟩
/-- the keys, in a new list -/
theorem coll_dic {prog : Program} {w : World} {A : Around} {E : Value → Shared → Prop} {s : Shared} {d : Addr} {arr : Array DictEntry} {ep : Nat} {R : List Value → Shared → Prop} (lo : (d == sysModules) = false) (hh : A.handled = none) (hm : s.heap.DictRaw d arr ep) (hz : arr.size ≤ sizeLine)
    (k : ∀ (g : Heap) (tk : Nat) (acc : Array Value), (∀ b o, s.heap.get? b = some o → g.get? b = some o) → s.heap.objs.size ≤ g.objs.size → acc.size = arr.size → (∀ (j : Nat) (u : Value), acc[j]? = some u → ∃ hj : j < arr.size, u = arr[j].key) → R acc.toList { s with heap := g, toks := tk }) :
    wpAny (model prog w) A (collect (.ref d)) R E s := by
  have far : d < s.heap.objs.size := hm.lt_size
  have fresh : (s.heap.push { cls := .type "list", data := .seq ([] : List Value).toArray }).get? s.heap.objs.size = some { cls := .type "list", data := .seq #[] } := Heap.get?_push_size _ rfl
  have go := kdl_extend (prog := prog) (w := w) (A := A) (s := { s with heap := s.heap.push { cls := .type "list", data := .seq ([] : List Value).toArray } }) (KdlSrc.rawDict (es := arr) (ep := ep) lo)
    (R := fun q t => ∃ (g : Heap) (tk : Nat) (acc : Array Value) (c : Nat), q = .ok (.ret (.ref s.heap.objs.size)) ∧ t = { s with heap := g, toks := tk } ∧ (∀ b o, s.heap.get? b = some o → g.get? b = some o) ∧
      g.get? s.heap.objs.size = some { cls := .type "list", dict := none, data := .seq acc c, slots := #[] } ∧ ItemsOf (fun i v => ∃ hi : i < arr.size, v = arr[i].key) acc arr.size)
    hh (hm.push _) s.heap.objs.size (Nat.ne_of_gt far) (Nat.ne_of_gt far) (.ref s.heap.objs.size) 0 fresh
    (fun g tk acc c kk gs it => ⟨g, tk, acc, c, rfl, rfl, fun b o e => kk b o (Nat.ne_of_lt (Heap.lt_size e)) (Heap.get?_push_of_some _ e), gs, it⟩) hz
  have fin : ∀ (g : Heap) (tk : Nat) (acc : Array Value) (c : Nat), (∀ b o, s.heap.get? b = some o → g.get? b = some o) → g.get? s.heap.objs.size = some { cls := .type "list", dict := none, data := .seq acc c, slots := #[] } →
      ItemsOf (fun i v => ∃ hi : i < arr.size, v = arr[i].key) acc arr.size → R acc.toList { s with heap := g, toks := tk } := fun g tk acc c kk gs it => k g tk acc kk (Nat.le_of_lt (Heap.lt_size gs)) it.1 it.2
  unfold collect
  refine wpAny_bind (wpAny_runValue (codeAny_builtin entry_proto_collect' ?_))
  rw [Around.under_plainId PySem.F.plain_proto_collect _]
  show wpAny _ A.in1 (newList [] >>= fun t => again (.builtin "list.__iadd__" ⟨[t, .ref d], []⟩)) _ _ s
  refine wpAny_bind (wpAny_newObj_type (wpAny_pure ⟨plainId_quiet PySem.F.plain_list_iadd _, codeAny_builtin entry_list_iadd' ?_⟩))
  rw [Around.under_plainId PySem.F.plain_list_iadd _]
  show wpAny _ A.in1 (Builtin.List.listExtendWith (.ref s.heap.objs.size) (.ref d) (.ref s.heap.objs.size)) _ _ _
  refine wpAny_mono go (fun f t z => ?_) fun _ _ z => by obtain ⟨_, _, _, _, e, _⟩ := z; cases e
  cases f with
  | done v =>
    obtain ⟨g, tk, acc, c, e, rfl, kk, gs, it⟩ := z
    cases e
    exact wpAny_bind (wpAny_load gs (wpAny_pure (fin g tk acc c kk gs it)))
  | again c1 =>
    refine ⟨z.1, codeAny_mono z.2 fun q t y => ?_⟩
    obtain ⟨g, tk, acc, c, rfl, rfl, kk, gs, it⟩ := y
    exact wpAny_bind (wpAny_load gs (wpAny_pure (fin g tk acc c kk gs it)))
def rSortDic (X : Cx) (C : Addr) : List V → Hp → VK → Prop := fun xs H Q => ∃ (d : Addr) (ep : Nat) (es : List (Stg × Addr × V)) (G : Hp), xs = [.ref d] ∧ H d = some (dicO X.w d ep es) ∧ Same G H ∧ (∀ e ∈ es, Rp X.K C G (.ref e.2.1) (stD e.1)) ∧ SrtOk (es.map fun e : Stg × Addr × V => stD e.1) ∧
  ∀ (p : Addr) (ws : List V), H p = none → RpAll X.K C G ws (srtD (es.map fun e : Stg × Addr × V => stD e.1)) → Q (.ref p) (upd H p (.lst ws))
theorem cr_sortDic (hc : X.calm = true) (hu : X.A.units + 64 < cLine) : CallR X (.builtin "sorted") (rSortDic X C) := by
  rintro pins s σ H xs us Q I r ⟨d, ep, es, G, rfl, hd, f, hk, ok, q⟩
  rw [Vals.ref1 r]
  obtain ⟨⟨lo, hz, kx, o, arr, pr, ho, hx, hdat, he, hn⟩, _⟩ := I.hok d _ hd
  have hsz : arr.size = es.length := by rw [← Array.length_toList, he, List.length_map]; exact (Paired.length pr).symm
  have at_ : ∀ (j : Nat) (hj : j < arr.size), ∃ e, es[j]? = some e ∧ arr[j].key = .ref e.2.1 := fun j hj => by
    have hj' : j < es.length := by omega
    obtain ⟨x, hx1, hx2⟩ := paired_at pr (List.getElem?_eq_getElem hj')
    refine ⟨es[j], List.getElem?_eq_getElem hj', ?_⟩
    have e1 : arr.toList[j]? = some (dEnt X.w x) := by rw [he, List.getElem?_map, hx1]; rfl
    rw [Array.getElem?_toList, Array.getElem?_eq_getElem hj] at e1
    rw [Option.some.inj e1]
    show Value.ref x.2.1 = _
    rw [hx2.2.1]
  refine Calls.call_function_entry kind_sorted plain_sorted entry_sorted (args_sorted1 _) ?_
  unfold Builtin.«sorted»
  refine wpAny_bind (m := checkCount "sorted" 1 1 _) (wpAny_pure (wpAny_bind (coll_dic (A := X.A.in1) (arr := arr) (ep := ep) lo (I.ok.hd hc) ⟨o, ho, hx, hdat⟩ (by rw [hsz]; exact hz) fun g tk acc kk gz az ai => ?_)))
  have len : acc.toList.length = es.length := by rw [Array.length_toList, az, hsz]
  refine wpAny_bind (wpAny_newList ?_ (by rw [len]; exact hz))
  have eR : EachIs (RdV X.K C G) acc.toList (es.map fun e : Stg × Addr × V => stD e.1) := each_at (by rw [len, List.length_map]) fun j u b e1 e2 => by
    rw [Array.getElem?_toList] at e1
    obtain ⟨hj, rfl⟩ := ai j u e1
    obtain ⟨e, h1, h2⟩ := at_ j hj
    rw [List.getElem?_map, h1] at e2
    obtain rfl := Option.some.inj e2
    rw [h2]
    exact ⟨.ref e.2.1, rfl, hk e (List.mem_of_getElem? h1)⟩
  have rd := rdv_reads I f eR ok.pl
  have new : (g.push { cls := .type "list", data := .seq acc.toList.toArray }).get? g.objs.size = some (seqObj "list" acc.toList.toArray 0) := Heap.get?_push_size _ rfl
  refine wpAny_bind (wpAny_holding (wpAny_mono (list_sort_data (R := RdV X.K C G) (bs := es.map fun e : Stg × Addr × V => stD e.1) (enc := fun d => d) (s := { s with heap := g.push { cls := .type "list", data := .seq acc.toList.toArray }, toks := tk })
    (Q := fun v t => ∃ out : List Value, out.length = (es.map fun e : Stg × Addr × V => stD e.1).length ∧ EachIs (RdV X.K C G) out (srtD (es.map fun e : Stg × Addr × V => stD e.1)) ∧ t = { s with heap := sortedHeap (g.push { cls := .type "list", data := .seq acc.toList.toArray }) g.objs.size acc.toList out.toArray, toks := tk })
    (E := X.xe) new eR ?_ (by rw [map_id']; exact ok.al) (by rw [map_id']; exact ok.so) (by rw [List.length_map]; exact hz) (fun d hd => ?_) (fun out ho eo => ⟨out, ho, eo, rfl⟩)) (fun v t z => ?_) fun _ _ z => z))
  · refine (each_both rd (T := fun b => ∃ e ∈ es, b = stD e.1) fun b hb => ?_).mono ?_
    · obtain ⟨e, he1, he2⟩ := List.mem_map.mp hb
      exact ⟨e, he1, he2.symm⟩
    · rintro u b ⟨⟨as, ra⟩, e, he1, rfl⟩
      have nl := nolist_st ra
      subst nl
      exact ⟨[], PyProof.Rows.Reads.keeps (fun b o e => Heap.get?_push_of_some _ (kk b o e)) ra, by simp⟩
  · have h1 := (ok.pl d hd).lay.2
    have h2 : X.A.in1.units = X.A.units + 1 := Around.in1_units _
    have h3 : X.A.in1.in1.units = X.A.in1.units + 1 := Around.in1_units _
    omega
  · obtain ⟨out, lo2, eo, rfl⟩ := z
    obtain ⟨ws, w1, w2⟩ := each_vals eo
    obtain ⟨ep', he'⟩ := sortedHeap_at (vs := acc.toList) (out := out.toArray) new
    have w3 : ws.length ≤ sizeLine := by rw [w1.length, lo2, List.length_map]; exact hz
    refine wpAny_pure ⟨_, rfl, .ref g.objs.size, upd H g.objs.size (.lst ws), I.laid (t' := tk) (fun b u e => ?_) gz ⟨w3, out, ep', w1, he'⟩, rfl, q _ _ (I.hok.fresh gz) w2⟩
    have lt : b < g.objs.size := Nat.lt_of_lt_of_le (Heap.lt_size e) gz
    rw [sortedHeap_old (Nat.ne_of_lt lt) (by rw [size_push']; exact Nat.lt_succ_of_lt lt)]
    exact Heap.get?_push_of_some _ (kk b u e)
end
end G

namespace G
open PySem L2 PySem.W PyProof.Rows
/-! ### the state: a dict of one's own, a dict known for good -/
def noDic : List SD → Bool
  | [] => true
  | .dic _ _ :: _ => false
  | _ :: r => noDic r
theorem noDic_at : ∀ {ss : List SD} {j : Nat} {w : World} {kvs : List (Stg × V)}, noDic ss = true → ss[j]? ≠ some (.dic w kvs)
  | [], j, w, kvs, _ => by simp
  | x :: r, 0, w, kvs, n => fun e => by
    have e' : x = .dic w kvs := Option.some.inj (by simpa using e)
    subst e'
    simp [noDic] at n
  | x :: r, j + 1, w, kvs, n => fun e => by
    refine noDic_at (ss := r) (j := j) (w := w) (kvs := kvs) ?_ (by simpa using e)
    cases x with
    | dic w kvs => simp [noDic] at n
    | own ds => exact n
    | un => exact n
    | dat d => exact n
    | bor d => exact n
    | val v => exact n
    | fro P => exact n
    | raw P => exact n
/-- a dict known for good -/
def frP (K : PySem.W.Frag) (C : Addr) (w : World) (kvs : List (Stg × V)) : V → Hp → Prop := fun v F => ∃ d, v = .ref d ∧ DicAt K C w F F d kvs
theorem frP_mono {K : PySem.W.Frag} {C : Addr} {w : World} {kvs : List (Stg × V)} {v : V} {F F' : Hp} (h : frP K C w kvs v F) (e : Same F F') : frP K C w kvs v F' := by
  obtain ⟨d, q, r⟩ := h
  exact ⟨d, q, r.mono e (.inr e)⟩
section
variable {K : PySem.W.Frag} {B : Bs} {ss : List SD} {σ : St} {F H : Hp}
theorem Sat.set_gen {i : Nat} {v : V} {sd : SD} (h : Sat K B ss σ F H) (hn : ∀ es, sd ≠ .own es) (r : SlotOk K B F H sd (some (some v))) : Sat K B (ss.set i sd) (σ.set i (some v)) F H where
  g := h.g
  pin := h.pin
  len := by rw [List.length_set, List.length_set]; exact h.len
  slot := fun j t e => by
    by_cases hj : i = j
    · subst hj
      have hi : i < ss.length := by
        have := (List.getElem?_eq_some_iff.mp e).1
        rwa [List.length_set] at this
      rw [List.getElem?_set_self hi] at e
      cases e
      rw [List.getElem?_set_self (by rw [h.len]; exact hi)]
      exact r
    · rw [List.getElem?_set_ne hj] at e ⊢
      exact h.slot j t e
  ne := fun j k ds es hjk e1 e2 => by
    have nj : ∀ {k ds}, (ss.set i sd)[k]? = some (.own ds) → i ≠ k := fun {k ds} e q => by
      subst q
      have hi : i < ss.length := by
        have := (List.getElem?_eq_some_iff.mp e).1
        rwa [List.length_set] at this
      rw [List.getElem?_set_self hi] at e
      exact hn _ (Option.some.inj e)
    have a := nj e1
    have b := nj e2
    rw [List.getElem?_set_ne a] at e1 ⊢
    rw [List.getElem?_set_ne b] at e2 ⊢
    exact h.ne j k ds es hjk e1 e2
/-- slot i holds what it held, told otherwise; the frozen part and the heap have changed -/
theorem Sat.retell {i : Nat} {sd : SD} {F' H' : Hp} (h : Sat K B ss σ F H) (g : Grow B.F0 B.H0 F' H') (sm : Same F F') (hn : ∀ es, sd ≠ .own es) (hi : i < ss.length) (r : SlotOk K B F' H' sd σ[i]?)
    (ot : ∀ (j : Nat) (t : SD), i ≠ j → ss[j]? = some t → SlotOk K B F' H' t σ[j]?) : Sat K B (ss.set i sd) σ F' H' where
  g := g
  pin := h.pin.trans sm
  len := by rw [List.length_set]; exact h.len
  slot := fun j t e => by
    by_cases hj : i = j
    · subst hj
      rw [List.getElem?_set_self hi] at e
      cases e
      exact r
    · rw [List.getElem?_set_ne hj] at e
      exact ot j t hj e
  ne := fun j k ds es hjk e1 e2 => by
    have nj : ∀ {k ds}, (ss.set i sd)[k]? = some (.own ds) → i ≠ k := fun {k ds} e q => by
      subst q
      rw [List.getElem?_set_self hi] at e
      exact hn _ (Option.some.inj e)
    rw [List.getElem?_set_ne (nj e1)] at e1
    rw [List.getElem?_set_ne (nj e2)] at e2
    exact h.ne j k ds es hjk e1 e2
/-- the dict at slot i has changed -/
theorem Sat.putD {i ep : Nat} {d : Addr} {w : World} {kvs kvs' : List (Stg × V)} {es' : List (Stg × Addr × V)} (h : Sat K B ss σ F H) (e : ss[i]? = some (.dic w kvs)) (ea : σ[i]? = some (some (.ref d))) (nr : noRaw ss = true) (nd : noDic (ss.set i .un) = true)
    (hm : esK es' = kvs') (hk : ∀ x ∈ es', Rp K B.C F (.ref x.2.1) (stD x.1)) : Sat K B (ss.set i (.dic w kvs')) σ F (L2.upd H d (dicO w d ep es')) := by
  obtain ⟨d', ed, d0, dF, hD⟩ := h.slot i _ e
  rw [ea] at ed
  cases ed
  have hi : i < ss.length := (List.getElem?_eq_some_iff.mp e).1
  refine h.retell ⟨fun b u q => by rw [upd_ne (ne_of_none q d0)]; exact h.g.hh b u q, h.g.ff, fun b u q => by rw [upd_ne (ne_of_none q dF)]; exact h.g.fh b u q, h.g.own⟩ (Same.refl _) (fun es q => by cases q) hi ⟨d, ea, d0, dF, ep, es', upd_same, hm, hk⟩ fun j t hj q => ?_
  have z := h.slot j t q
  cases t with
  | un => trivial
  | dat d => exact z
  | bor d => exact z
  | val v => exact z
  | fro P => exact z
  | own es =>
    obtain ⟨b, vs, e1, b0, nb, hb, r⟩ := z
    exact ⟨b, vs, e1, b0, nb, by rw [upd_ne (Ne.symm (hD.ne (nx_lst hb)))]; exact hb, r⟩
  | raw P => exact (noRaw_at nr q).elim
  | dic w' kvs' => exact (noDic_at (j := j) nd (by rw [List.getElem?_set_ne hj]; exact q)).elim
/-- the dict at slot i is known for good from now on -/
theorem Sat.frzD {i : Nat} {w : World} {kvs : List (Stg × V)} (h : Sat K B ss σ F H) (e : ss[i]? = some (.dic w kvs)) (nr : noRaw ss = true) (nd : noDic (ss.set i .un) = true) : ∃ F', Sat K B (ss.set i (.fro (frP K B.C w kvs))) σ F' H ∧ Same F F' := by
  obtain ⟨d, ed, d0, dF, hD⟩ := h.slot i _ e
  obtain ⟨ep, es, hd, hq, hk⟩ := id hD
  have hi : i < ss.length := (List.getElem?_eq_some_iff.mp e).1
  have sm : Same F (L2.upd F d (dicO w d ep es)) := Same.new dF
  refine ⟨L2.upd F d (dicO w d ep es), h.retell (h.g.keep d0 dF hd) sm (fun es q => by cases q) hi ⟨.ref d, ed, fun F2 g2 => ⟨d, rfl, ep, es, g2 _ _ upd_same, hq, fun x hx => (hk x hx).mono (sm.trans g2)⟩⟩ fun j t hj q => ?_, sm⟩
  have z := h.slot j t q
  cases t with
  | un => trivial
  | dat d => obtain ⟨v, e1, r⟩ := z; exact ⟨v, e1, r.mono sm⟩
  | bor d => exact z
  | val v => exact z
  | fro P => obtain ⟨v, e1, r⟩ := z; exact ⟨v, e1, fun F2 g2 => r F2 (sm.trans g2)⟩
  | own es =>
    obtain ⟨b, vs, e1, b0, nb, hb, r⟩ := z
    exact ⟨b, vs, e1, b0, by rw [upd_ne (Ne.symm (hD.ne (nx_lst hb)))]; exact nb, hb, r.mono sm⟩
  | raw P => exact (noRaw_at nr q).elim
  | dic w' kvs' => exact (noDic_at (j := j) nd (by rw [List.getElem?_set_ne hj]; exact q)).elim
end
/-! ### judgements -/
theorem st_ref {K : PySem.W.Frag} {C : Addr} {H : Hp} {v : V} {S : Stg} (h : Rp K C H v (stD S)) : ∃ a, v = .ref a := by
  generalize hd : stD S = d at h
  cases h with
  | @tup a vs ds h1 h2 => exact ⟨a, rfl⟩
  | _ => cases hd
section
variable {X : Cx} {B : Bs} {ss : List SD} {e a b c : Expr} {es : List Expr} {pos p p2 p3 p4 : Pos} {d x y z : PyData} {ds ds' : List PyData} {rest body orelse : List Stmt} {D : Ends} {kvs : List (Stg × V)} {S : Stg}
/-- e gives a dict of these entries -/
def PDc (X : Cx) (B : Bs) (e : Expr) (ss : List SD) (kvs : List (Stg × V)) : Prop := ∀ (σ : St) (F H : Hp), Sat X.K B ss σ F H → ∀ Q : VK, (∀ d F' H', Grow F H F' H' → DicAt X.K B.C X.w F' H' d kvs → Q (.ref d) H') → tSem X e σ H Q
theorem pdc_dic (i : Nat) {x : Str} (hN : X.N[i]? = some x := by rfl) (hs : ss[i]? = some (.dic X.w kvs) := by rfl) (hv : Vis X.env.scope x := by first | exact Or.inl rfl | exact Or.inr (Or.inl rfl) | exact Or.inr (Or.inr rfl)) (hd : (x == ("__debug__" : Str)) = false := by decide)
    (hcd : (x == ("__classdict__" : Str)) = false := by decide) : PDc X B (.Name x p) ss kvs := fun σ F H s Q q => by
  obtain ⟨d, ed, d0, dF, hD⟩ := s.slot i _ hs
  exact sem_of (pe_var hN hv hd hcd) ⟨.ref d, ed, q d F H (Grow.refl s.fh) hD⟩
theorem pdc_fro (i : Nat) {x : Str} (hN : X.N[i]? = some x := by rfl) (hs : ss[i]? = some (.fro (frP X.K B.C X.w kvs)) := by rfl) (hv : Vis X.env.scope x := by first | exact Or.inl rfl | exact Or.inr (Or.inl rfl) | exact Or.inr (Or.inr rfl)) (hd : (x == ("__debug__" : Str)) = false := by decide)
    (hcd : (x == ("__classdict__" : Str)) = false := by decide) : PDc X B (.Name x p) ss kvs := fun σ F H s Q q => by
  obtain ⟨v, ev, hP⟩ := s.slot i _ hs
  obtain ⟨d, rfl, hD⟩ := hP F (Same.refl _)
  exact sem_of (pe_var hN hv hd hcd) ⟨.ref d, ev, q d F H (Grow.refl s.fh) (hD.mono (Same.refl _) (.inr s.fh))⟩
theorem pdc_prw (h : PRw X B e ss (fun _ v F _ => frP X.K B.C X.w kvs v F)) : PDc X B e ss kvs := fun σ F H s Q q => h σ F H s Q fun v F' H' g r => by
  obtain ⟨d, rfl, hD⟩ := r
  exact q d F' H' g (hD.mono (Same.refl _) (.inr g.fh))
theorem td_inDic (hu : X.A.units + 64 < cLine) (ha : PD X B a ss (stD S)) (hb : PDc X B b ss kvs) (hm : behindInMarks .In b = false := by rfl) : TD X B (.Compare a [.In] [b] pos) ss (valK kvs S).isSome := fun σ F H s Q q =>
  semT_of (pt_cmpR (op_inDic (C := B.C) hu) pe_sem pe_sem hm) (ha σ F H s _ fun v F1 H1 g1 r1 => hb σ F1 H1 (s.grow g1) _ fun d F2 H2 g2 hD => by
    obtain ⟨ep, es, hd, hq, hk⟩ := hD
    subst hq
    exact ⟨d, ep, es, S, rfl, hd, fun e he => (hk e he).mono g2.fh, (r1.mono g2.ff).mono g2.fh, _, rfl, by rw [Bool.false_bne]; exact q F2 H2 (g1.trans g2)⟩)
theorem td_notInDic (hu : X.A.units + 64 < cLine) (ha : PD X B a ss (stD S)) (hb : PDc X B b ss kvs) (hm : behindInMarks .NotIn b = false := by rfl) : TD X B (.Compare a [.NotIn] [b] pos) ss (!(valK kvs S).isSome) := fun σ F H s Q q =>
  semT_of (pt_cmpR (op_notInDic (C := B.C) hu) pe_sem pe_sem hm) (ha σ F H s _ fun v F1 H1 g1 r1 => hb σ F1 H1 (s.grow g1) _ fun d F2 H2 g2 hD => by
    obtain ⟨ep, es, hd, hq, hk⟩ := hD
    subst hq
    exact ⟨d, ep, es, S, rfl, hd, fun e he => (hk e he).mono g2.fh, (r1.mono g2.ff).mono g2.fh, _, rfl, by rw [Bool.true_bne]; exact q F2 H2 (g1.trans g2)⟩)
/-- d[k], a number -/
theorem pd_getDic {n : Int} (hu : X.A.units + 64 < cLine) (hb : PDc X B a ss kvs) (ha : PD X B b ss (stD S)) (hv : valK kvs S = some (.int n)) (hx : PlainIx b := by intro _ _; rfl) : PD X B (.Subscript a b pos) ss (.int n) := fun σ F H s Q q =>
  sem_of (pe_ix (ix_dic (C := B.C) hu) pe_sem pe_sem hx) (hb σ F H s _ fun d F1 H1 g1 hD => ha σ F1 H1 (s.grow g1) _ fun v F2 H2 g2 r2 => by
    obtain ⟨ep, es, hd, hq, hk⟩ := hD.mono g2.ff (.inr g2.hh)
    subst hq
    exact ⟨d, ep, es, S, .int n, rfl, hd, fun e he => (hk e he).mono g2.fh, r2.mono g2.fh, hv, q _ F2 H2 (g1.trans g2) (.int n)⟩)
/-- d[k] = v, a new key -/
theorem go_setDic (i : Nat) {x : Str} {vv : V} (cx : Cxt X) (hs0 : ss[i]? = some (.dic X.w kvs)) (he : PD X B e ss d) (hk : PD X B a ss (stD S)) (hn : valK kvs S = none) (hz : kvs.length < sizeLine) (h : Go X B rest (ss.set i (.dic X.w (kvs ++ [(S, vv)]))) D)
    (hy : ∀ {F : Hp} {v : V}, Rp X.K B.C F v d → v = vv := by intro _ _ r; cases r; rfl) (nr : noRaw ss = true := by rfl) (nd : noDic (ss.set i .un) = true := by rfl)
    (hps : ∀ (u : X.A.units + 64 < cLine), PS X (.Assign [.Subscript (.Name x p) a p2] e pos) (tAsg (tSem X e) (gSub (tVar i) (tSem X a) (rDicSet X B.C))) := by intro u; exact ps_asg pe_sem (pg_sub (pe_var (by rfl) (by first | exact Or.inl rfl | exact Or.inr (Or.inl rfl) | exact Or.inr (Or.inr rfl)) (by decide) (by decide)) pe_sem (set_dic u))) :
    Go X B (.Assign [.Subscript (.Name x p) a p2] e pos :: rest) ss D :=
  go_step (hps cx.u64) fun σ F H s => he σ F H s _ fun v F1 H1 g1 r1 => by
    obtain ⟨q, ea, d0, dF, hD⟩ := (s.grow g1).slot i _ hs0
    obtain rfl := hy r1
    refine ⟨_, ea, hk σ F1 H1 (s.grow g1) _ fun u F2 H2 g2 r2 => ?_⟩
    obtain ⟨t, rfl⟩ := st_ref r2
    obtain ⟨ep, es, hd, hq, hke⟩ := hD.mono g2.ff (.inr g2.hh)
    have hq' : esK es = kvs := hq
    refine ⟨q, ep, es, S, t, rfl, rfl, hd, fun e he => (hke e he).mono g2.fh, r2.mono g2.fh, by rw [hq']; exact hn, ?_, fun ep' => ?_⟩
    · have : es.length = kvs.length := by rw [← hq', esK, List.length_map]
      omega
    · refine h σ F2 _ ((s.grow (g1.trans g2)).putD hs0 ea nr nd ?_ fun e he => ?_)
      · rw [esK, List.map_append, ← hq']; rfl
      · rcases List.mem_append.mp he with he | he
        · exact hke e he
        · rw [List.mem_singleton.mp he]; exact r2
/-- x = {} -/
theorem go_asgDic0 (i : Nat) {x : Str} (hN : X.N.Nodup) (h : Go X B rest (ss.set i (.dic X.w [])) D) (hi : X.N[i]? = some x := by rfl) (hx : Loc X.env.scope x := by first | exact Or.inl rfl | exact Or.inr rfl) (hs : swapsWith (.Dict [] [] p2) (some (.Name x p)) pos.line X.env = pure false := by rfl)
    (hf : X.fn x = true ∨ X.env.scope.names.lookup x = some .local := by first | exact .inl rfl | exact .inr rfl) : Go X B (.Assign [.Name x p] (.Dict [] [] p2) pos :: rest) ss D :=
  go_step (ps_set hN hi hx pe_dicNew hs hf) fun σ F H s => fun d hd => by
    have g := Grow.newO (o := dicO X.w d 0 []) s.fh hd
    exact h _ F _ ((s.grow g).set_gen (fun es q => by cases q) ⟨d, rfl, s.g.hh.free hd, s.fh.free hd, 0, [], upd_same, rfl, fun e he => by cases he⟩)
/-- x = {k: v} -/
theorem go_asgDic1 (i : Nat) {x : Str} {vv : V} (cx : Cxt X) (hk : PD X B a ss (stD S)) (hv : PD X B b ss d) (h : Go X B rest (ss.set i (.dic X.w [(S, vv)])) D) (hy : ∀ {F : Hp} {v : V}, Rp X.K B.C F v d → v = vv := by intro _ _ r; cases r; rfl)
    (nr : noRaw (ss.set i (.dic X.w [])) = true := by rfl) (hlt : i < ss.length := by exact Nat.le_of_ble_eq_true rfl) (nd : noDic (ss.set i .un) = true := by rfl) (hi : X.N[i]? = some x := by rfl) (hx : Loc X.env.scope x := by first | exact Or.inl rfl | exact Or.inr rfl) (hs : swapsWith (.Dict [some a] [b] p2) (some (.Name x p)) pos.line X.env = pure false := by rfl)
    (hf : X.fn x = true ∨ X.env.scope.names.lookup x = some .local := by first | exact .inl rfl | exact .inr rfl) : Go X B (.Assign [.Name x p] (.Dict [some a] [b] p2) pos :: rest) ss D :=
  go_step (ps_set cx.nd hi hx (pe_dic1 (C := B.C) cx.u64 pe_sem pe_sem) hs hf) fun σ F H s => fun q hq => by
    have g := Grow.newO (o := dicO X.w q 0 []) s.fh hq
    refine hk σ F _ (s.grow g) _ fun u F1 H1 g1 r1 => hv σ F1 H1 (s.grow (g.trans g1)) _ fun v F2 H2 g2 r2 => ?_
    obtain ⟨t, rfl⟩ := st_ref r1
    obtain rfl := hy r2
    have gg := (g.trans g1).trans g2
    have hd : H2 q = some (dicO X.w q 0 []) := (g1.trans g2).hh _ _ upd_same
    have fq : F2 q = none := (g1.trans g2).own q _ upd_same (s.fh.free hq)
    have sat := (s.grow gg).set_gen (i := i) (v := .ref q) (sd := .dic X.w []) (fun es q => by cases q) ⟨q, rfl, s.g.hh.free hq, fq, 0, [], hd, rfl, fun e he => by cases he⟩
    refine ⟨S, t, rfl, hd, (r1.mono g2.ff).mono g2.fh, fun ep => ?_⟩
    have hiσ : i < σ.length := by rw [s.len]; exact hlt
    have hie : (ss.set i (.dic X.w []))[i]? = some (SD.dic X.w []) := List.getElem?_set_self (by rw [← s.len]; exact hiσ)
    have r := sat.putD (ep := ep) (kvs' := [(S, v)]) (es' := [(S, t, v)]) hie (List.getElem?_set_self hiσ) nr (by rw [List.set_set]; exact nd) rfl (fun e he => by rw [List.mem_singleton.mp he]; exact r1.mono g2.ff)
    rw [List.set_set] at r
    exact h _ F2 _ r
/-- x = f(..), a dict -/
theorem go_asgFro (i : Nat) {x : Str} (hN : X.N.Nodup) (he : PRw X B e ss (fun _ v F _ => frP X.K B.C X.w kvs v F)) (h : Go X B rest (ss.set i (.fro (frP X.K B.C X.w kvs))) D) (hi : X.N[i]? = some x := by rfl) (hx : Loc X.env.scope x := by first | exact Or.inl rfl | exact Or.inr rfl) (hs : swapsWith e (some (.Name x p)) pos.line X.env = pure false := by rfl)
    (hf : X.fn x = true ∨ X.env.scope.names.lookup x = some .local := by first | exact .inl rfl | exact .inr rfl) : Go X B (.Assign [.Name x p] e pos :: rest) ss D :=
  go_step (ps_set hN hi hx pe_sem hs hf) fun σ F H s => he σ F H s _ fun v F1 H1 g r => h _ F1 H1 ((s.grow g).set_gen (fun es q => by cases q) ⟨v, rfl, fun F2 g2 => frP_mono r g2⟩)
theorem go_frzD {l : List Stmt} (i : Nat) (hs : ss[i]? = some (.dic X.w kvs)) (h : Go X B l (ss.set i (.fro (frP X.K B.C X.w kvs))) D) (nr : noRaw ss = true := by rfl) (nd : noDic (ss.set i .un) = true := by rfl) : Go X B l ss D := fun σ F H s => by
  obtain ⟨F', s', _⟩ := s.frzD hs nr nd
  exact h σ F' H s'
/-- return x, a dict known for good -/
theorem go_retFro (i : Nat) {x : Str} (hs : ss[i]? = some (.fro (frP X.K B.C X.w kvs))) (k : ∀ v F H, Grow B.F0 B.H0 F H → frP X.K B.C X.w kvs v F → D.rt v H) (hN : X.N[i]? = some x := by rfl) (hv : Vis X.env.scope x := by first | exact Or.inl rfl | exact Or.inr (Or.inl rfl) | exact Or.inr (Or.inr rfl)) (hd : (x == ("__debug__" : Str)) = false := by decide)
    (hcd : (x == ("__classdict__" : Str)) = false := by decide) : Go X B (.Return (some (.Name x p)) pos :: rest) ss D :=
  go_step (ps_ret (pe_var hN hv hd hcd)) fun σ F H s => by
    obtain ⟨v, ev, hP⟩ := s.slot i _ hs
    exact ⟨v, ev, k v F H s.g (hP F (Same.refl _))⟩
/-- sorted(d), sorted(xs) -/
theorem pn_sortDic (cx : Cxt X) (ha : PDc X B e ss kvs) (ok : SrtOk (kvs.map fun q => stD q.1)) (hm : X.mg "sorted" = none) (hv : bootBuiltins "sorted" = some (.builtin "sorted") := by decide +kernel) (hg : Gl X "sorted" := by rfl) (hn : NSt X e := by intro _; rfl) :
    PN X B (.Call (.Name "sorted" p) [e] [] pos) ss (srtD (kvs.map fun q => stD q.1)) := fun σ F H s Q q =>
  sem_of (pe_callB (cr_sortDic (C := B.C) cx.calm cx.u64) hg hm hv (pa_cons pe_sem pa_nil (hn [])) (by decide) (by decide) (hn []) rfl) (ha σ F H s _ fun d F1 H1 g hD => by
    obtain ⟨ep, es, hd, hq, hk⟩ := hD
    subst hq
    rw [List.map_map] at ok q
    exact ⟨d, ep, es, F1, rfl, hd, g.fh, hk, ok, fun t ws ht r => q t ws F1 _ (g.trans (Grow.newO g.fh ht)) (g.hh.free ht) (g.fh.free ht) upd_same r⟩)
theorem pn_sortD (cx : Cxt X) (ha : PLi X B e ss ds) (ok : SrtOk ds) (hm : X.mg "sorted" = none) (hv : bootBuiltins "sorted" = some (.builtin "sorted") := by decide +kernel) (hg : Gl X "sorted" := by rfl) (hn : NSt X e := by intro _; rfl) :
    PN X B (.Call (.Name "sorted" p) [e] [] pos) ss (srtD ds) := fun σ F H s Q q =>
  sem_of (pe_callB (cr_sortD (C := B.C) cx.u64) hg hm hv (pa_cons pe_sem pa_nil (hn [])) (by decide) (by decide) (hn []) rfl) (ha σ F H s _ fun a vs F1 H1 g sq r => ⟨a, vs, ds, F1, rfl, sq, g.fh, r, ok, fun t ws ht r2 => q t ws F1 _ (g.trans (Grow.newO g.fh ht)) (g.hh.free ht) (g.fh.free ht) upd_same r2⟩)
/-- return (a, [..]) -/
theorem go_retTN {k1 : Nat} (ha : PD X B a ss d) (he : PN X B e ss ds) (k : ∀ v F H, Grow B.F0 B.H0 F H → tolP X.K B.C 2 1 0 ds d B.H0 v F H → D.rt v H) (n1 : NSt X a := by intro _; rfl) (n2 : NSt X e := by intro _; rfl) : Go X B (.Return (some (.Tuple [a, e] k1 p3)) pos :: rest) ss D :=
  go_step (ps_ret (pe_tup (pa_cons pe_sem (pa_cons pe_sem pa_nil (n2 [])) (n1 [e])))) fun σ F H s => ha σ F H s _ fun v F1 H1 g1 r1 => he σ F1 H1 (s.grow g1) _ fun l ws F2 H2 g2 nn nf h2 r2 => ⟨Nat.le_of_ble_eq_true rfl, fun t ht => by
    have g3 := Grow.new (o := .tup [v, .ref l]) g2.fh ht
    exact k _ _ _ (((s.g.trans g1).trans g2).trans g3) ⟨t, l, [v, .ref l], ws, v, rfl, SqT.of upd_same, rfl, rfl, rfl, (s.g.trans g1).hh.free nn, g3.own l _ h2 nf, g3.hh l _ h2, r2.mono g3.ff, r1.mono (g2.ff.trans g3.ff)⟩⟩
/-- return (a, x), x a list of its own -/
theorem go_retTO {k1 : Nat} (i : Nat) {x : Str} (ha : PD X B a ss d) (hs : ss[i]? = some (.own ds)) (k : ∀ v F H, Grow B.F0 B.H0 F H → tolP X.K B.C 2 1 0 ds d B.H0 v F H → D.rt v H) (n1 : NSt X a := by intro _; rfl) (n2 : NSt X (.Name x p) := by intro _; rfl)
    (hN : X.N[i]? = some x := by rfl) (hv : Vis X.env.scope x := by first | exact Or.inl rfl | exact Or.inr (Or.inl rfl) | exact Or.inr (Or.inr rfl)) (hd : (x == ("__debug__" : Str)) = false := by decide) (hcd : (x == ("__classdict__" : Str)) = false := by decide) : Go X B (.Return (some (.Tuple [a, .Name x p] k1 p3)) pos :: rest) ss D :=
  go_step (ps_ret (pe_tup (pa_cons pe_sem (pa_cons (pe_var hN hv hd hcd) pa_nil (n2 [])) (n1 [.Name x p])))) fun σ F H s => ha σ F H s _ fun v F1 H1 g1 r1 => by
    obtain ⟨l, ws, el, l0, nf, hl, r⟩ := (s.grow g1).slot i _ hs
    refine ⟨_, el, Nat.le_of_ble_eq_true rfl, fun t ht => ?_⟩
    have g3 := Grow.new (o := .tup [v, .ref l]) g1.fh ht
    exact k _ _ _ ((s.g.trans g1).trans g3) ⟨t, l, [v, .ref l], ws, v, rfl, SqT.of upd_same, rfl, rfl, rfl, l0, g3.own l _ hl nf, g3.hh l _ hl, r.mono g3.ff, r1.mono g3.ff⟩
theorem alike_rows : ∀ S T : Stg, alikeAll (S.map fun r => .tuple (r.map .int)) (T.map fun r => .tuple (r.map .int)) = true
  | [], _ => by simp [alikeAll]
  | _ :: _, [] => by simp [alikeAll]
  | x :: S, y :: T => by
    rw [List.map_cons, List.map_cons, alikeAll, alike_rows S T]
    simp [alike, alike_ints]
theorem alike_st (S T : Stg) : alike (stD S) (stD T) = true := by
  show alikeAll _ _ = true
  exact alike_rows S T
theorem srtOk_st {l : List Stg} (h : ∀ S ∈ l, S ≠ []) : SrtOk (l.map stD) where
  al := fun d hd d' hd' => by
    obtain ⟨S, _, rfl⟩ := List.mem_map.mp hd
    obtain ⟨T, _, rfl⟩ := List.mem_map.mp hd'
    exact alike_st S T
  so := .inl fun d hd => by
    obtain ⟨S, hS, rfl⟩ := List.mem_map.mp hd
    cases S with
    | nil => exact absurd rfl (h [] hS)
    | cons r S => exact ⟨_, _, rfl⟩
  pl := fun d hd => by
    obtain ⟨S, hS, rfl⟩ := List.mem_map.mp hd
    exact (Pl.tup (n := 1) (Pl.map fun r _ => Pl.tup (n := 0) (Pl.map fun _ _ => .int))).mono (by decide)
end
end G

namespace G
open PySem L2
/-! ### rows of numbers and a row of texts, all of one's own, both growing -/
structure RS (H0 : Hp) (S : List (List Int)) (ys : List Str) (aa c : Addr) (as : List Addr) (F H : Hp) : Prop where
  ra : RowsAt H0 S aa as F H
  c1 : c ≠ aa
  c2 : c ∉ as
  c0 : H0 c = none
  cF : F c = none
  cH : H c = some (.lst (ys.map V.str))
theorem RS.grow {H0 F H F' H' : Hp} {S : List (List Int)} {ys : List Str} {aa c : Addr} {as : List Addr} (h : RS H0 S ys aa c as F H) (g : Grow F H F' H') : RS H0 S ys aa c as F' H' :=
  ⟨h.ra.grow g, h.c1, h.c2, h.c0, g.own c _ h.cH h.cF, g.hh c _ h.cH⟩
def rsP (H0 : Hp) (S : List (List Int)) (ys : List Str) (c : Addr) : V → Hp → Hp → Prop := fun v F H => ∃ aa as, v = .ref aa ∧ RS H0 S ys aa c as F H
section
variable {X : Cx} {B : Bs} {ss ss' : List SD} {e a b : Expr} {es : List Expr} {pos p p2 p3 p4 p5 p6 p7 : Pos} {d x y z : PyData} {ds ds' : List PyData} {rest body orelse : List Stmt} {st : Stmt} {D : Ends} {S S' : List (List Int)} {ys ys' : List Str} {c : Addr}
theorem set_same {σ : St} {i : Nat} {v : V} (h : σ[i]? = some (some v)) : σ.set i (some v) = σ := by
  apply List.ext_getElem?
  intro k
  by_cases hk : i = k
  · subst hk
    rw [List.getElem?_set_self (List.getElem?_eq_some_iff.mp h).1, h]
  · rw [List.getElem?_set_ne hk]
theorem Sat.reraw {K : PySem.W.Frag} {σ : St} {F H : Hp} {i : Nat} {v : V} {P' : V → Hp → Hp → Prop} (h : Sat K B ss σ F H) (ev : σ[i]? = some (some v)) (hP : ∀ F' H', Grow F H F' H' → P' v F' H') : Sat K B (ss.set i (.raw P')) σ F H := by
  have w := h.set_raw (i := i) (v := v) (P := P') hP
  rwa [set_same ev] at w
theorem Sat.rsPut {K : PySem.W.Frag} {σ : St} {F H : Hp} {i : Nat} {aa t : Addr} {as' : List Addr} {o : HO} {vs : List V} (h : Sat K B ss σ F H) (ev : σ[i]? = some (some (.ref aa))) (t0 : B.H0 t = none) (tF : F t = none) (tH : H t = some (.lst vs)) (r : RS B.H0 S' ys' aa c as' F (L2.upd H t o))
    (nr : noRaw (ss.set i .un) = true) (no : noOwn (ss.set i .un) = true) : Sat K B (ss.set i (.raw (rsP B.H0 S' ys' c))) σ F (L2.upd H t o) := by
  have u := (h.unset i).upd (o := o) t0 tF nr (fun k es q => (noOwn_at no q).elim) (nx_lst tH)
  have w := u.reraw (i := i) (v := .ref aa) (P' := rsP B.H0 S' ys' c) ev fun F2 H2 g2 => ⟨aa, as', rfl, r.grow g2⟩
  rwa [List.set_set] at w
/-- rows = [[]] -/
theorem go_rows0 (i : Nat) {x : Str} (cx : Cxt X) (h : Go X B rest (ss.set i (.raw (rowsP B.H0 [[]]))) D) (hi : X.N[i]? = some x := by rfl) (hx : Loc X.env.scope x := by first | exact Or.inl rfl | exact Or.inr rfl) (hs : swapsWith (.List [.List [] p2] p3) (some (.Name x p)) pos.line X.env = pure false := by rfl)
    (hf : X.fn x = true ∨ X.env.scope.names.lookup x = some .local := by first | exact .inl rfl | exact .inr rfl) (hn : NSt X (.List [] p2) := by intro _; rfl) : Go X B (.Assign [.Name x p] (.List [.List [] p2] p3) pos :: rest) ss D :=
  go_step (ps_set cx.nd hi hx (pe_lst (pa_cons (pe_lst pa_nil) pa_nil (hn []))) hs hf) fun σ F H s => ⟨Nat.zero_le _, fun l hl => ⟨Nat.le_of_ble_eq_true rfl, fun aa ha => by
    have g1 := Grow.newO (F := F) (o := .lst []) s.fh hl
    have g2 := Grow.newO (o := .lst [V.ref l]) g1.fh ha
    have g := g1.trans g2
    have la : l ≠ aa := fun e => by subst e; rw [upd_same] at ha; cases ha
    refine h _ F _ ((s.grow g).set_raw fun F2 H2 g3 => ⟨aa, [l], rfl, RowsAt.grow ⟨(s.g.hh.trans g1.hh).free ha, g1.fh.free ha, upd_same, rfl, List.nodup_cons.mpr ⟨by simp, List.nodup_nil⟩, fun j m r e1 e2 => ?_⟩ g3⟩)
    match j, e1, e2 with
    | 0, e1, e2 =>
      cases Option.some.inj e1
      cases Option.some.inj e2
      exact ⟨la, s.g.hh.free hl, s.fh.free hl, by rw [upd_ne la, upd_same]; rfl⟩
    | j + 1, e1, _ => simp at e1⟩⟩
/-- seen = [] -/
theorem go_seen0 (i j : Nat) {x : Str} (hij : i ≠ j) (hlt : i < ss.length) (cx : Cxt X) (hs0 : ss[i]? = some (.raw (rowsP B.H0 S))) (h : ∀ c, Go X B rest ((ss.set j (.val (.ref c))).set i (.raw (rsP B.H0 S [] c))) D) (hi : X.N[j]? = some x := by rfl) (hx : Loc X.env.scope x := by first | exact Or.inl rfl | exact Or.inr rfl) (hs : swapsWith (.List [] p2) (some (.Name x p)) pos.line X.env = pure false := by rfl)
    (hf : X.fn x = true ∨ X.env.scope.names.lookup x = some .local := by first | exact .inl rfl | exact .inr rfl) : Go X B (.Assign [.Name x p] (.List [] p2) pos :: rest) ss D :=
  go_step (ps_set cx.nd hi hx (pe_lst pa_nil) hs hf) fun σ F H s => ⟨Nat.zero_le _, fun c hc => by
    obtain ⟨v, ev, hP⟩ := s.slot i _ hs0
    obtain ⟨aa, as, rfl, ra⟩ := hP F H (Grow.refl s.fh)
    have g := Grow.newO (F := F) (o := .lst []) s.fh hc
    have ca : c ≠ aa := fun e => by rw [e, ra.at_] at hc; cases hc
    have cs : c ∉ as := fun hm => by
      obtain ⟨k, hk, e⟩ := List.mem_iff_getElem.mp hm
      obtain ⟨l', q1, _, _, _, q5⟩ := ra.get (j := k) (by rw [← ra.len]; exact hk)
      rw [List.getElem?_eq_getElem hk, e] at q1
      cases q1
      rw [hc] at q5; cases q5
    have sv := (s.grow g).set_val (i := j) (v := .ref c)
    have ev2 : (σ.set j (some (V.ref c)))[i]? = some (some (.ref aa)) := by rw [List.getElem?_set_ne (Ne.symm hij)]; exact ev
    exact h c _ F _ (sv.reraw ev2 fun F2 H2 g2 => ⟨aa, as, rfl, RS.grow ⟨ra.grow g, ca, cs, s.g.hh.free hc, s.fh.free hc, upd_same⟩ g2⟩)⟩
/-- seen.append(e) -/
theorem go_rsSeen (i j : Nat) {x : Str} {z : Str} (hs0 : ss[i]? = some (.raw (rsP B.H0 S ys c))) (hs1 : ss[j]? = some (.val (.ref c))) (he : PD X B e ss (.str z)) (hz : ys.length < sizeLine) (h : Go X B rest (ss.set i (.raw (rsP B.H0 S (ys ++ [z]) c))) D) (nr : noRaw (ss.set i .un) = true := by rfl) (no : noOwn (ss.set i .un) = true := by rfl)
    (hpe : PE X (.Call (.Attribute (.Name x p) "append" p2) [e] [] p3) (tBM X.K "list" rAppend (tVar j) (tCons (tSem X e) tNil)) := by exact pe_bm PySem.F.plainAttrs_list PySem.F.slot_list_append PySem.F.type_list_append mt_append (pe_var (by rfl) (by first | exact Or.inl rfl | exact Or.inr (Or.inl rfl) | exact Or.inr (Or.inr rfl)) (by decide) (by decide)) (pa_cons pe_sem pa_nil))
    (hs : swapsWith (.Call (.Attribute (.Name x p) "append" p2) [e] [] p3) none p4.line X.env = pure false := by rfl) : Go X B (.Expr (.Call (.Attribute (.Name x p) "append" p2) [e] [] p3) p4 :: rest) ss D :=
  go_step (ps_expr hpe hs) fun σ F H s => by
    have ej : σ[j]? = some (some (.ref c)) := s.slot j _ hs1
    obtain ⟨v, ev, hP⟩ := s.slot i _ hs0
    obtain ⟨aa, as, rfl, r⟩ := hP F H (Grow.refl s.fh)
    refine ⟨.ref c, ej, .inl ⟨rfl, _, SqL.of r.cH⟩, he σ F H s _ fun w F1 H1 g r1 => ?_⟩
    cases r1
    have r2 := r.grow g
    refine ⟨c, ys.map V.str, .str z, rfl, rfl, r2.cH, by rw [List.length_map]; exact hz, ?_⟩
    refine h σ F1 _ ((s.grow g).rsPut (as' := as) ev r2.c0 r2.cF r2.cH ⟨⟨r2.ra.o0, r2.ra.of_, by rw [upd_ne (Ne.symm r2.c1)]; exact r2.ra.at_, r2.ra.len, r2.ra.nd, fun k l q e1 e2 => ?_⟩, r2.c1, r2.c2, r2.c0, r2.cF, by rw [upd_same, List.map_append]; rfl⟩ nr no)
    obtain ⟨q1, q2, q3, q4⟩ := r2.ra.row k l q e1 e2
    exact ⟨q1, q2, q3, by rw [upd_ne (fun z => r2.c2 (by rw [← z]; exact List.mem_of_getElem? e1))]; exact q4⟩
/-- rows.append([]) -/
theorem go_rsNew (i : Nat) {x : Str} (hs0 : ss[i]? = some (.raw (rsP B.H0 S ys c))) (hz : S.length < sizeLine) (h : Go X B rest (ss.set i (.raw (rsP B.H0 (S ++ [[]]) ys c))) D) (nr : noRaw (ss.set i .un) = true := by rfl) (no : noOwn (ss.set i .un) = true := by rfl)
    (hpe : PE X (.Call (.Attribute (.Name x p) "append" p2) [.List [] p5] [] p3) (tBM X.K "list" rAppend (tVar i) (tCons (tLst tNil) tNil)) := by exact pe_bm PySem.F.plainAttrs_list PySem.F.slot_list_append PySem.F.type_list_append mt_append (pe_var (by rfl) (by first | exact Or.inl rfl | exact Or.inr (Or.inl rfl) | exact Or.inr (Or.inr rfl)) (by decide) (by decide)) (pa_cons (pe_lst pa_nil) pa_nil))
    (hs : swapsWith (.Call (.Attribute (.Name x p) "append" p2) [.List [] p5] [] p3) none p4.line X.env = pure false := by rfl) : Go X B (.Expr (.Call (.Attribute (.Name x p) "append" p2) [.List [] p5] [] p3) p4 :: rest) ss D :=
  go_step (ps_expr hpe hs) fun σ F H s => by
    obtain ⟨v, ev, hP⟩ := s.slot i _ hs0
    obtain ⟨aa, as, rfl, r⟩ := hP F H (Grow.refl s.fh)
    refine ⟨.ref aa, ev, .inl ⟨rfl, _, SqL.of r.ra.at_⟩, Nat.zero_le _, fun l hl => ?_⟩
    have g := Grow.newO (F := F) (o := .lst []) s.fh hl
    have r2 := r.grow g
    have cl : c ≠ l := fun e => by rw [← e, r.cH] at hl; cases hl
    refine ⟨aa, as.map V.ref, .ref l, rfl, rfl, r2.ra.at_, by rw [List.length_map, r.ra.len]; exact hz, ?_⟩
    refine h σ F _ ((s.grow g).rsPut (as' := as ++ [l]) ev r2.ra.o0 r2.ra.of_ r2.ra.at_ ⟨r.ra.more g (s.g.hh.free hl) hl (s.fh.free hl) upd_same, r2.c1, fun z => ?_, r2.c0, r2.cF, by rw [upd_ne r2.c1]; exact r2.cH⟩ nr no)
    rcases List.mem_append.mp z with z | z
    · exact r.c2 z
    · exact cl (List.mem_singleton.mp z)
/-- rows[k].append(e) -/
theorem go_rsApp (i : Nat) {x : Str} {k n : Int} {j : Nat} (hs0 : ss[i]? = some (.raw (rsP B.H0 S ys c))) (hb : PD X B b ss (.int k)) (hj : ixN S.length k = some j) (he : PD X B e ss (.int n)) (hz : (S.getD j []).length < sizeLine) (h : Go X B rest (ss.set i (.raw (rsP B.H0 (S.set j (S.getD j [] ++ [n])) ys c))) D) (nr : noRaw (ss.set i .un) = true := by rfl) (no : noOwn (ss.set i .un) = true := by rfl)
    (hN : X.N[i]? = some x := by rfl) (hv : Vis X.env.scope x := by first | exact Or.inl rfl | exact Or.inr (Or.inl rfl) | exact Or.inr (Or.inr rfl)) (hd : (x == ("__debug__" : Str)) = false := by decide) (hcd : (x == ("__classdict__" : Str)) = false := by decide) (hx : PlainIx b := by intro _ _; rfl)
    (hpe : ∀ {t : TE}, PE X (.Subscript (.Name x p) b p2) t → PE X (.Call (.Attribute (.Subscript (.Name x p) b p2) "append" p3) [e] [] p4) (tBM X.K "list" rAppend t (tCons (tSem X e) tNil)) := by intro _ ht; exact pe_bm PySem.F.plainAttrs_list PySem.F.slot_list_append PySem.F.type_list_append mt_append ht (pa_cons pe_sem pa_nil))
    (hsw : swapsWith (.Call (.Attribute (.Subscript (.Name x p) b p2) "append" p3) [e] [] p4) none p5.line X.env = pure false := by rfl) : Go X B (.Expr (.Call (.Attribute (.Subscript (.Name x p) b p2) "append" p3) [e] [] p4) p5 :: rest) ss D :=
  go_step (ps_expr (hpe (pe_ix ix_seq (pe_var hN hv hd hcd) pe_sem hx)) hsw) fun σ F H s => by
    obtain ⟨v, ev, hP⟩ := s.slot i _ hs0
    refine ⟨v, ev, hb σ F H s _ fun w F1 H1 g1 r1 => ?_⟩
    cases r1
    obtain ⟨aa, as, rfl, r⟩ := hP F1 H1 g1
    have hjS : j < S.length := (ixN_seq hj).2.1
    obtain ⟨l, e1, _, _, _, hl⟩ := r.ra.get hjS
    refine .inl ⟨aa, as.map V.ref, k, .ref l, rfl, rfl, SqL.of r.ra.at_, by unfold atI; rw [List.length_map, r.ra.len, hj]; show (as.map V.ref)[j]? = _; rw [List.getElem?_map, e1]; rfl, .inl ⟨rfl, _, SqL.of hl⟩, he σ F1 H1 (s.grow g1) _ fun w2 F2 H2 g2 r2 => ?_⟩
    cases r2
    have r3 := r.grow g2
    obtain ⟨l', e2, n1, n2, n3, hl3⟩ := r3.ra.get hjS
    rw [e1] at e2
    cases e2
    refine ⟨l, (S.getD j []).map V.int, .int n, rfl, rfl, hl3, by rw [List.length_map]; exact hz, ?_⟩
    have e4 : (S.getD j []).map V.int ++ [V.int n] = (S.getD j [] ++ [n]).map V.int := by rw [List.map_append]; rfl
    rw [e4]
    exact h σ F2 _ ((s.grow (g1.trans g2)).rsPut (as' := as) ev n2 n3 hl3 ⟨r3.ra.put e1, r3.c1, r3.c2, r3.c0, r3.cF, by rw [upd_ne (fun z => r3.c2 (by rw [z]; exact List.mem_of_getElem? e1))]; exact r3.cH⟩ nr no)
/-- both are known for good from now on -/
theorem go_rsFrz {l : List Stmt} (i j : Nat) (hij : i ≠ j) (hlj : j < ss.length) (hs0 : ss[i]? = some (.raw (rsP B.H0 S ys c))) (hs1 : ss[j]? = some (.val (.ref c))) (h : Go X B l ((ss.set j (.dat (.list (ys.map .str)))).set i (.raw (rowsP B.H0 S))) D) (nr : noRaw (ss.set i .un) = true := by rfl) (no : noOwn (ss.set i .un) = true := by rfl) (nd : noDic (ss.set i .un) = true := by rfl) : Go X B l ss D := fun σ F H s => by
  have ej : σ[j]? = some (some (.ref c)) := s.slot j _ hs1
  obtain ⟨v, ev, hP⟩ := s.slot i _ hs0
  obtain ⟨aa, as, rfl, r⟩ := hP F H (Grow.refl s.fh)
  have sm : Same F (L2.upd F c (.lst (ys.map V.str))) := Same.new r.cF
  have fh : Same (L2.upd F c (.lst (ys.map V.str))) H := fun b o q => by
    by_cases hb : b = c
    · subst hb; rw [upd_same] at q; rw [r.cH]; exact q
    · rw [upd_ne hb] at q; exact s.fh b o q
  have g' := s.g.keep r.c0 r.cF r.cH
  have u := s.unset i
  have u' : Sat X.K B (ss.set i .un) σ (L2.upd F c (.lst (ys.map V.str))) H := by
    refine ⟨g', s.pin.trans sm, u.len, fun k sd q => ?_, u.ne⟩
    have z := u.slot k sd q
    cases sd with
    | un => trivial
    | dat d => obtain ⟨v, e1, r⟩ := z; exact ⟨v, e1, r.mono sm⟩
    | bor d => exact z
    | val v => exact z
    | fro P => obtain ⟨v, e1, r⟩ := z; exact ⟨v, e1, fun F2 g2 => r F2 (sm.trans g2)⟩
    | dic w kvs => exact (noDic_at nd q).elim
    | own es => exact (noOwn_at no q).elim
    | raw P => exact (noRaw_at nr q).elim
  have w := u'.set_dat (i := j) (v := .ref c) (d := .list (ys.map .str)) (.lst upd_same ((strs_rp ys)))
  rw [set_same ej] at w
  have w2 := w.reraw (i := i) (v := .ref aa) (P' := rowsP B.H0 S) ev fun F2 H2 g2 => ⟨aa, as, rfl, RowsAt.grow ⟨r.ra.o0, by rw [upd_ne (Ne.symm r.c1)]; exact r.ra.of_, r.ra.at_, r.ra.len, r.ra.nd, fun k l q e1 e2 => by
    obtain ⟨q1, q2, q3, q4⟩ := r.ra.row k l q e1 e2
    exact ⟨q1, q2, by rw [upd_ne (fun z => r.c2 (by rw [← z]; exact List.mem_of_getElem? e1))]; exact q3, q4⟩⟩ g2⟩
  have e : ((ss.set i .un).set j (.dat (.list (ys.map .str)))).set i (.raw (rowsP B.H0 S)) = (ss.set j (.dat (.list (ys.map .str)))).set i (.raw (rowsP B.H0 S)) := by
    rw [List.set_comm _ _ hij, List.set_set]
  rw [e] at w2
  exact h σ _ H w2
/-- len(rows), while the texts are there -/
theorem pd_lenRs (i : Nat) {x : Str} (hs : ss[i]? = some (.raw (rsP B.H0 S ys c))) (hm : X.mg "len" = none) (hN : X.N[i]? = some x := by rfl) (hv : Vis X.env.scope x := by first | exact Or.inl rfl | exact Or.inr (Or.inl rfl) | exact Or.inr (Or.inr rfl)) (hd : (x == ("__debug__" : Str)) = false := by decide)
    (hcd : (x == ("__classdict__" : Str)) = false := by decide) (hg : Gl X "len" := by rfl) (hn : NSt X (.Name x p2) := by intro _; rfl) : PD X B (.Call (.Name "len" p) [.Name x p2] [] pos) ss (.int (S.length : Int)) := fun σ F H s Q q => by
  obtain ⟨v, ev, hP⟩ := s.slot i _ hs
  obtain ⟨aa, as, rfl, r⟩ := hP F H (Grow.refl s.fh)
  exact sem_of (pe_callB call_len_seq hg hm PySem.boot_len (pa_cons (pe_var hN hv hd hcd) pa_nil (hn [])) (by decide) (by decide) (hn []) rfl) ⟨_, ev, ⟨aa, as.map V.ref, rfl, .inl (SqL.of r.ra.at_), q _ F H (Grow.refl s.fh) (by rw [List.length_map, r.ra.len]; exact .int _)⟩⟩
end
end G

namespace G
open PySem PySem.Spec PyProof.Rows L2
/-! ### an exception that leaves a comprehension -/
theorem note_congr {e : Value} {x y : Env} (h : x.frame = y.frame) : noteFrame e x = noteFrame e y := by
  unfold noteFrame PySem.frameOf
  rw [h]
theorem ff_to {B B2 h h2 : Heap} : ∀ {l : List Env}, h.FunFrames B l → (∀ L ∈ frs l, B2.get? L = none ∧ ∀ o, h.get? L = some o → h2.get? L = some o) → h2.FunFrames B2 l
  | [], _, _ => trivial
  | env :: l, z, k => by
    obtain ⟨hk, ⟨L, o, hf, _, ho, hd⟩, hr⟩ := z
    have m := k L (List.mem_filterMap.mpr ⟨env, List.mem_cons_self, hf⟩)
    exact ⟨hk, ⟨L, o, hf, m.1, m.2 o ho, hd⟩, ff_to hr fun b hb => k b (by
      obtain ⟨e, he, q⟩ := List.mem_filterMap.mp hb
      exact List.mem_filterMap.mpr ⟨e, List.mem_cons_of_mem _ he, q⟩)⟩
/-- behind a comprehension's block -/
abbrev postX (M : Model) (A : Around) (E : Value → Shared → Prop) (Q : Value → Shared → Prop) (acc : Value) (ce : Env) (r : Result) (s' : Shared) : Prop :=
  match r with
  | .ok _ => ∃ m, s'.heap.Ns ce.locals m ∧ ∀ h', Heap.SameBut ce.locals s'.heap h' → Q acc { s' with heap := h' }
  | .error x => ∃ m, s'.heap.Ns ce.locals m ∧ ∀ h', Heap.SameBut ce.locals s'.heap h' → wpAny M A (PySem.passOn "comprehension.variables-let-go" x ce : Sem Value) (fun _ _ => False) E { s' with heap := h' }
section
variable {X : Cx} {pins : List (Addr × Obj)} {σ σ' : St} {H : Hp} {s s' : Shared} {W : WX}
theorem through (tk : Takes X W) (hs : X.stack = X.env :: X.outer) (hf : X.env.frame = some X.env.locals) (hW : ∀ cls d σ1 σ2 H, W cls d σ1 H → W cls d σ2 H) (I : Inv X pins σ H s) {u : Value} (c : CX X.prog X.w X.stack H s (fun cls d H' => W cls d σ' H') u s') {ce : Env} (hce : ce.frame = X.env.frame)
    {m : Str → Option Value} (hC : s.heap.Ns ce.locals m) (hn : H ce.locals = none) (nf : ce.locals ∉ frs X.stack) (f1 : ce.locals ∈ X.ex ∨ X.s_0.heap.objs.size ≤ ce.locals) (f2 : ce.locals ≠ X.env.locals) (f3 : ∀ x c, X.env.cells.lookup x = some c → c ≠ ce.locals) (f4 : ∀ p ∈ X.pn ++ pins, p.1 ≠ ce.locals)
    {acc : Value} {Q : Value → Shared → Prop} : notedBy (model X.prog X.w) X.A ce (fun e s2 => postX (model X.prog X.w) X.A X.xe Q acc ce (.error e) s2) u s' := by
  obtain ⟨a, B, H', cls, d, rfl, fl, hok, ub, na, os, ag, hE⟩ := c
  have hfr : X.A.frames = some (X.env :: X.outer) := by rw [I.ok.frames, hs]
  obtain ⟨oC, esC, epC, gC, dC, restC⟩ := hC
  have bC : B.get? ce.locals = some oC := ub.keep _ oC gC hn nf
  have hn' : H' ce.locals = none := ub.free _ oC gC hn
  show wpAny _ _ (noteFrame (.ref a) ce) _ _ _
  rw [note_congr hce]
  have fl2 : HandSPX.FlyingZ B (X.env :: X.outer) a (Zc cls d) s'.heap := by rw [← hs]; exact fl
  refine HandSPX.looks_onZ Zc.steady hfr hf fl2 fun h2 held up2 => ?_
  obtain ⟨st, bn, ff, oe, vs, T, oT, ts, he, hz, hd, h1, hnT, hTe, hT, hdT, h3⟩ := held
  have gC2 : h2.get? ce.locals = some oC := st _ oC bC
  refine ⟨m, ⟨oC, esC, epC, gC2, dC, restC⟩, fun h3' sb => ?_⟩
  have ca : a ≠ ce.locals := fun e => by rw [e, gC2] at he; cases he; rw [dC] at hd; cases hd
  have cT : T ≠ ce.locals := fun e => by rw [e, gC2] at hT; cases hT; rw [dC] at hdT; cases hdT
  obtain ⟨B2, hB2⟩ : ∃ B2, B2 = PySem.W.hideAll B [ce.locals] := ⟨_, rfl⟩
  have b2 : ∀ b o, B2.get? b = some o → B.get? b = some o := fun b o e => by rw [hB2] at e; exact PySem.W.of_hideAll _ e
  have b2n : B2.get? ce.locals = none := by rw [hB2]; exact PySem.W.hideAll_none _ List.mem_cons_self
  have b2c : ∀ b o, B2.get? b = some o → b ≠ ce.locals := fun b o e z => by rw [z, b2n] at e; cases e
  have tob2 : ∀ b o, B.get? b = some o → b ≠ ce.locals → B2.get? b = some o := fun b o e n => by rw [hB2]; exact PySem.W.hideAll_get _ e fun z => n (List.mem_singleton.mp z)
  have none2 : ∀ b, B.get? b = none → B2.get? b = none := fun b e => by
    cases q : B2.get? b with
    | none => rfl
    | some o => rw [b2 b o q] at e; cases e
  have held3 : HandSPX.HeldZ B2 (X.env :: X.outer) a (Zc cls d) X.env.locals h3' := by
    refine ⟨fun b o e => (sb.2 b (b2c b o e)).trans (st b o (b2 b o e)), none2 _ bn, ff_to ff fun L hL => ⟨?_, fun o e => (sb.2 L (fun z => nf (by rw [← z, hs]; exact hL))).trans e⟩, oe, vs, T, oT, ts, (sb.2 a ca).trans he, hz, hd, h1, none2 _ hnT, hTe, (sb.2 T cT).trans hT, hdT, h3⟩
    exact none2 _ (ff.mem hL).1
  unfold PySem.passOn
  refine wpAny_bind (wpAny_field ((sb.2 a ca).trans he) hd h1 ?_)
  rw [if_neg (show ¬ ((Value.ref T == Value.none) = true) by simp), hce, hf]
  refine wpAny_bind (HandSPX.setFlight_onZ (s := { s' with heap := h3' }) held3 fun h4 held4 up4 => wpAny_throw (tk _ _ ?_))
  obtain ⟨G, g1, g2⟩ := restrict h4 fun b => (B2.get? b).isSome || decide (b ∈ frs X.stack)
  have st4 : B2.StaysIn h4 := held4.1
  have gB : ∀ b o, B2.get? b = some o → G.get? b = some o := fun b o e => by
    rw [g1 b (by simp [e])]
    exact st4 b o e
  have gF : ∀ b, b ∈ frs X.stack → G.get? b = h4.get? b := fun b hb => g1 b (by simp [hb])
  have og : ∀ b o, G.get? b = some o → h4.get? b = some o ∧ ((B2.get? b).isSome = true ∨ b ∈ frs X.stack) := fun b o e => by
    cases q : ((B2.get? b).isSome || decide (b ∈ frs X.stack)) with
    | false => rw [g2 b q] at e; cases e
    | true =>
      rw [g1 b q] at e
      exact ⟨e, by simpa [Bool.or_eq_true] using q⟩
  have slots : ∀ b o, s.heap.get? b = some o → b ∈ frs X.stack → ∃ sl, h4.get? b = some { o with slots := sl } := fun b o e hb => by
    obtain ⟨sl, q⟩ := ub.slot b o e hb
    obtain ⟨_, o', e', hd'⟩ := I.stack.mem hb
    rw [e] at e'; cases e'
    obtain ⟨sl2, q2⟩ := up2 b _ q hd'
    have q3 : h3'.get? b = _ := (sb.2 b (fun z => nf (by rw [← z]; exact hb))).trans q2
    obtain ⟨sl4, q4⟩ := up4 b _ q3 hd'
    exact ⟨sl4, q4⟩
  have J : Inv X pins σ H' { s with heap := G, gens := s'.gens, drawn := s'.drawn, toks := s'.toks } := by
    refine I.call (ch := [ce.locals]) ⟨fun b o e n hb hc => gB b o (tob2 b o (ub.keep b o e n hb) fun z => hc (by rw [z]; exact List.mem_cons_self)), fun b o e n hb _ => ?_, fun b o e n _ => ub.free b o e n, fun b o e hc => ?_, ub.tups, ub.frzs, ub.tbls⟩ (fun b u e => (hok b u e).stay (fun c v hc r => ?_) (fun _ q => q) fun _ _ q => q) ag (fun b hb => ?_)
    · obtain ⟨sl, q⟩ := slots b o e hb
      exact ⟨sl, by rw [gF b hb]; exact q⟩
    · by_cases hb : b ∈ frs X.stack
      · obtain ⟨sl, q⟩ := slots b o e hb
        exact ⟨_, by rw [gF b hb]; exact q⟩
      · obtain ⟨o', q⟩ := ub.there b o e hb
        exact ⟨o', gB b o' (tob2 b o' q fun z => hc (by rw [z]; exact List.mem_cons_self))⟩
    · refine gB c v (tob2 c v r fun z => ?_)
      rw [z] at hc
      rcases hc with hc | hc
      · rw [← hc, hn'] at e; cases e
      · rw [hn'] at hc; cases hc
    · rw [List.mem_singleton.mp hb]
      exact ⟨f1, f2, f3, f4⟩
  refine ⟨a, B2, { s with heap := G, gens := s'.gens, drawn := s'.drawn, toks := s'.toks }, pins, σ, H', cls, d, rfl, J, fun b o e hb => ?_, Heap.UpToSlots.of_keeps fun b o e => (og b o e).1, .inr (.inr (by rw [hs]; exact held4)), na, os, ag, hW _ _ _ _ _ hE⟩
  obtain ⟨e', h⟩ := og b o e
  rcases h with h | h
  · obtain ⟨o', q⟩ := Option.isSome_iff_exists.mp h
    have z := st4 b o' q
    rw [e'] at z; cases z
    exact q
  · exact absurd h hb
end
section
variable {M : Model} {A : Around} {E : Value → Shared → Prop} {s : Shared} {env : Env}
/-- a comprehension, an exception let out -/
theorem compX {e : Expr} {scope : Scope} {pos : Pos} {newAcc first : Sem Value} {g : Comprehension} {gs : List Comprehension} {cl : List (Str × Addr)} {Q : Value → Shared → Prop} (hcl : clausesOf e = g :: gs) (hs : ∀ x, foldedSetIterable g.iter env x = pure x) (hclos : closureFor scope env = pure cl) (hkind : scope.kind = .function)
    (hnames : ∀ x ∈ scope.names, x.2 = .local → scope.names.lookup x.1 = some .local)
    (h : wpAny M A first (fun x s1 => wpAny M A (pyIter x) (fun it s2 => wpAny M A newAcc (fun acc s3 => wpAny M A (newFunctionEnv scope env.globals cl [] env.qual none .none (some env)) (fun ce s4 => codeAny M A (.compStart e 0 it acc { ce with scope := relabel scope env }) (postX M A E Q acc { ce with scope := relabel scope env }) s4) E s3) E s2) E s1) E s) :
    wpAny M A (comprehension e scope env pos newAcc false first none) Q E s := by
  unfold comprehension
  rw [hclos, hcl]
  refine wpAny_bind (wpAny_mono h (fun x s1 h1 => ?_) fun _ _ z => z)
  refine wpAny_bind (wpAny_standAt (wpAny_bind (wpAny_of_eq (hs x) (wpAny_bind (wpAny_holding (wpAny_mono h1 (fun it s2 h2 => ?_) fun _ _ z => z))))))
  refine wpAny_standIf (wpAny_bind (wpAny_mono h2 (fun acc s3 h3 => ?_) fun _ _ z => z))
  refine wpAny_bind (wpAny_pure (wpAny_bind (wpAny_mono h3 (fun ce s4 h4 => ?_) fun _ _ z => z)))
  dsimp only
  have kinds : ∀ x ∈ (scope.names.filter fun x => (x.2 == .local || x.2 == .cell) && x.1 != (".0" : Str)).reverse, x.2 = .local → Env.kindOf { ce with scope := relabel scope env } x.1 = some .local := fun x hx hl =>
    lookup_relabel_local (hnames x (List.mem_filter.mp (List.mem_reverse.mp hx)).1 hl)
  refine wpAny_holding (wpAny_bind (wpAny_attempt (wpAny_holding (wpAny_run (codeAny_mono h4 fun r s5 hr => ?_)))))
  cases r with
  | ok f =>
    obtain ⟨m, hn, k⟩ := hr
    exact wpAny_bind (wpAny_holding (wpAny_comp_letGo (cenv := { ce with scope := relabel scope env }) hkind _ s5 m kinds hn fun h' m' _ sb => wpAny_pure (k h' sb)))
  | error x =>
    obtain ⟨m, hn, k⟩ := hr
    exact wpAny_bind (wpAny_holding (wpAny_comp_letGo (cenv := { ce with scope := relabel scope env }) hkind _ s5 m kinds hn fun h' m' _ sb => wpAny_mono (k h' sb) (fun _ _ z => z.elim) fun _ _ z => z))
end
/-- what a call within the block lets out -/
def EXb (X Xb : Cx) (W : WX) : Value → Shared → Prop := fun u s' => ∃ (pins : List (Addr × Obj)) (σ : St) (H : Hp) (s : Shared), Inv Xb pins σ H s ∧ CX X.prog X.w X.stack H s (fun cls d H' => W cls d σ H') u s'
/-- the block's context, exceptions let out -/
abbrev BlkX (X : Cx) (W : WX) (scope : Scope) (s : Shared) (H : Hp) (C : Addr) (cl : List (Str × Addr)) (fp : List Addr) : Cx := (Blk X scope s H C cl fp).tr [] (EXb X (Blk X scope s H C cl fp) W)
theorem inv_xe {X : Cx} {pins : List (Addr × Obj)} {σ : St} {H : Hp} {s : Shared} (hp : X.pn = []) (I : Inv X pins σ H s) (xe : Value → Shared → Prop) : Inv (X.tr [] xe) pins σ H s :=
  ⟨I.ok.toTry _ _, I.os, I.bare, I.base, I.loc, I.cell, I.free, I.freeC, fun p h => I.pin p (by rw [hp]; exact h), I.hok, I.len⟩
theorem inv_of {X : Cx} {pins : List (Addr × Obj)} {σ : St} {H : Hp} {s : Shared} {xe : Value → Shared → Prop} (hp : X.pn = []) (I : Inv (X.tr [] xe) pins σ H s) : Inv X pins σ H s :=
  ⟨I.ok.ofTry, I.os, I.bare, I.base, I.loc, I.cell, I.free, I.freeC, fun p h => I.pin p (by rw [hp] at h; exact h), I.hok, I.len⟩
section
variable {X : Cx} {W : WX}
theorem pe_lcX {elt tg iter : Expr} {scope : Scope} {own : List (Str × Nat)} {pos : Pos} {wi : TI} {g : TG} {te : TE} (hc : X.calm = true) (hN : X.N.Nodup) (tk : Takes X W) (hst : X.stack = X.env :: X.outer) (hfr : X.env.frame = some X.env.locals) (hW : ∀ cls d σ1 σ2 H, W cls d σ1 H → W cls d σ2 H) (hi : PI X tg iter wi) (ok : BlkOk X.N X.env.scope scope own)
    (hg : ∀ (s : Shared) (H : Hp) (C : Addr) (cl : List (Str × Addr)) (fp : List Addr), PG (Blk X scope s H C cl fp) tg g) (he : ∀ (s : Shared) (H : Hp) (C : Addr) (cl : List (Str × Addr)) (fp : List Addr), PE (BlkX X W scope s H C cl fp) elt te) (hs : ∀ x, foldedSetIterable iter X.env x = pure x) :
    PE X (.ListComp elt [⟨tg, iter, [], 0⟩] scope pos) (tLc wi g tYes te (own.map (·.2))) := by
  refine ⟨fun pins s σ H Q I h => ?_⟩
  rw [eval_ListComp]
  have hfree : ∀ y ∈ scope.names, y.2 = .free → ∃ c, X.env.cells.lookup y.1 = some c := fun y hy e => (ok.free y hy e).elim (fun k => I.ok.has _ (.inl k)) fun k => I.ok.has _ (.inr k)
  refine compX rfl hs (closure_ok hfree) ok.kind (fun y hy e => by rw [ok.uniq y hy, e]) (thn (hi.run pins s σ H _ I h) fun xv s1 hx => thn hx fun itv s2 h2 => ?_)
  obtain ⟨it, fp, tn, J, H2, e, I2, T, st2, f2, q⟩ := h2
  subst e
  refine wpAny_newObj_type (newEnv_comp ?_) (by show 0 ≤ sizeLine; decide)
  generalize hD : s2.heap.objs.size = D
  have dn : H2 D = none := I2.hok.fresh (Nat.le_of_eq hD)
  obtain ⟨Wt, ⟨m0, w0⟩, turn⟩ := q D dn
  generalize hs3 : ({ s2 with heap := s2.heap.push { cls := .type "list", data := .seq ([] : List Value).toArray } } : Shared) = s3
  have I3 : Inv X pins σ (upd H2 D (.lst [])) s3 := by
    rw [← hs3]
    refine I2.laid (t' := s2.toks) (fun b o e => Heap.get?_push_of_some _ e) (Nat.le_of_eq hD) ⟨Nat.zero_le _, [], 0, .nil, ?_⟩
    rw [← hD]
    exact Heap.get?_push_size _ rfl
  have e3 : s3.heap = s2.heap.push { cls := .type "list", data := .seq ([] : List Value).toArray } := by rw [← hs3]
  have f3 : ∀ b ∈ fp, FpOk X pins (upd H2 D (.lst [])) b ∧ b < s3.heap.objs.size := fun b hb => by
    obtain ⟨o, e, _⟩ := T.obj _ _ st2 b hb
    have lt := Heap.lt_size e
    refine ⟨⟨?_, (f2 b hb).2⟩, by rw [e3, Heap.size_push]; exact Nat.lt_succ_of_lt lt⟩
    rw [upd_ne (by rw [← hD]; exact Nat.ne_of_lt lt)]
    exact (f2 b hb).1
  have st3 : tn 0 s3.heap := T.keep _ _ _ st2 fun b _ o e => by rw [e3]; exact Heap.get?_push_of_some _ e
  have I4 := block_start I3 ok hN f3
  have pg : PG (X.blk s3 (upd H2 D (.lst [])) scope (compEnvC scope (cellsFrom (s3.heap.objs.size + 1) scope.names (cloFrom X.env.cells scope.names [])) s3.heap.objs.size X.env) fp) tg g := hg s3 (upd H2 D (.lst [])) s3.heap.objs.size (cellsFrom (s3.heap.objs.size + 1) scope.names (cloFrom X.env.cells scope.names [])) fp
  have pe : PE ((X.blk s3 (upd H2 D (.lst [])) scope (compEnvC scope (cellsFrom (s3.heap.objs.size + 1) scope.names (cloFrom X.env.cells scope.names [])) s3.heap.objs.size X.env) fp).tr [] (EXb X (X.blk s3 (upd H2 D (.lst [])) scope (compEnvC scope (cellsFrom (s3.heap.objs.size + 1) scope.names (cloFrom X.env.cells scope.names [])) s3.heap.objs.size X.env) fp) W)) elt te := he s3 (upd H2 D (.lst [])) s3.heap.objs.size (cellsFrom (s3.heap.objs.size + 1) scope.names (cloFrom X.env.cells scope.names [])) fp
  show codeAny _ _ (.compStart (.ListComp elt [⟨tg, iter, [], 0⟩] scope pos) 0 (.ref it) (.ref D) (compEnvC scope (cellsFrom (s3.heap.objs.size + 1) scope.names (cloFrom X.env.cells scope.names [])) s3.heap.objs.size X.env)) (postX (model X.prog X.w) X.A X.xe (EP X pins σ Q) (.ref D) (compEnvC scope (cellsFrom (s3.heap.objs.size + 1) scope.names (cloFrom X.env.cells scope.names [])) s3.heap.objs.size X.env)) { s3 with heap := pushCells (s3.heap.push { cls := .type "dict", data := .dict #[] }) scope.names }
  have nfp : ∀ b ∈ fp, (upd H2 D (.lst [])) b = none := fun b hb => (f3 b hb).1.1
  generalize hce : compEnvC scope (cellsFrom (s3.heap.objs.size + 1) scope.names (cloFrom X.env.cells scope.names [])) s3.heap.objs.size X.env = ce at I4 pg pe ⊢
  have cL : ce.locals = s3.heap.objs.size := by subst hce; rfl
  have cF : ce.frame = X.env.frame := by subst hce; rfl
  generalize hH3 : upd H2 D (.lst []) = H3 at I3 I4 pg pe w0 nfp f3
  generalize hs4 : ({ s3 with heap := pushCells (s3.heap.push { cls := .type "dict", data := .dict #[] }) scope.names } : Shared) = s4 at I4 ⊢
  have st4 : tn 0 s4.heap := T.keep _ _ _ st3 fun b _ o e => by rw [← hs4]; exact pushCells_keeps _ _ _ _ (Heap.get?_push_of_some _ e)
  have stat : ∀ {σ' : St} {H' : Hp} {s' : Shared}, Inv (X.blk s3 H3 scope ce fp) [] σ' H' s' → (∀ b ∈ fp, H' b = none) → ∀ b ∈ fp, FpOk (X.blk s3 H3 scope ce fp) [] H' b := fun {σ' H' s'} I' hn b hb =>
    ⟨hn b hb, (I'.ok.exf b hb).1, I'.ok.exfs b hb, .inl hb, fun x c e => (I'.ok.exf b hb).2 x c e, fun p hp => absurd (show p ∈ ([] : List (Addr × Obj)) ++ [] from hp) (by simp)⟩
  -- from the block back to the def
  have back : ∀ {pins' : List (Addr × Obj)} {σ' : St} {H' : Hp} {s' : Shared}, Inv (X.blk s3 H3 scope ce fp) pins' σ' H' s' → Inv X pins σ H' s' := fun {pins' σ' H' s'} I' =>
    I3.call' (ch := fp) I'.os I'.base I'.hok I'.bare fun b hb => ⟨(f3 b hb).1.2.2.2.1, (f3 b hb).1.2.1, (f3 b hb).1.2.2.2.2.1, (f3 b hb).1.2.2.2.2.2⟩
  have loop : codeAny (model X.prog X.w) X.A (.compLoop (.ListComp elt [⟨tg, iter, [], 0⟩] scope pos) 0 (.ref it) (.ref D) ce) (postX (model X.prog X.w) X.A X.xe (EP X pins σ Q) (.ref D) ce) s4 := by
    refine compLoop_any (fun n s' => ∃ i H', Inv (X.blk s3 H3 scope ce fp) [] (wipe σ (own.map (·.2))) H' s' ∧ tn i s'.heap ∧ (∀ b ∈ fp, H' b = none) ∧ Wt i n H') ?_ m0 ⟨0, H3, I4, st4, nfp, w0⟩
    rintro n s5 ⟨i, H5, I5, st5, n5, w5⟩
    rcases turn i n H5 w5 with ⟨stop, qq⟩ | ⟨go, Nx, hNx, step⟩
    · refine thnF (T.done (X.blk s3 H3 scope ce fp) rfl rfl rfl hc i [] s5 _ H5 (fun _ _ => False) I5 (stat I5 n5) st5 stop) fun r s6 ⟨hr, I6⟩ => ?_
      subst hr
      have I7 := back I6
      obtain ⟨m, hn, _⟩ := I6.loc
      have hn : s6.heap.Ns ce.locals m := hn
      have nC : H5 ce.locals = none := I6.free
      refine ⟨m, hn, fun h' sb => ?_⟩
      obtain ⟨f0, f1, f2', f3', f4, f5⟩ := I3.fpOk (Nat.le_of_eq cL.symm) nC
      exact ⟨.ref D, H5, I7.turned (t' := s6.toks) (fun b o hb e => (sb.2 b hb).trans e) f0 f1 f3' f4 f5, rfl, qq⟩
    · refine thnF (T.item (X.blk s3 H3 scope ce fp) rfl rfl rfl hc i [] s5 _ H5 (fun _ _ => False) I5 (stat I5 n5) st5 go) fun r s6 ⟨u, hr, h6⟩ => ?_
      subst hr
      refine thnF h6 fun _ s7 ⟨x, H7, I7, r7, y7, st7, n7⟩ => ?_
      have I7' := I7.pinned (stat I7 n7) (T.obj _ _ st7)
      refine thnF (pg.run _ s7 _ H7 x u _ I7' r7 (step x H7 y7)) fun _ s8 ⟨σ8, H8, I8, hw8, q8⟩ => ?_
      refine wpAny_pure ?_
      simp only [if_true]
      have q9 : te σ8 H8 fun y H4 => ∃ acc, H4 D = some (.lst acc) ∧ acc.length < sizeLine ∧ Nx (upd H4 D (.lst (acc ++ [y]))) := q8
      refine wpAny_mono (pe.run _ s8 σ8 H8 _ (inv_xe rfl I8 _) q9) (fun z s10 ⟨yv, H10, I10, r10, acc, hD10, hz10, nx⟩ => ?_) fun u s' hx => ?_
      · refine thnF (app_ok (X := X.blk s3 H3 scope ce fp) (E := fun _ _ => False) (inv_of rfl I10) hD10 hz10 r10 fun s11 I11 => ?_) fun _ _ z => z
        obtain ⟨m', hm, w'⟩ := hNx _ nx
        have pin' : ∀ b ∈ fp, ∀ o, s7.heap.get? b = some o → s11.heap.get? b = some o ∧ upd H10 D (.lst (acc ++ [yv])) b = none := fun b hb o e =>
          let z := I11.pin (b, o) (List.mem_append_right _ (List.mem_append_right _ (mem_pinsAt hb e)))
          ⟨z.1, z.2.1⟩
        have hl : (wipe σ (own.map (·.2))).length = σ8.length := by rw [← hw8, wipe_length]
        refine ⟨m', hm, i + 1, _, (I11.unpinned (pins := [])).weak hl (fun j v e => ?_), T.keep _ _ _ st7 fun b hb o e => (pin' b hb o e).1, fun b hb => ?_, w'⟩
        · rw [← hw8] at e
          exact (wipe_some e).1
        · obtain ⟨o, e, _⟩ := T.obj _ _ st7 b hb
          exact (pin' b hb o e).2
      · obtain ⟨pins', σ', H', sb, Ib, cx⟩ := hx
        have Ib : Inv (X.blk s3 H3 scope ce fp) pins' σ' H' sb := by subst hce; exact Ib
        obtain ⟨m, hn, _⟩ := Ib.loc
        have hn : sb.heap.Ns ce.locals m := hn
        have nC : H' ce.locals = none := Ib.free
        obtain ⟨f0, f1, f2', f3', f4, f5⟩ := I3.fpOk (H' := H') (Nat.le_of_eq cL.symm) nC
        refine through tk hst hfr hW (back Ib) cx cF hn nC (fun z => ?_) f3' f1 f4 f5
        rcases List.mem_cons.mp (I3.stkSub _ z) with e | e
        · exact f1 e
        · exact f2' e
  exact codeAny_compStart_list loop (T.self X.A 0 _ _ _ st4 loop)
end
end G

namespace G
open PySem L2
/-! ### more of texts -/
theorem fig_index {c : Nat} (h0 : 48 ≤ c) (h1 : c ≤ 57) : ∃ rest, Builtin.Str.occurrences (Str.ofString "0123456789") (sL [c]) 0 (Str.ofString "0123456789").length 1 = (c - 48) :: rest := by
  have : c = 48 ∨ c = 49 ∨ c = 50 ∨ c = 51 ∨ c = 52 ∨ c = 53 ∨ c = 54 ∨ c = 55 ∨ c = 56 ∨ c = 57 := by omega
  rcases this with e | e | e | e | e | e | e | e | e | e <;> subst e <;> exact ⟨[], by decide +kernel⟩
theorem call_list_signs {X : Cx} (hc : X.calm = true) : CallR X (.type "list") (fun xs H Q => ∃ l : List Nat, xs = [.str (sL l)] ∧ l.length ≤ sizeLine ∧ ∀ t, H t = none → Q (.ref t) (L2.upd H t (.lst (l.map fun c => V.str (sL [c]))))) := by
  rintro pins s σ H xs us Q I r ⟨l, rfl, hl, q⟩
  match us, r with
  | [u], .cons r1 .nil =>
    obtain ⟨t, rfl⟩ := r1
    have hsz : (sL l).cps.size = l.length := List.size_toArray
    refine call_list_str (I.ok.hd hc) (sL l) t (fun h' tk acc c keep at_ it => ?_) (by rw [hsz]; exact hl)
    have vals : Vals (l.map fun c => V.str (sL [c])) acc.toList := by
      have key : ∀ (l : List Nat) (us : List Value), us.length = l.length → (∀ (i : Nat) (u : Value) (c : Nat), us[i]? = some u → l[i]? = some c → ∃ t, u = .str (sL [c]) t) → Vals (l.map fun c => V.str (sL [c])) us := by
        intro l
        induction l with
        | nil => intro us hu _; cases us with
          | nil => exact .nil
          | cons _ _ => simp at hu
        | cons c l ih => intro us hu hq; cases us with
          | nil => simp at hu
          | cons u us =>
            obtain ⟨t, e⟩ := hq 0 u c rfl rfl
            exact .cons ⟨t, e⟩ (ih us (by simpa using hu) fun i u c e1 e2 => hq (i + 1) u c (by simpa using e1) (by simpa using e2))
      refine key l acc.toList (by rw [Array.length_toList, it.1, hsz]) fun i u c e1 e2 => ?_
      rw [Array.getElem?_toList] at e1
      obtain ⟨ch, t2, hc2, e⟩ := it.2 i u e1
      have e3 : (sL l).cps[i]? = l[i]? := List.getElem?_toArray
      rw [e3, e2] at hc2
      cases hc2
      exact ⟨t2, e⟩
    have hn : H s.heap.objs.size = none := I.hok.fresh (Nat.le_refl _)
    exact ⟨.ref s.heap.objs.size, L2.upd H s.heap.objs.size (.lst (l.map fun c => V.str (sL [c]))), I.laid (t' := tk) (o := .lst (l.map fun c => V.str (sL [c]))) keep (Nat.le_refl _) ⟨by rw [List.length_map]; exact hl, acc.toList, c, vals, by rw [Array.toArray_toList]; exact at_⟩, rfl, q _ hn⟩
section
variable {X : Cx} {B : Bs} {ss ss' : List SD} {e a b c : Expr} {es : List Expr} {pos p p2 p3 p4 p5 p6 p7 : Pos} {d x y z : PyData} {ds ds' : List PyData} {rest body orelse : List Stmt} {st : Stmt} {D : Ends}
def cutL (l : List Nat) (lo hi : Option Int) : List Nat := (l.drop (HT.sIx l.length 0 lo)).take (HT.sIx l.length l.length hi - HT.sIx l.length 0 lo)
theorem cut_sL (l : List Nat) (lo hi : Option Int) : cutS (sL l) lo hi = sL (cutL l lo hi) := by
  unfold cutS cutL
  rw [str_len]
theorem pd_slS {l : List Nat} {lo hi : Option Expr} {i j : Option Int} {p2 : Pos} (ha : PD X B a ss (.str (sL l))) (hl : POd X B lo ss i) (hh : POd X B hi ss j) (hz : l.length ≤ sizeLine) : PD X B (.Subscript a (.Slice lo hi none p2) pos) ss (.str (sL (cutL l i j))) := fun σ F H s Q q => by
  obtain ⟨tl, pl, ql⟩ := hl
  obtain ⟨th, ph, qh⟩ := hh
  refine sem_of (pe_slice sl_str pe_sem pl ph) (ha σ F H s _ fun v F1 H1 g1 r1 => ql σ F1 H1 (s.grow g1) _ fun F2 H2 g2 => qh σ F2 H2 (s.grow (g1.trans g2)) _ fun F3 H3 g3 => ?_)
  cases r1
  refine ⟨sL l, rfl, by rw [str_len]; exact hz, ?_⟩
  rw [cut_sL]
  exact q _ F3 H3 ((g1.trans g2).trans g3) (.str _)
/-- "0123456789".index(sign) -/
theorem pd_figIx {c : Nat} (h0 : 48 ≤ c) (h1 : c ≤ 57) (ha : PD X B a ss (.str (Str.ofString "0123456789"))) (hb : PD X B b ss (.str (sL [c]))) (hs : starEach [b] X.env = [(false, eval b X.env)] := by rfl) (hbase : attributeBase a "index" X.env (eval a X.env) = eval a X.env := by rfl) (hline : (p.endLine == pos.line) = true := by rfl) :
    PD X B (.Call (.Attribute a "index" p) [b] [] pos) ss (.int ((c : Int) - 48)) := fun σ F H s Q q =>
  sem_of (pe_m1 PySem.F.slot_str_index (by kernel_rfl) mt_sindex pe_sem pe_sem hs hbase hline) (ha σ F H s _ fun v F1 H1 g1 r1 => by
    cases r1
    refine ⟨⟨_, rfl⟩, hb σ F1 H1 (s.grow g1) _ fun w F2 H2 g2 r2 => ?_⟩
    cases r2
    obtain ⟨rest, e⟩ := fig_index h0 h1
    have e2 : (((c - 48 : Nat)) : Int) = (c : Int) - 48 := by omega
    exact ⟨_, _, _, rest, rfl, rfl, e, by rw [e2]; exact q _ F2 H2 (g1.trans g2) (.int _)⟩)
/-- list(text) -/
theorem pn_listS {l : List Nat} (cx : Cxt X) (ha : PD X B e ss (.str (sL l))) (hz : l.length ≤ sizeLine) (hm : X.mg "list" = none) (hv : bootBuiltins "list" = some (.type "list") := by decide +kernel) (hg : Gl X "list" := by rfl) (hn : NSt X e := by intro _; rfl) :
    PN X B (.Call (.Name "list" p) [e] [] pos) ss (l.map fun c => PyData.str (sL [c])) := fun σ F H s Q q =>
  sem_of (pe_callTy (call_list_signs cx.calm) hg hm hv (pa_cons pe_sem pa_nil (hn [])) (by decide) (by decide) (hn []) rfl) (ha σ F H s _ fun v F1 H1 g r => by
    cases r
    refine ⟨l, rfl, hz, fun t ht => q t _ F1 _ (g.trans (Grow.newO g.fh ht)) (g.hh.free ht) (g.fh.free ht) upd_same ?_⟩
    have := strs_rp (K := X.K) (C := B.C) (H := F1) (l.map fun c => sL [c])
    rw [List.map_map, List.map_map] at this
    exact this)
/-- x = x + y.pop(e), x a text, y a list of texts -/
theorem go_catPop (i j : Nat) {x y : Str} {k : Int} {m : Nat} {u z : Str} (cx : Cxt X) (hij : i ≠ j) (hs0 : ss[i]? = some (.dat (.str u))) (hs1 : ss[j]? = some (.own ds')) (hk : PD X B a ss (.int k)) (hm : ixN ds'.length k = some m) (hd : ds'[m]? = some (.str z)) (hz : u.length + z.length ≤ sizeLine) (hz' : ds'.length < 2 ^ 62)
    (h : Go X B rest ((ss.set j (.own (ds'.eraseIdx m))).set i (.dat (.str (u ++ z)))) D) (nr : noRaw ss = true := by rfl)
    (hi : X.N[i]? = some x := by rfl) (hx : Loc X.env.scope x := by first | exact Or.inl rfl | exact Or.inr rfl)
    (hpe : PE X (.BinOp (.Name x p) .Add (.Call (.Attribute (.Name y p4) "pop" p5) [a] [] p6) p2) (tOp (fun x y H Q => ∃ i j, x = .str i ∧ y = .str j ∧ i.length + j.length ≤ sizeLine ∧ Q (.str (i ++ j)) H) (tVar i) (tBM X.K "list" rPopAt (tVar j) (tCons (tSem X a) tNil))) := by
      exact pe_op op_add_str (pe_var (by rfl) (by first | exact Or.inl rfl | exact Or.inr (Or.inl rfl) | exact Or.inr (Or.inr rfl)) (by decide) (by decide)) (pe_bm PySem.F.plainAttrs_list PySem.F.slot_list_pop PySem.F.type_list_pop mt_popAt (pe_var (by rfl) (by first | exact Or.inl rfl | exact Or.inr (Or.inl rfl) | exact Or.inr (Or.inr rfl)) (by decide) (by decide)) (pa_cons pe_sem pa_nil)))
    (hs : swapsWith (.BinOp (.Name x p) .Add (.Call (.Attribute (.Name y p4) "pop" p5) [a] [] p6) p2) (some (.Name x p3)) pos.line X.env = pure false := by rfl) (hf : X.fn x = true ∨ X.env.scope.names.lookup x = some .local := by first | exact .inl rfl | exact .inr rfl) :
    Go X B (.Assign [.Name x p3] (.BinOp (.Name x p) .Add (.Call (.Attribute (.Name y p4) "pop" p5) [a] [] p6) p2) pos :: rest) ss D :=
  go_step (ps_set cx.nd hi hx hpe hs hf) fun σ F H s => by
    obtain ⟨vx, ex, rx⟩ := s.slot i _ hs0
    cases rx
    obtain ⟨q', vs', ea', a0', n', ha', r'⟩ := s.slot j _ hs1
    refine ⟨_, ex, _, ea', .inl ⟨rfl, vs', SqL.of ha'⟩, hk σ F H s _ fun w F1 H1 g r1 => ?_⟩
    cases r1
    obtain ⟨v, hv, rv⟩ := RpAll.get r' hd
    cases rv
    obtain ⟨q1, q2, q3, q4⟩ := ixN_seq hm
    have ll := r'.length
    have s1 := (s.grow g).mut hs1 ea' nr ((r'.mono g.ff).erase m)
    refine ⟨q', vs', k, m, .str z, rfl, rfl, g.hh _ _ ha', by omega, by omega, by rw [ll]; exact q1, hv, u, z, rfl, rfl, hz, ?_⟩
    exact h _ F1 _ (s1.set_dat (.str _))
end
/-! ### a list comprehension whose items may raise -/
section
variable {X : Cx} {B : Bs} {ss : List SD} {e a : Expr} {es : List Expr} {pos p p2 : Pos} {W : WX}
theorem lcG_any {β : Type} {xs : List β} {f g : β → PyData} (j : Nat) {te : TE} (he : PIs X B a ss (xs.map f)) (nr : noRaw ss = true) (hz : xs.length < sizeLine)
    (hel : ∀ (Fp : Hp) (u : β), u ∈ xs → ∀ (σ : St) (F H : Hp), Sat X.K (B.pinned Fp) (ss.set j (.dat (f u))) σ F H → ∀ Q : VK, (∀ v F' H', Grow F H F' H' → Rp X.K B.C F' v (g u) → Q v H') → te σ H Q) :
    ∀ (σ : St) (F H : Hp), Sat X.K B ss σ F H → ∀ Q : VK, (∀ a vs F' H', Grow F H F' H' → H a = none → F' a = none → H' a = some (.lst vs) → RpAll X.K B.C F' vs (xs.map g) → Q (.ref a) H') → tLc (iSeq X.K (tSem X a)) (gName j) tYes te [j] σ H Q := fun σ F H s Q q =>
  (he σ F H s _ fun l vs F1 H1 g1 sq r => by
    have s1 := s.grow g1
    have ll : vs.length = xs.length := by rw [r.length, List.length_map]
    have main : ∀ Dl, H1 Dl = none → ∃ Pv : Nat → Hp → Prop, Pv 0 (L2.upd H1 Dl (.lst [])) ∧ (∀ i H', Pv i H' → ∃ F', Same F1 F' ∧ Same F' H') ∧
        (∀ i x H', vs[i]? = some x → Pv i H' → gName j x (wipe σ [j]) H' fun σ2 H2 => wipe σ2 [j] = wipe σ [j] ∧ tYes σ2 H2 fun b H3 =>
          if b = true then te σ2 H3 fun z H4 => ∃ acc, H4 Dl = some (.lst acc) ∧ acc.length < sizeLine ∧ Pv (i + 1) (L2.upd H4 Dl (.lst (acc ++ [z]))) else Pv (i + 1) H3) ∧
        (∀ H', Pv vs.length H' → Q (.ref Dl) H') := by
      intro Dl hD
      have ap : ∀ (i : Nat) (es : List PyData), ss[i]? = some (.own es) → σ[i]? ≠ some (some (.ref Dl)) := fun i es e1 e2 => by
        obtain ⟨a', ws, ea, _, _, h2, _⟩ := s1.slot i _ e1
        rw [e2] at ea
        injection ea with ea
        injection ea with ea
        injection ea with ea
        subst ea
        rw [hD] at h2; cases h2
      have hF1 : F1 Dl = none := g1.fh.free hD
      have hB0 : B.H0 Dl = none := s1.g.hh.free hD
      refine ⟨fun i H' => ∃ F' acc, Sat X.K (B.pinned F1) ss σ F' H' ∧ Grow F H F' H' ∧ F' Dl = none ∧ H' Dl = some (.lst acc) ∧ RpAll X.K B.C F' acc ((xs.take i).map g), ⟨F1, [], s1.pinned.upd hB0 hF1 nr ap, g1.trans (Grow.newO g1.fh hD), hF1, upd_same, ?_⟩, ?_, ?_, ?_⟩
      · rw [List.take_zero]; exact .nil
      · rintro i H' ⟨F', acc, s', _, _⟩
        exact ⟨F', s'.pin, s'.fh⟩
      · rintro i x H' hi ⟨F', acc, s', g', n', h', r'⟩
        obtain ⟨d, hd, rd⟩ := RpAll.getV r hi
        rw [List.getElem?_map] at hd
        cases hu : xs[i]? with
        | none => rw [hu] at hd; cases hd
        | some u =>
          rw [hu] at hd
          cases hd
          have hmem : u ∈ xs := List.mem_of_getElem? hu
          have hil : i < xs.length := (List.getElem?_eq_some_iff.mp hu).1
          have tk : xs.take (i + 1) = xs.take i ++ [u] := by
            rw [List.take_add_one, hu]; rfl
          have al : acc.length ≤ i := by rw [r'.length, List.length_map, List.length_take]; omega
          have wset : (wipe σ [j]).set j (some x) = σ.set j (some x) := by
            show ((wipe σ []).set j none).set j (some x) = _
            rw [List.set_set]; rfl
          have wset2 : wipe (σ.set j (some x)) [j] = wipe σ [j] := by
            show (σ.set j (some x)).set j none = σ.set j none
            rw [List.set_set]
          show wipe ((wipe σ [j]).set j (some x)) [j] = wipe σ [j] ∧ tYes ((wipe σ [j]).set j (some x)) H' _
          rw [wset]
          refine ⟨wset2, ?_⟩
          show te (σ.set j (some x)) H' _
          refine (hel F1 u hmem _ F' H' (s'.set_dat (rd.mono s'.pin)) _ fun z F4 H4 g4 r4 => ?_)
          refine ⟨acc, g4.hh _ _ h', Nat.lt_of_le_of_lt al (Nat.lt_trans hil hz), F4, acc ++ [z], (s'.grow g4).upd hB0 (g4.own _ _ h' n') nr ap (nx_lst (g4.hh _ _ h')), ?_, g4.own _ _ h' n', upd_same, ?_⟩
          · have n4 := g4.own _ _ h' n'
            have hH : H Dl = none := g1.hh.free hD
            exact ⟨fun b o e => by rw [upd_ne (ne_of_none e hH)]; exact (g'.trans g4).hh b o e, (g'.trans g4).ff, fun b o e => by rw [upd_ne (ne_of_none e n4)]; exact g4.fh b o e, (g'.trans g4).own⟩
          · rw [tk, List.map_append]
            exact (r'.mono g4.ff).app (.one r4)
      · rintro H' ⟨F', acc, s', g', n', h', r'⟩
        rw [ll, List.take_length] at r'
        exact q Dl acc F' H' g' (g1.hh.free hD) n' h' r'
    refine ⟨l, rfl, ?_⟩
    rcases sq with sq | sq
    · refine .inl ⟨vs, g1.fh.seq sq, fun Dl hD => ?_⟩
      obtain ⟨Pv, p0, pl, ps, pe⟩ := main Dl hD
      exact lc_list (K := X.K) (a := l) (xs := vs) Pv p0 (fun i H' _ pv => let ⟨F', a1, a2⟩ := pl i H' pv; a2.seq (a1.seq sq)) ps pe
    · refine .inr ⟨vs, Same.sqt g1.fh sq, fun Dl hD => ?_⟩
      obtain ⟨Pv, p0, pl, ps, pe⟩ := main Dl hD
      exact lc_tup (K := X.K) (a := l) (xs := vs) Pv p0 (fun i H' _ pv => let ⟨F', a1, a2⟩ := pl i H' pv; Same.sqt a2 (Same.sqt a1 sq)) ps pe)
/-- [e for y in a], e may raise -/
theorem pn_lcX {β : Type} {xs : List β} {f g : β → PyData} (j : Nat) {y : Str} {scope : Scope} (cx : Cxt X) (tk : Takes X W) (hW : ∀ cls d σ1 σ2 H, W cls d σ1 H → W cls d σ2 H) (he : PIs X B a ss (xs.map f))
    (hel : ∀ (Fp : Hp) (u : β), u ∈ xs → ∀ (s : Shared) (H' : Hp) (C : Addr) (cl : List (Str × Addr)) (fp : List Addr), PD (BlkX X W scope s H' C cl fp) (B.pinned Fp) e (ss.set j (.dat (f u))) (g u))
    (hz : xs.length < sizeLine) (nr : noRaw ss = true := by rfl) (hst : X.stack = X.env :: X.outer := by rfl) (hfr : X.env.frame = some X.env.locals := by rfl)
    (hok : BlkOk X.N X.env.scope scope [(y, j)] := by exact blkOk_by (by kernel_rfl))
    (hpg : X.N.Nodup → ∀ (s : Shared) (H' : Hp) (C : Addr) (cl : List (Str × Addr)) (fp : List Addr), PG (Blk X scope s H' C cl fp) (.Name y p) (gName j) := by intro hnd _ _ _ _ _; exact pg_name hnd (by rfl) (Or.inl rfl))
    (hs : ∀ x, foldedSetIterable a X.env x = pure x := by intro _; rfl) :
    PN X B (.ListComp e [⟨.Name y p, a, [], 0⟩] scope pos) ss (xs.map g) := fun σ F H s Q q =>
  sem_of (pe_lcX (te := fun σ H Q => ∀ (s : Shared) (H' : Hp) (C : Addr) (cl : List (Str × Addr)) (fp : List Addr), tSem (BlkX X W scope s H' C cl fp) e σ H Q) (own := [(y, j)]) cx.calm cx.nd tk hst hfr hW (pi_seq pe_sem) hok (hpg cx.nd) (fun s H' C cl fp => ⟨fun pins s1 σ H Q I h => h s H' C cl fp pins s1 I⟩) hs)
    (lcG_any (g := g) j he nr hz (fun Fp u hu σ F H s Q q s1 H1 C1 cl1 fp1 => hel Fp u hu s1 H1 C1 cl1 fp1 σ F H s Q q) σ F H s Q q)
/-- a call within such a comprehension that raises: it gives whatever one wants -/
theorem pd_callX {scope : Scope} {s0 : Shared} {H0' : Hp} {C0 : Addr} {cl0 : List (Str × Addr)} {fp0 : List Addr} {α : Type} {args : α → List PyData} {pre : α → Prop} {out : α → Out} {fn : Str} {k : Nat} {cc : Addr} {d : PyData} (cf : Cal X.prog X.w X.K X.mg X.base fn k (spO X.K B.C args pre out)) (hr : Room k X.A) (u : α)
    (ha : PDs (BlkX X W scope s0 H0' C0 cl0 fp0) B (e :: es) ss (args u)) (ho : out u = .exc cc) (hp : pre u) (hW : ∀ σ H, Same B.H0 H → W (.ref cc) none σ H) (hg : Gl (BlkX X W scope s0 H0' C0 cl0 fp0) fn := by rfl) (hdb : (fn == ("__debug__" : Str)) = false := by decide)
    (he : starEach (e :: es) (BlkX X W scope s0 H0' C0 cl0 fp0).env = (false, eval e (BlkX X W scope s0 H0' C0 cl0 fp0).env) :: starEach es (BlkX X W scope s0 H0' C0 cl0 fp0).env := by rfl) (hpl : (backTo pos (starEach es (BlkX X W scope s0 H0' C0 cl0 fp0).env)).any (·.1) = false := by rfl) :
    PD (BlkX X W scope s0 H0' C0 cl0 fp0) B (.Call (.Name fn p) (e :: es) [] pos) ss d := fun σ F H s Q q => by
  obtain ⟨f, fd, ps, F0, hm, hk, hb⟩ := cf
  refine sem_of (X := BlkX X W scope s0 H0' C0 cl0 fp0) (pe_callS (E := WE W) F0 hr hg hm hk hb (fun σ pins H s u s' I c => ⟨pins, σ, H, s, inv_of rfl I, c⟩) pa_sem hdb he hpl) (ha σ F H s _ fun vs F1 H1 g r => ?_)
  refine ⟨u, F1, hp, g.fh, r, ?_⟩
  rw [ho]
  exact fun H' h => hW σ H' ((s.grow g).g.hh.trans h)
end
end G

namespace G
open PySem L2
abbrev nostr (l : List Nat) : List Nat := l.filter fun c => !decide (c = 47)
theorem nostr_cut (l : List Nat) : nostr (l ++ [47]) = nostr l := by
  show List.filter _ (l ++ [47]) = _
  rw [List.filter_append]
  show _ ++ List.filter _ [47] = _
  rw [show List.filter (fun c => !decide (c = 47)) [47] = [] from rfl, List.append_nil]
theorem nostr_put {l : List Nat} {c : Nat} (h : c ≠ 47) : nostr (l ++ [c]) = nostr l ++ [c] := by
  show List.filter _ (l ++ [c]) = _
  rw [List.filter_append, List.filter_cons_of_pos (by rw [decide_eq_false h]; rfl)]; rfl
theorem undig_put (w : List Nat) (c : Nat) : undig (w ++ [c]) = undig w ++ [(c : Int) - 48] := by
  unfold undig
  rw [List.map_append]; rfl
theorem ixN_last {n : Nat} (h : 0 < n) : ixN n (-1) = some (n - 1) := by
  unfold ixN
  rw [if_neg (by decide), if_pos (by omega)]
  congr 1
  omega
section
variable {P : Program} {w : World} {K : PySem.W.Frag} {mg : Str → Option Value} {base : Heap}
theorem sc_law_due : FnScope ["text", "rows", "seen", "sign", "row"] ["text"] (defScope s_law_due) := ⟨rfl, rfl, rfl, by decide +kernel, rfl, by decide +kernel, by decide +kernel⟩
abbrev dDue (o : Option (List (List Int))) : PyData := match o with
  | some S => dSt S
  | none => .none
abbrev sp_law_due (K : PySem.W.Frag) (C : Addr) : Sp := spO K C (fun l : List Nat => [.str (sL l)]) (fun l => l.length ≤ 1000) (fun l => .val (dDue (dueOf l)))
theorem ok_law_due {C f : Addr} {fd : FuncData} (T : Bl mg) (F : L2.Fun K "_law_due" "_law_due" s_law_due f fd) : FnOk P w K mg base (L2.CX P w) 1 f fd ["text"] (sp_law_due K C) := by
  refine ok_fn F sc_law_due (fun _ => rfl) (fun cdv A outer s H F0 l Q E X hX cx hr tk hp ho => ?_)
  subst hX
  have hl : l.length ≤ 1000 := hp
  refine go_rows0 1 cx ?_
  refine go_seen0 1 2 (by decide) (by show 1 < 5; decide) cx rfl (fun c => ?_)
  refine go_forS (l := l) 3 (fun i ss => figText (l.take i) ∧ ss = [.dat (.str (sL l)), .raw (rsP H ((splL (l.take i)).map undig) ((nostr (l.take i)).map fun c => sL [c]) c), .val (.ref c), .un, .un]) cx (pd_var 0) ⟨fun c hc => (nomatch hc), rfl⟩ ?_ ?_
  · rintro i ch _ hi ⟨hf, rfl⟩
    have tkE : l.take (i + 1) = l.take i ++ [ch] := by rw [List.take_add_one, hi]; rfl
    have hn1 : (splL (l.take i)).length ≤ 1001 := Nat.le_trans (words_len _) (by rw [List.length_take]; omega)
    have hn2 : (nostr (l.take i)).length ≤ 1000 := Nat.le_trans (List.length_filter_le _ _) (by rw [List.length_take]; omega)
    refine go_if (td_cmp op_eq (PD.bo (pd_var 3)) (PD.bo (PD.eq pd_str (x := .str (sL [47])) (by rw [slash]))) ob_eqS (nomark _)) (fun q => ?_) (fun q => ?_)
    · have e : ch = 47 := by
        have e2 : (sL [ch]).cps.toList = (sL [47]).cps.toList := congrArg (fun z : Str => z.cps.toList) (of_decide_eq_true q)
        simpa using e2
      subst e
      refine go_rsNew 1 rfl (szBig (by rw [List.length_map]; omega)) (go_on (go_end (ss' := [.dat (.str (sL l)), .raw (rsP H ((splL (l.take i)).map undig ++ [[]]) ((nostr (l.take i)).map fun c => sL [c]) c), .val (.ref c), .un, .un]) ⟨?_, ?_⟩ (by repeat (first | exact Wk.nil | apply Wk.same | apply Wk.un))))
      · rw [tkE]
        intro c hc
        rcases List.mem_append.mp hc with z | z
        · exact hf c z
        · exact Or.inr (List.mem_singleton.mp z)
      · rw [tkE, splL_cut, nostr_cut, List.map_append]; rfl
    · have hne : ch ≠ 47 := fun e => by
        subst e
        rw [decide_eq_true rfl] at q; cases q
      refine go_if (td_cmp op_in_sign (PD.bo (pd_var 3)) (PD.bo pd_str) ob_inS rfl) (fun q2 => ?_) (fun q2 => ?_)
      · have hd : isDig ch := fig_mem.mp (of_decide_eq_true q2)
        have hwl : (splP (l.take i)).2.length ≤ 1000 := Nat.le_trans (word_len (l := l.take i) (by unfold splL; simp)) (by rw [List.length_take]; omega)
        have hgd : ((splL (l.take i)).map undig).getD (splP (l.take i)).1.length [] = undig (splP (l.take i)).2 := by
          have e := splL_last (l.take i)
          rw [List.getD_eq_getElem?_getD] at e ⊢
          rw [List.getElem?_map]
          rw [List.getElem?_eq_getElem (by rw [splL_len]; omega)] at e ⊢
          show undig _ = _
          rw [← e]; rfl
        refine go_rsApp 1 (k := -1) (j := (splP (l.take i)).1.length) (n := (ch : Int) - 48) rfl (pd_neg pd_int) ?_ (pd_figIx hd.1 hd.2 pd_str (pd_var 3)) ?_ ?_
        · rw [List.length_map, ixN_last (by rw [splL_len]; omega), splL_len]; rfl
        · rw [hgd]; unfold undig; rw [List.length_map]; exact szBig (by omega)
        refine go_rsSeen 1 2 rfl rfl (pd_var 3) (by rw [List.length_map]; exact szBig (by omega)) (go_on (go_on (go_end (ss' := [.dat (.str (sL l)), .raw (rsP H (((splL (l.take i)).map undig).set (splP (l.take i)).1.length (((splL (l.take i)).map undig).getD (splP (l.take i)).1.length [] ++ [(ch : Int) - 48])) (((nostr (l.take i)).map fun c => sL [c]) ++ [sL [ch]]) c), .val (.ref c), .un, .un]) ⟨?_, ?_⟩ (by repeat (first | exact Wk.nil | apply Wk.same | apply Wk.un)))))
        · rw [tkE]
          intro c hc
          rcases List.mem_append.mp hc with z | z
          · exact hf c z
          · rw [List.mem_singleton.mp z]; exact Or.inl hd
        · rw [tkE, splL_put hne, nostr_put hne, List.map_append, hgd, List.map_set, undig_put]; rfl
      · have e : dueOf l = none := if_neg fun z => by
          rcases z.1 ch (List.mem_of_getElem? hi) with y | y
          · rw [decide_eq_true (fig_mem.mpr y)] at q2; cases q2
          · exact hne y
        rw [e] at ho
        exact go_ret pd_non ho
  · rintro _ ⟨hf, rfl⟩
    rw [List.take_length] at hf ⊢
    have hn1 : (splL l).length ≤ 1001 := Nat.le_trans (words_len _) (by omega)
    have hn2 : (nostr l).length ≤ 1000 := Nat.le_trans (List.length_filter_le _ _) (by omega)
    refine go_rsFrz 1 2 (by decide) (by show 2 < 5; decide) rfl rfl ?_
    have hd := dcntS_lt ((nostr l).map fun c => sL [c])
    rw [decide_eq_decide.mpr (signs_nodup (nostr l))] at hd
    refine go_if (k := !decide (nostr l).Nodup || !(decide (2 ≤ (splL l).length) && decide ((splL l).length ≤ 4))) (TD.eq (TW.t (tw_or (td_cmp op_lt (PD.bo (pd_lenSetT (ys := (nostr l).map fun c => sL [c]) cx (PD.li (pd_var 2)) (by rw [List.length_map]; omega) T.len T.set)) (PD.bo (pd_len (PD.ls (pd_var 2)) T.len)) ob_lt (nomark _)) fun _ =>
      tw_or1 (td_not (td_chain op_le op_le pd_int (pd_lenRows 1 rfl T.len) pd_int (pt_chain op_le op_le pe_sem pe_sem pe_sem rfl))))) ?_) (fun q => ?_) (fun q => go_on ?_)
    · have e1 : ((((nostr l).map fun c => sL [c]).map PyData.str).length : Int) = (((nostr l).map fun c => sL [c]).length : Int) := by rw [List.length_map]
      rw [e1, hd, List.length_map]
      congr 2
      have a : decide ((2 : Int) ≤ ((splL l).length : Int)) = decide (2 ≤ (splL l).length) := decide_eq_decide.mpr ⟨fun h => by omega, fun h => by omega⟩
      have b : decide (((splL l).length : Int) ≤ (4 : Int)) = decide ((splL l).length ≤ 4) := decide_eq_decide.mpr ⟨fun h => by omega, fun h => by omega⟩
      rw [a, b]
    · have e : dueOf l = none := if_neg fun ⟨_, z2, z3, z4⟩ => by
        rw [decide_eq_true z2, decide_eq_true z3, decide_eq_true z4] at q; cases q
      rw [e] at ho
      exact go_ret pd_non ho
    · have z2 : (nostr l).Nodup := by
        by_cases z : (nostr l).Nodup
        · exact z
        · rw [decide_eq_false z] at q; cases q
      rw [decide_eq_true z2] at q
      have z34 : 2 ≤ (splL l).length ∧ (splL l).length ≤ 4 := by
        simpa using q
      have e : dueOf l = some ((splL l).map undig) := if_pos ⟨hf, z2, z34.1, z34.2⟩
      rw [e] at ho
      refine go_rowsFreeze 1 rfl ?_
      refine go_freeze 1 rfl ?_
      exact go_ret (PD.eq (pd_tupleN (PLc.n (pl_lc (xs := (splL l).map undig) (f := dSq false) (g := dRow) 4 cx (PD.itl (pd_var 1)) (fun Fp r hr' s5 H5 C5 cl5 fp5 => pd_tuple (PD.li (pd_var 4)) T.tuple) (szBig (by rw [List.length_map]; omega))) cx) T.tuple) rfl) ho
end
end G

namespace G
open PySem L2
section
variable {P : Program} {w : World} {K : PySem.W.Frag} {mg : Str → Option Value} {base : Heap}
theorem sc_cell_at : FnScope ["script", "k"] ["script", "k"] (defScope s_law_cell_at) := ⟨rfl, rfl, rfl, by decide +kernel, rfl, by decide +kernel, by decide +kernel⟩
abbrev sp_cell_at (K : PySem.W.Frag) (C : Addr) : Sp := spO K C (fun u : List Int × Int => [scr u.1, .int u.2]) (fun u => 0 ≤ u.2) (fun u => .val (.int (cellAt u.1 u.2)))
theorem ok_cell_at {C f : Addr} {fd : FuncData} (T : Bl mg) (F : L2.Fun K "_law_cell_at" "_law_cell_at" s_law_cell_at f fd) :
    FnOk P w K mg base (L2.CX P w) 1 f fd ["script", "k"] (sp_cell_at K C) := by
  refine ok_fn F sc_cell_at (fun _ => rfl) (fun cdv A outer s H F0 u Q E X hX cx hr tk hp ho => ?_)
  subst hX
  obtain ⟨ns, k⟩ := u
  dsimp only at hp ho ⊢
  refine go_if (td_cmp op_lt (PD.bo (pd_var 1)) (PD.bo (pd_len (PIs.it (PD.its (pd_var 0))) T.len)) ob_lt (nomark _)) (fun c => ?_) (fun c => go_on ?_)
  · have c' := of_decide_eq_true c
    rw [List.length_map] at c'
    have hk : k.toNat < ns.length := by omega
    refine go_ret (PD.eq (pd_ix (PIs.it (PD.its (pd_var 0))) (pd_var 1) (at_nat (j := k.toNat) (by omega) (row_at hk))) ?_) ho
    unfold cellAt
    rw [List.getD_eq_getElem?_getD]
  · have c' := of_decide_eq_false c
    rw [List.length_map] at c'
    refine go_ret (PD.eq pd_int ?_) ho
    unfold cellAt
    rw [List.getElem?_eq_none (by omega)]; rfl
end
end G

namespace G
open PySem L2
def txStep (ns : List Int) (s : List Nat × List Nat) (k : Nat) : List Nat × List Nat :=
  let cell := cellAt ns (3 + (k : Int))
  if cell % 4 = 0 then (s.1, s.2 ++ [47]) else if s.1 = [] then s else (s.1.eraseIdx (cell / 4 % (s.1.length : Int)).toNat, s.2 ++ [s.1.getD (cell / 4 % (s.1.length : Int)).toNat 0])
def txL (ns : List Int) (n : Nat) : List Nat × List Nat := (List.range n).foldl (txStep ns) ([48, 49, 50, 51, 52, 53, 54, 55, 56, 57], [])
theorem txL_succ (ns : List Int) (n : Nat) : txL ns (n + 1) = txStep ns (txL ns n) n := by
  unfold txL
  rw [List.range_succ, List.foldl_append]; rfl
theorem txL_ok (ns : List Int) (n : Nat) : (txL ns n).1.length ≤ 10 ∧ (∀ c ∈ (txL ns n).1, isDig c) ∧ (txL ns n).2.length ≤ n := by
  induction n with
  | zero =>
    refine ⟨(by show 10 ≤ 10; decide), ?_, (by show 0 ≤ 0; decide)⟩
    intro c hc
    have hc : c ∈ [48, 49, 50, 51, 52, 53, 54, 55, 56, 57] := hc
    simp only [List.mem_cons, List.not_mem_nil, or_false] at hc
    unfold isDig
    omega
  | succ n ih =>
    obtain ⟨a, b, c⟩ := ih
    rw [txL_succ]
    unfold txStep
    dsimp only
    split
    · exact ⟨a, b, by rw [List.length_append]; simp; omega⟩
    · split
      · exact ⟨a, b, by omega⟩
      · refine ⟨Nat.le_trans (List.length_eraseIdx_le _ _) a, fun x hx => b x (List.mem_of_mem_eraseIdx hx), by rw [List.length_append]; simp; omega⟩
theorem pl_sign {c : Nat} (h : isDig c) : PyData.strOk (sL [c]) = true := by
  obtain ⟨h0, h1⟩ := h
  have : c = 48 ∨ c = 49 ∨ c = 50 ∨ c = 51 ∨ c = 52 ∨ c = 53 ∨ c = 54 ∨ c = 55 ∨ c = 56 ∨ c = 57 := by omega
  rcases this with e | e | e | e | e | e | e | e | e | e <;> subst e <;> decide +kernel
theorem pl_signs {l : List Nat} (h : ∀ c ∈ l, isDig c) : Pl 1 (.list (l.map fun c => PyData.str (sL [c]))) := .lst fun d hd => by
  obtain ⟨c, hc, rfl⟩ := List.mem_map.mp hd
  exact .str (pl_sign (h c hc))
theorem eqv_nilS (ds : List PyData) : PyData.eqv (.list ds) (.list []) = decide (ds = []) := by
  cases ds with
  | nil => rfl
  | cons a r => rfl
theorem erase_map {α β : Type} (f : α → β) : ∀ (l : List α) (k : Nat), (l.map f).eraseIdx k = (l.eraseIdx k).map f
  | [], _ => rfl
  | a :: r, 0 => rfl
  | a :: r, k + 1 => by
    show f a :: (r.map f).eraseIdx k = _
    rw [erase_map f r k]; rfl
section
variable {P : Program} {w : World} {K : PySem.W.Frag} {mg : Str → Option Value} {base : Heap}
theorem sc_law_text : FnScope ["script", "left", "text", "k", "cell"] ["script"] (defScope s_law_text) := ⟨rfl, rfl, rfl, by decide +kernel, rfl, by decide +kernel, by decide +kernel⟩
abbrev textL (ns : List Int) : List Nat := (txL ns (cellAt ns 0 % 15).toNat).2
abbrev sp_law_text (K : PySem.W.Frag) (C : Addr) : Sp := spO K C (fun ns : List Int => [scr ns]) (fun _ => True) (fun ns => .val (.str (sL (textL ns))))
theorem ok_law_text {C f : Addr} {fd : FuncData} (T : Bl mg) (F : L2.Fun K "_law_text" "_law_text" s_law_text f fd) (cA : Cal P w K mg base "_law_cell_at" 1 (sp_cell_at K C)) : FnOk P w K mg base (L2.CX P w) 2 f fd ["script"] (sp_law_text K C) := by
  refine ok_fn F sc_law_text (fun _ => rfl) (fun cdv A outer s H F0 ns Q E X hX cx hr tk hp ho => ?_)
  subst hX
  have hfig : Str.ofString "0123456789" = sL [48, 49, 50, 51, 52, 53, 54, 55, 56, 57] := by decide +kernel
  refine go_asgN 1 cx.nd (pn_listS (l := [48, 49, 50, 51, 52, 53, 54, 55, 56, 57]) cx (PD.eq pd_str (by rw [hfig])) (Nat.le_of_ble_eq_true rfl) T.list) ?_
  refine go_asg 2 cx.nd (PD.eq pd_str (x := .str (sL [])) (by rw [empt])) ?_
  have m0 := Int.emod_nonneg (cellAt ns 0) (show (15 : Int) ≠ 0 by decide)
  have m1 := Int.emod_lt_of_pos (cellAt ns 0) (show (0 : Int) < 15 by decide)
  refine go_rng1 (n := cellAt ns 0 % 15) 3 (fun i ss => ss = [.dat (scr ns), .own ((txL ns i).1.map fun c => PyData.str (sL [c])), .dat (.str (sL (txL ns i).2)), .un, .un]) cx
    (pd_mod (pd_call cA hr (ns, 0) (pds_cons (pd_var 0) (pds_cons pd_int pds_nil)) rfl (show (0 : Int) ≤ 0 by decide)) pd_int) (by omega) rfl ?_ ?_ T.range
  · rintro i _ hi rfl
    obtain ⟨z1, z2, z3⟩ := txL_ok ns i
    have hi15 : i < 15 := by omega
    refine go_asg 4 cx.nd (pd_call cA hr (ns, 3 + (i : Int)) (pds_cons (pd_var 0) (pds_cons (pd_add pd_int (pd_var 3)) pds_nil)) rfl (show (0 : Int) ≤ 3 + (i : Int) by omega)) ?_
    have st := txL_succ ns i
    unfold txStep at st
    dsimp only at st ⊢
    generalize cellAt ns (3 + (i : Int)) = cc at st
    generalize txL ns i = u at st z1 z2 z3
    obtain ⟨lf, t⟩ := u
    dsimp only at st z1 z2 z3 ⊢
    refine go_if (td_cmp op_eq (PD.bo (pd_mod (pd_var 4) pd_int)) (PD.bo pd_int) ob_eqI (nomark _)) (fun q => ?_) (fun q => ?_)
    · rw [if_pos (of_decide_eq_true q)] at st
      refine go_asg 2 cx.nd (PD.eq (pd_addS (j := sL [47]) (pd_var 2) (PD.eq pd_str (by rw [slash])) (by rw [str_len, str_len]; exact sz4000 (by simp; omega))) (x := .str (sL (t ++ [47]))) (by rw [str_app])) (go_on (go_end (by rw [st]) (by repeat (first | exact Wk.nil | apply Wk.same | apply Wk.un))))
    · rw [if_neg (of_decide_eq_false q)] at st
      refine go_if (k := !decide (lf = [])) (TD.eq (td_cmp (op_neD cx.u64) (pb_own 1) (PN.bo (pn_lst pds_nil)) (ob_neD (pl_signs z2) (Pl.lst (n := 1) fun _ h => nomatch h) (by decide) (by decide)) (nomark _)) (by rw [eqv_nilS]; cases lf <;> rfl)) (fun q2 => ?_) (fun q2 => ?_)
      · have hne : lf ≠ [] := fun e => by
          rw [decide_eq_true e] at q2; cases q2
        rw [if_neg hne] at st
        have hpos : 0 < lf.length := List.length_pos_iff.mpr hne
        have e0 := Int.emod_nonneg (cc / 4) (show (lf.length : Int) ≠ 0 by omega)
        have e1 := Int.emod_lt_of_pos (cc / 4) (show (0 : Int) < (lf.length : Int) by omega)
        have hm : (cc / 4 % (lf.length : Int)).toNat < lf.length := by omega
        refine go_catPop 2 1 (k := cc / 4 % (lf.length : Int)) (m := (cc / 4 % (lf.length : Int)).toNat) (z := sL [lf.getD (cc / 4 % (lf.length : Int)).toNat 0]) cx (by decide) rfl rfl (PD.eq (pd_mod (pd_div (pd_var 4) pd_int) (pd_len (pi_own 1) T.len) (by rw [List.length_map]; omega)) (by rw [List.length_map])) ?_ ?_ ?_ ?_ ?_
        · rw [List.length_map]
          unfold ixN
          rw [if_pos e0, if_pos (by omega)]
        · rw [List.getElem?_map, List.getElem?_eq_getElem hm, List.getD_eq_getElem?_getD, List.getElem?_eq_getElem hm]; rfl
        · rw [str_len, str_len]; exact sz4000 (by simp; omega)
        · rw [List.length_map]; omega
        · refine go_on (go_on (go_end (ss' := [.dat (scr ns), .own ((lf.map fun c => PyData.str (sL [c])).eraseIdx (cc / 4 % (lf.length : Int)).toNat), .dat (.str (sL t ++ sL [lf.getD (cc / 4 % (lf.length : Int)).toNat 0])), .un, .un]) ?_ (by repeat (first | exact Wk.nil | apply Wk.same | apply Wk.un))))
          rw [st, str_app, erase_map]
      · have he : lf = [] := by
          by_cases z : lf = []
          · exact z
          · rw [decide_eq_false z] at q2; cases q2
        rw [if_pos he] at st
        exact go_on (go_on (go_end (by rw [st]) (by repeat (first | exact Wk.nil | apply Wk.same | apply Wk.un))))
  · rintro _ rfl
    exact go_ret (pd_var 2) ho
end
end G

namespace G
open PySem L2
section
variable {P : Program} {w : World} {K : PySem.W.Frag} {mg : Str → Option Value} {base : Heap}
theorem sc_read : FnScope ["text", "standing", "word", "crates"] ["text"] (defScope s_read) := ⟨rfl, rfl, rfl, by decide +kernel, rfl, by decide +kernel, by decide +kernel⟩
abbrev outRead (cB : Addr) (o : Option (List (List Int))) : Out := match o with
  | some S => .val (dSt S)
  | none => .exc cB
abbrev sp_read (K : PySem.W.Frag) (C cB : Addr) : Sp := spO K C (fun l : List Nat => [.str (sL l)]) (fun l => l.length ≤ 1000) (fun l => outRead cB (dueOf l))
theorem ok_read {C cB f : Addr} {fd : FuncData} (T : Bl mg) (F : L2.Fun K "read" "read" s_read f fd) (TB : ExT K mg "BadText" cB) (cS : Cal P w K mg base "stack_of" 1 (sp_stack_of K C cB)) (cC : Cal P w K mg base "crates_of" 1 (sp_crates_of K C)) : FnOk P w K mg base (L2.CX P w) 2 f fd ["text"] (sp_read K C cB) := by
  refine ok_fn F sc_read (fun _ => rfl) (fun cdv A outer s H F0 l Q E X hX cx hr tk hp ho => ?_)
  subst hX
  have hl : l.length ≤ 1000 := hp
  have hws : (splL l).length ≤ 1001 := Nat.le_trans (words_len _) (by omega)
  by_cases hf : figText l
  · have hw := (fig_words l).mp hf
    refine go_asg 1 cx.nd (PD.eq (pd_tupleN (PLc.n (pl_lc (xs := splL l) (f := fun r => PyData.str (sL r)) (g := fun r => dRow (undig r)) 2 cx (PN.its (PN.eq (pn_split (u := sL l) (v := sL [47]) (pd_var 0) (PD.eq pd_str (by rw [slash])) (by decide) (by rw [str_len]; have := sizeLine_eq; omega)) (by rw [split_text, List.map_map]; rfl))) (fun Fp r hr' s5 H5 C5 cl5 fp5 => ?_) (szBig (by omega))) cx) T.tuple) (x := dSt ((splL l).map undig)) (by show _ = PyData.tuple _; rw [List.map_map]; rfl)) ?_
    · exact pd_call cS hr r (pds_cons (pd_var 2) pds_nil) (if_pos (List.all_eq_true.mpr fun c hc => decide_eq_true (hw r hr' c hc))) (by show r.length ≤ 1000; exact Nat.le_trans (word_len hr') hl)
    have hfl : ((splL l).map undig).flatten = undig (l.filter fun c => !decide (c = 47)) := by rw [undig_flat, splL_flat]
    have hfll : ((splL l).map undig).flatten.length ≤ 1000 := by
      rw [hfl]; unfold undig; rw [List.length_map]
      exact Nat.le_trans (List.length_filter_le _ _) hl
    refine go_asgN 3 cx.nd (pn_call cC hr ((splL l).map undig) (pds_cons (pd_var 1) pds_nil) rfl hfll) ?_
    have hz : (isort ((splL l).map undig).flatten).length ≤ 4000 := by rw [isort_length]; omega
    have hnd : decide (isort ((splL l).map undig).flatten).Nodup = decide (l.filter fun c => !decide (c = 47)).Nodup := by
      rw [decide_eq_decide, nodup_isort, hfl, undig_nodup]
    refine go_if (k := !(decide (2 ≤ (splL l).length) && decide ((splL l).length ≤ 4)) || !decide (l.filter fun c => !decide (c = 47)).Nodup) (TD.eq (TW.t (tw_or (td_not (td_chain op_le op_le pd_int (pd_len (PD.tp (pd_var 1)) T.len) pd_int (pt_chain op_le op_le pe_sem pe_sem pe_sem rfl))) fun _ => tw_or1 (td_cmp op_lt (PD.bo (pd_lenSet cx (pl_own 3) hz T.len T.set)) (PD.bo (pd_len (pi_own 3) T.len)) ob_lt (nomark _)))) ?_) (fun q => ?_) (fun q => go_on ?_)
    · rw [List.length_map, List.length_map, List.length_map, dcount_lt, hnd]
      have a : decide ((2 : Int) ≤ ((splL l).length : Int)) = decide (2 ≤ (splL l).length) := decide_eq_decide.mpr ⟨fun h => by omega, fun h => by omega⟩
      have b : decide (((splL l).length : Int) ≤ (4 : Int)) = decide ((splL l).length ≤ 4) := decide_eq_decide.mpr ⟨fun h => by omega, fun h => by omega⟩
      rw [a, b]
    · have e : dueOf l = none := if_neg fun ⟨_, z2, z3, z4⟩ => by
        rw [decide_eq_true z2, decide_eq_true z3, decide_eq_true z4] at q; cases q
      rw [e] at ho
      exact go_raise cx.calm tk TB (fun σ F H' sa => ho H' sa.g.hh)
    · have e : dueOf l = some ((splL l).map undig) := by
        simp only [Bool.or_eq_false_iff, Bool.not_eq_false', Bool.and_eq_true, decide_eq_true_eq] at q
        exact if_pos ⟨hf, q.2, q.1.1, q.1.2⟩
      rw [e] at ho
      exact go_ret (pd_var 1) ho
  · have e : dueOf l = none := if_neg fun z => hf z.1
    rw [e] at ho
    obtain ⟨w0, hw0, hb0⟩ : ∃ r ∈ splL l, ¬ r.all (fun c => decide (isDig c)) = true := by
      refine Classical.byContradiction fun z => hf ((fig_words l).mpr fun r hr' c hc => ?_)
      refine Classical.byContradiction fun z2 => z ⟨r, hr', fun z3 => z2 ?_⟩
      exact of_decide_eq_true (List.all_eq_true.mp z3 c hc)
    refine go_asg 1 cx.nd (pd_tupleN (pn_lcX (W := dW E) (xs := splL l) (f := fun r => PyData.str (sL r)) (g := fun r => if r.all (fun c => decide (isDig c)) = true then dRow (undig r) else .dict []) 2 cx tk (fun _ _ _ _ _ h => h) (PN.its (PN.eq (pn_split (u := sL l) (v := sL [47]) (pd_var 0) (PD.eq pd_str (by rw [slash])) (by decide) (by rw [str_len]; have := sizeLine_eq; omega)) (by rw [split_text, List.map_map]; rfl))) (fun Fp r hr' s5 H5 C5 cl5 fp5 => ?_) (szBig (by omega))) T.tuple) ?_
    · have hrl : r.length ≤ 1000 := Nat.le_trans (word_len hr') hl
      by_cases g : r.all (fun c => decide (isDig c)) = true
      · exact pd_call cS hr r (pds_cons (pd_var 2) pds_nil) (by rw [if_pos g, if_pos g]) hrl
      · exact pd_callX cS hr r (pds_cons (pd_var 2) pds_nil) (if_neg g) hrl (fun σ H' h => ho H' h)
    · intro σ F H' sa
      obtain ⟨v, ev, rv⟩ := sa.slot 1 _ rfl
      exfalso
      cases rv with
      | tup h r =>
        have key : ∀ (ds : List PyData) (vs : List V), PyData.dict [] ∈ ds → RpAll K C F vs ds → False := by
          intro ds
          induction ds with
          | nil => intro vs h; cases h
          | cons d ds ih => intro vs h r; cases r with
            | cons r1 r2 =>
              rcases List.mem_cons.mp h with z | z
              · subst z; cases r1
              · exact ih _ z r2
        exact key _ _ (List.mem_map.mpr ⟨w0, hw0, if_neg hb0⟩) r
end
end G

namespace G
open PySem L2
section
variable {P : Program} {w : World} {K : PySem.W.Frag} {mg : Str → Option Value} {base : Heap}
theorem sc_law_kind : FnScope ["e", "kinds"] ["e"] (defScope s_law_kind) := ⟨rfl, rfl, rfl, by decide +kernel, rfl, by decide +kernel, by decide +kernel⟩
theorem ok_law_kind {C f : Addr} {fd : FuncData} {c : Nat → Addr} (T : Bl mg) (KT : KindT mg c) (F : L2.Fun K "_law_kind" "_law_kind" s_law_kind f fd) : FnE P w K mg base 1 f fd ["e"] (spKind K C c) := by
  refine fnE_of F sc_law_kind (fun p vs H Q E ⟨k, D, F0, hv, _⟩ => by rw [hv]; rfl) (fun p cdv A outer s H vs Q E X hX ⟨k, D, F0, hv, hf, hz, hd, kd, ho⟩ => ?_)
  subst hv
  have start : Sat K ⟨C, F0, H, F0⟩ [.val (.ref p.1), .un] (L2.start ["e", "kinds"] [.ref p.1]) F0 H := by
    refine ⟨Grow.refl hf, Same.refl _, rfl, fun i sd e => ?_, fun i j xs ys hij e1 e2 => ?_⟩
    · match i, e with
      | 0, e => cases e; rfl
      | 1, e => cases e; trivial
      | i + 2, e => simp at e
    · match i, e1 with
      | 0, e => cases e
      | 1, e => cases e
      | i + 2, e => simp at e
  have hq : p ∈ X.pn := by subst hX; exact List.mem_singleton.mpr rfl
  have hmI : X.mg "isinstance" = none := by subst hX; exact T.isinstance
  have kd' : KindOf X.K c k D := by subst hX; exact kd
  have KT' : KindT X.mg c := by subst hX; exact KT
  have nd : X.N.Nodup := by subst hX; exact sc_law_kind.nd
  have hKX : X.K = K := by subst hX; rfl
  have main : Go X ⟨C, F0, H, F0⟩ (defBody s_law_kind) [.val (.ref p.1), .un] { nx := fun _ H' => Q .non H', rt := Q } := by
    subst hX
    have cE := kd'.ex
    refine go_asgN 1 nd (pn_lst (pds_cons (pd_isOwn 0 cE hq hz hd rfl KT'.g0 (kd'.is 0 (by decide)) hmI) (pds_cons (pd_isOwn 0 cE hq hz hd rfl KT'.g1 (kd'.is 1 (by decide)) hmI)
      (pds_cons (pd_isOwn 0 cE hq hz hd rfl KT'.g2 (kd'.is 2 (by decide)) hmI) (pds_cons (pd_isOwn 0 cE hq hz hd rfl KT'.g3 (kd'.is 3 (by decide)) hmI) pds_nil))))) ?_
    refine go_freeze 1 rfl ?_
    refine go_asgN 1 nd (pn_cat (pd_var 1) (PN.da (pn_lst (pds_cons (pd_isOwn 0 cE hq hz hd rfl KT'.g4 (kd'.is 4 (by decide)) hmI) (pds_cons (pd_isOwn 0 cE hq hz hd rfl KT'.g5 (kd'.is 5 (by decide)) hmI)
      (pds_cons (pd_isOwn 0 cE hq hz hd rfl KT'.g6 (kd'.is 6 (by decide)) hmI) (pds_cons (pd_isOwn 0 cE hq hz hd rfl KT'.g7 (kd'.is 7 (by decide)) hmI) pds_nil)))))) (sz4000 (Nat.le_of_ble_eq_true rfl))) ?_
    refine go_freeze 1 rfl ?_
    refine go_retN (pn_cat (pd_var 1) (PN.da (pn_lst (pds_cons (pd_isE 0 cE hq hz hd rfl (pe_bltn rfl KT'.vE (by decide +kernel : bootBuiltins "ValueError" = some (.type "ValueError")) (v := .ty "ValueError") rfl) (fun _ r => r) kd'.vE hmI) pds_nil))) (by refine sz4000 ?_; rw [List.length_map, List.length_range]; exact Nat.le_of_ble_eq_true rfl)) ho
  have := main _ F0 H (by rw [hKX]; exact start)
  exact this
theorem sc_law_one : FnScope ["k", "j"] ["k"] (defScope s_law_one) := ⟨rfl, rfl, rfl, by decide +kernel, rfl, by decide +kernel, by decide +kernel⟩
abbrev sp_law_one (K : PySem.W.Frag) (C : Addr) : Sp := spO K C (fun k : Nat => [.int (k : Int)]) (fun _ => True) (fun k => .new (oneD k))
theorem ok_law_one {C f : Addr} {fd : FuncData} (T : Bl mg) (F : L2.Fun K "_law_one" "_law_one" s_law_one f fd) : FnOk P w K mg base (L2.CX P w) 1 f fd ["k"] (sp_law_one K C) := by
  refine ok_fn F sc_law_one (fun _ => rfl) (fun cdv A outer s H F0 k Q E X hX cx hr tk hp ho => ?_)
  subst hX
  refine go_retN (PN.eq (pn_cat (PN.da (PLc.n (pl_lcR (g := fun j => .bool (decide ((k : Int) = (j : Int)))) 1 cx pd_int (by decide) (fun i hi s5 H5 C5 cl5 fp5 => pd_cmp op_eq (PD.bo (pd_var 0)) (PD.bo (pd_var 1)) ob_eqI (nomark _)) T.range) cx)) (PN.da (pn_lst (pds_cons pd_bl pds_nil))) (by refine sz4000 ?_; rw [List.length_map, List.length_range]; decide)) ?_) ho
  unfold oneD
  congr 1
  have e : ∀ j : Nat, decide ((k : Int) = (j : Int)) = decide (k = j) := fun j => decide_eq_decide.mpr ⟨fun h => by omega, fun h => by omega⟩
  simp only [e]
  rfl
end
end G

namespace G
open PySem L2
section
variable {P : Program} {w : World} {K : PySem.W.Frag} {mg : Str → Option Value} {base : Heap}
theorem sc_law_whole : FnScope ["found"] ["found"] (defScope s_law_whole) := ⟨rfl, rfl, rfl, by decide +kernel, rfl, by decide +kernel, by decide +kernel⟩
abbrev sp_law_whole (K : PySem.W.Frag) (C : Addr) : Sp := spO K C (fun i : Int => [.int i]) (fun _ => True) (fun _ => .val (.bool true))
theorem ok_law_whole {C f : Addr} {fd : FuncData} (T : Bl mg) (F : L2.Fun K "_law_whole" "_law_whole" s_law_whole f fd) : FnOk P w K mg base (L2.CX P w) 1 f fd ["found"] (sp_law_whole K C) := by
  refine ok_fn F sc_law_whole (fun _ => rfl) (fun cdv A outer s H F0 i Q E X hX cx hr tk hp ho => ?_)
  subst hX
  exact go_ret (PD.eq (pd_and (pd_isi "int" (PD.bo (pd_var 0)) rfl (k := true) (by decide +kernel) T.isinstance T.int) fun _ => pd_one (pd_not (pd_isi "bool" (PD.bo (pd_var 0)) rfl (k := false) (by decide +kernel) T.isinstance T.bool))) rfl) ho
end
end G

namespace G
open PySem L2
theorem pl_oneB (k : Nat) : Pl 1 (.list (oneD k)) := .lst fun d hd => by
  rcases List.mem_append.mp hd with z | z
  · obtain ⟨j, _, rfl⟩ := List.mem_map.mp z
    exact .bl
  · rw [List.mem_singleton.mp z]; exact .bl
theorem pl_nilB : Pl 1 (.list []) := .lst fun _ h => nomatch h
theorem cut_le (l : List Nat) (lo hi : Option Int) : (cutL l lo hi).length ≤ l.length := by
  unfold cutL
  rw [List.length_take, List.length_drop]
  omega
section
variable {P : Program} {w : World} {K : PySem.W.Frag} {mg : Str → Option Value} {base : Heap}
theorem sc_law : FnScope ["script", "text", "mode", "cell", "at", "sign", "due", "found", "kinds", "e", "stack", "crate"] ["script"] (defScope s_law) := ⟨rfl, rfl, rfl, by decide +kernel, rfl, by decide +kernel, by decide +kernel⟩
theorem ok_law {C cB cCE f : Addr} {fd : FuncData} {c : Nat → Addr} (T : Bl mg) (F : L2.Fun K "law" "law" s_law f fd) (hCE : mg "CraneError" = some (.ref cCE)) (x1 : PySem.W.exmOne K (.ref cB) (.ref cCE) = some true) (k1 : KindOf K c 7 cB)
    (cA : Cal P w K mg base "_law_cell_at" 1 (sp_cell_at K C)) (cT : Cal P w K mg base "_law_text" 2 (sp_law_text K C)) (cD : Cal P w K mg base "_law_due" 1 (sp_law_due K C)) (cW : Cal P w K mg base "_law_whole" 1 (sp_law_whole K C))
    (cK : CalE P w K mg base "_law_kind" 1 (spKind K C c)) (cO : Cal P w K mg base "_law_one" 1 (sp_law_one K C)) (cR : Cal P w K mg base "read" 2 (sp_read K C cB)) : FnOk P w K mg base (L2.CX P w) 3 f fd ["script"] (sp_law K C) := by
  refine ok_fn F sc_law (fun _ => rfl) (fun cdv A outer s H F0 ns Q E X hX cx hr tk hp ho => ?_)
  subst hX
  have hr1 : Room 1 _ := hr.mono (by decide)
  refine go_asg 1 cx.nd (pd_call cT hr ns (pds_cons (pd_var 0) pds_nil) rfl trivial) ?_
  have hl0 : (textL ns).length ≤ 14 := by
    have m0 := Int.emod_nonneg (cellAt ns 0) (show (15 : Int) ≠ 0 by decide)
    have m1 := Int.emod_lt_of_pos (cellAt ns 0) (show (0 : Int) < 15 by decide)
    have := (txL_ok ns (cellAt ns 0 % 15).toNat).2.2
    unfold textL
    omega
  generalize textL ns = t0 at hl0
  refine go_asg 2 cx.nd (pd_mod (pd_call cA hr1 (ns, 1) (pds_cons (pd_var 0) (pds_cons pd_int pds_nil)) rfl (show (0 : Int) ≤ 1 by decide)) pd_int) ?_
  refine go_asg 3 cx.nd (pd_call cA hr1 (ns, 2) (pds_cons (pd_var 0) (pds_cons pd_int pds_nil)) rfl (show (0 : Int) ≤ 2 by decide)) ?_
  refine go_asg 4 cx.nd (pd_mod (pd_var 3) (pd_add (pd_lenS (pd_var 1) (by rw [str_len]; exact sz4000 (by omega)) T.len) pd_int) (by omega)) ?_
  have g0 := Int.emod_nonneg (cellAt ns 2 / 16) (show (16 : Int) ≠ 0 by decide)
  have g1 := Int.emod_lt_of_pos (cellAt ns 2 / 16) (show (0 : Int) < 16 by decide)
  dsimp only
  generalize cellAt ns 1 % 4 = mode
  generalize cellAt ns 2 % (((sL t0).length : Int) + 1) = at_
  generalize cellAt ns 2 = cell at g0 g1
  have hsz : (Str.ofString "0123456789/ -a\n\t").cps.toList.length = 16 := by decide +kernel
  obtain ⟨sg, hsg⟩ : ∃ sg, atI (Str.ofString "0123456789/ -a\n\t").cps.toList (cell / 16 % 16) = some sg := by
    have hj : (cell / 16 % 16).toNat < (Str.ofString "0123456789/ -a\n\t").cps.toList.length := by rw [hsz]; omega
    have e : cell / 16 % 16 = (((cell / 16 % 16).toNat : Nat) : Int) := by omega
    rw [e]
    exact ⟨_, atI_nat (List.getElem?_eq_getElem hj)⟩
  refine go_asg 5 cx.nd (PD.eq (pd_ixS pd_str (pd_mod (pd_div (pd_var 3) pd_int) pd_int) (by decide +kernel) hsg) (x := .str (sL [sg])) rfl) ?_
  refine go_ifJ (fun ss => ∃ t, t.length ≤ 29 ∧ ss = [.dat (scr ns), .dat (.str (sL t)), .dat (.int mode), .dat (.int cell), .dat (.int at_), .dat (.str (sL [sg])), .un, .un, .un, .un, .un, .un])
    (td_cmp op_eq (PD.bo (pd_var 2)) (PD.bo pd_int) ob_eqI (nomark _)) (fun q => ?_) (fun q => go_end ⟨t0, by omega, rfl⟩) ?_
  · have a1 := cut_le t0 none (some at_)
    have a2 := cut_le t0 (some at_) none
    refine go_asg 1 cx.nd (PD.eq (pd_addS (j := sL (cutL t0 (some at_) none)) (PD.eq (pd_addS (j := sL [sg]) (pd_slS (l := t0) (pd_var 1) pod_none (pod_some (pd_var 4)) (sz4000 (by omega))) (pd_var 5) (by rw [str_len, str_len]; exact sz4000 (by simp; omega))) (x := .str (sL (cutL t0 none (some at_) ++ [sg]))) (by rw [str_app])) (pd_slS (l := t0) (pd_var 1) (pod_some (pd_var 4)) pod_none (sz4000 (by omega))) (by rw [str_len, str_len]; exact sz4000 (by rw [List.length_append]; simp; omega))) (x := .str (sL (cutL t0 none (some at_) ++ [sg] ++ cutL t0 (some at_) none))) (by rw [str_app])) ?_
    exact go_end ⟨cutL t0 none (some at_) ++ [sg] ++ cutL t0 (some at_) none, by rw [List.length_append, List.length_append]; simp; omega, rfl⟩
  rintro _ ⟨t1, hl1, rfl⟩
  refine go_ifJ (fun ss => ∃ t, t.length ≤ 59 ∧ ss = [.dat (scr ns), .dat (.str (sL t)), .dat (.int mode), .dat (.int cell), .dat (.int at_), .dat (.str (sL [sg])), .un, .un, .un, .un, .un, .un])
    (td_cmp op_eq (PD.bo (pd_var 2)) (PD.bo pd_int) ob_eqI (nomark _)) (fun q => ?_) (fun q => go_end ⟨t1, by omega, rfl⟩) ?_
  · have a1 := cut_le t1 none (some at_)
    have a2 := cut_le t1 (some (at_ + 1)) none
    refine go_asg 1 cx.nd (PD.eq (pd_addS (j := sL (cutL t1 (some (at_ + 1)) none)) (PD.eq (pd_addS (j := sL [sg]) (pd_slS (l := t1) (pd_var 1) pod_none (pod_some (pd_var 4)) (sz4000 (by omega))) (pd_var 5) (by rw [str_len, str_len]; exact sz4000 (by simp; omega))) (x := .str (sL (cutL t1 none (some at_) ++ [sg]))) (by rw [str_app])) (pd_slS (l := t1) (pd_var 1) (pod_some (pd_add (pd_var 4) pd_int)) pod_none (sz4000 (by omega))) (by rw [str_len, str_len]; exact sz4000 (by rw [List.length_append]; simp; omega))) (x := .str (sL (cutL t1 none (some at_) ++ [sg] ++ cutL t1 (some (at_ + 1)) none))) (by rw [str_app])) ?_
    exact go_end ⟨cutL t1 none (some at_) ++ [sg] ++ cutL t1 (some (at_ + 1)) none, by rw [List.length_append, List.length_append]; simp; omega, rfl⟩
  rintro _ ⟨t2, hl2, rfl⟩
  refine go_ifJ (fun ss => ∃ t, t.length ≤ 118 ∧ ss = [.dat (scr ns), .dat (.str (sL t)), .dat (.int mode), .dat (.int cell), .dat (.int at_), .dat (.str (sL [sg])), .un, .un, .un, .un, .un, .un])
    (td_cmp op_eq (PD.bo (pd_var 2)) (PD.bo pd_int) ob_eqI (nomark _)) (fun q => ?_) (fun q => go_end ⟨t2, by omega, rfl⟩) ?_
  · have a1 := cut_le t2 none (some at_)
    have a2 := cut_le t2 (some (at_ + 1)) none
    refine go_asg 1 cx.nd (PD.eq (pd_addS (j := sL (cutL t2 (some (at_ + 1)) none)) (pd_slS (l := t2) (pd_var 1) pod_none (pod_some (pd_var 4)) (sz4000 (by omega))) (pd_slS (l := t2) (pd_var 1) (pod_some (pd_add (pd_var 4) pd_int)) pod_none (sz4000 (by omega))) (by rw [str_len, str_len]; exact sz4000 (by omega))) (x := .str (sL (cutL t2 none (some at_) ++ cutL t2 (some (at_ + 1)) none))) (by rw [str_app])) ?_
    exact go_end ⟨cutL t2 none (some at_) ++ cutL t2 (some (at_ + 1)) none, by rw [List.length_append]; omega, rfl⟩
  rintro _ ⟨t, hl, rfl⟩
  refine go_asg 6 cx.nd (pd_call cD hr1 t (pds_cons (pd_var 1) pds_nil) rfl (show t.length ≤ 1000 by omega)) ?_
  have hread : t.length ≤ 1000 := by omega
  generalize hdue : dueOf t = due
  let b0 : List SD := [.dat (scr ns), .dat (.str (sL t)), .dat (.int mode), .dat (.int cell), .dat (.int at_), .dat (.str (sL [sg])), .dat (dDue due)]
  refine go_asg 7 cx.nd pd_non ?_
  refine go_asgN 8 cx.nd (pn_lst pds_nil) ?_
  refine go_freeze 8 rfl ?_
  refine go_try 9 (fun E => E = cB ∧ due = none)
    (fun ss' => (due = none ∧ ss' = b0 ++ [.dat .none, .dat (.list (oneD 7)), .un, .un, .un]) ∨ (∃ S, due = some S ∧ ss' = b0 ++ [.dat (dSt S), .dat (.list []), .un, .un, .un]))
    (fun ss' => ∃ sd, due = none ∧ ss' = b0 ++ [.dat .none, .dat (.list (oneD 7)), sd, .un, .un]) cx hCE ?_ ?_ ?_ ?_ ?_
  · rintro E ⟨rfl, _⟩
    exact x1
  · intro pn xe W tk' hW cxt
    rcases (show (∃ S, due = some S) ∨ due = none by cases due with
      | none => exact Or.inr rfl
      | some S => exact Or.inl ⟨S, rfl⟩) with ⟨S, hd⟩ | hd
    · refine go_asg 7 cxt.nd (pd_call (d := dSt S) cR (hr.mono (by decide)) t (pds_cons (pd_var 1) pds_nil) (by rw [hdue, hd]) hread) ?_
      exact go_end (Or.inr ⟨S, hd, rfl⟩)
    · exact go_asgX (i := 7) cxt.nd rfl (px_call tk' cR (hr.mono (by decide)) t (pds_cons (pd_var 1) pds_nil) (by rw [hdue, hd]) hread) (fun σ F H' sa H2 e => hW cB σ F H' ⟨rfl, hd⟩ sa H2 e)
  · rintro E a oe pn ⟨rfl, hd⟩ hz2 hf2
    have hrH := L2H.roomH_of (hr.mono (show 1 ≤ 2 by decide))
    refine go_asgN 8 cx.nd (pn_kind (q := (a, oe)) (m := 7) 9 cK ⟨hrH.dp, hrH.un⟩ List.mem_cons_self hz2 hf2 k1 rfl) ?_
    refine go_freeze 8 rfl ?_
    exact go_end ⟨_, hd, rfl⟩
  · rintro _ ⟨sd, hd, rfl⟩
    exact Or.inl ⟨hd, rfl⟩
  rintro _ (⟨hd, rfl⟩ | ⟨S, hd, rfl⟩)
  · subst hd
    refine go_if (k := true) (td_cmp op_isN (PD.bo (pd_var 6)) (PD.bo pd_non) ob_isN (nomark _)) (fun _ => ?_) (fun q => by cases q)
    refine go_ret (PD.eq (pd_and (u := true) (pd_cmp op_isN (PD.bo (pd_var 7)) (PD.bo pd_non) ob_isN (nomark _)) fun _ => pd_one (pd_cmp (op_eqD cx.u64) (PD.bo (pd_var 8)) (PN.bo (pn_call cO hr1 7 (pds_cons pd_int pds_nil) rfl trivial)) (ob_eqD (pl_oneB 7) (pl_oneB 7) (by decide) (by decide)) (nomark _))) (by rw [eqv_refl (pl_oneB 7)]; rfl)) ho
  · subst hd
    refine go_if (k := false) (td_cmp op_isN (PD.bo (pd_var 6)) (PD.bo pd_non) ob_isN (nomark _)) (fun q => by cases q) (fun _ => go_on ?_)
    refine go_if (k := false) (TD.eq (TW.t (tw_or (td_cmp (op_neD cx.u64) (PD.bo (pd_var 8)) (PN.bo (pn_lst pds_nil)) (ob_neD pl_nilB pl_nilB (by decide) (by decide)) (nomark _)) fun _ => tw_or (td_not (td_val (pd_isi "tuple" (PD.bo (pd_var 7)) rfl (k := true) (by decide +kernel) T.isinstance T.tuple))) fun _ => tw_or1 (td_cmp (op_neD cx.u64) (PD.bo (pd_var 7)) (PD.bo (pd_var 6)) (ob_neD (pl_st S) (pl_st S) (by decide) (by decide)) (nomark _)))) (by rw [eqv_st, decide_eq_true rfl]; rfl)) (fun q => by cases q) (fun _ => go_on ?_)
    have hS : S.length ≤ 1001 ∧ ∀ r ∈ S, r.length ≤ 1000 := by
      unfold dueOf at hdue
      split at hdue
      · cases hdue
        refine ⟨by rw [List.length_map]; exact Nat.le_trans (words_len _) (by omega), fun r hr' => ?_⟩
        obtain ⟨q, hq, rfl⟩ := List.mem_map.mp hr'
        unfold undig
        rw [List.length_map]
        exact Nat.le_trans (word_len hq) hread
      · cases hdue
    refine go_for (xs := S) (f := dRow) 10 (fun i ss => ss = [.dat (scr ns), .dat (.str (sL t)), .dat (.int mode), .dat (.int cell), .dat (.int at_), .dat (.str (sL [sg])), .dat (dDue (some S)), .dat (dSt S), .dat (.list []), .un, .un, .un]) cx (PD.itt (pd_var 7)) rfl ?_ ?_
    · rintro Fp i r _ hi rfl
      have hrow := hS.2 r (List.mem_of_getElem? hi)
      have hall : (r.map fun _ => true).all id = true := by rw [List.all_map]; exact List.all_eq_true.mpr fun _ _ => rfl
      refine go_if (k := false) (TD.eq (TW.t (tw_or (td_not (td_val (pd_isi "tuple" (PD.bo (pd_var 10)) rfl (k := true) (by decide +kernel) T.isinstance T.tuple))) fun _ => tw_or1 (td_not (td_val (pd_all (bs := r.map fun _ => true) cx.calm (PN.li (PN.eq (PLc.n (pl_lc (f := PyData.int) (g := fun _ => PyData.bool true) 11 cx (PD.itt (pd_var 10)) (fun Fp c hc s5 H5 C5 cl5 fp5 => pd_call cW hr1 c (pds_cons (pd_var 11) pds_nil) rfl trivial) (szBig (by omega))) cx) (by rw [List.map_map]; rfl))) T.all)))))
        (by rw [hall]; rfl)) (fun c => by cases c) (fun _ => go_on (go_end rfl (by repeat (first | exact Wk.nil | apply Wk.same | apply Wk.un))))
    · rintro _ rfl
      exact go_ret pd_bl ho
end
end G

namespace G
open PySem L2
theorem all_mk {l : PySem.W.OpenLaw} {w : World} {K : PySem.W.Frag} {h : Heap} {mg : Str → Option Value} {fa f_crates_of f_stack_of f_read f_law_cell_at f_law_whole f_law_kind f_law_one f_law_due f_law_text f_law C_BadText C_NoFloor C_NoStanding C_NoLift C_OtherCrates C_TooMany C_NoNames C_NoOrder C_CraneError : Addr} (X : K.In h) (G : h.Ns mainGlobals mg) (hfa : mg "law" = some (.ref fa))
    {od_crates_of an_crates_of od_stack_of an_stack_of od_read an_read od_law_cell_at an_law_cell_at od_law_whole an_law_whole od_law_kind an_law_kind od_law_one an_law_one od_law_due an_law_due od_law_text an_law_text od_law an_law : Option Addr}
    {tf : Nat}
    {sl_crates_of sl_stack_of sl_read sl_law_cell_at sl_law_whole sl_law_kind sl_law_one sl_law_due sl_law_text sl_law : Array (Option Value)}
    {oc_crates_of kV_crates_of dc_crates_of pm_crates_of cd_crates_of ct_crates_of oc_stack_of kV_stack_of dc_stack_of pm_stack_of cd_stack_of ct_stack_of oc_read kV_read dc_read pm_read cd_read ct_read oc_law_cell_at kV_law_cell_at dc_law_cell_at pm_law_cell_at cd_law_cell_at ct_law_cell_at oc_law_whole kV_law_whole dc_law_whole pm_law_whole cd_law_whole ct_law_whole oc_law_kind kV_law_kind dc_law_kind pm_law_kind cd_law_kind ct_law_kind oc_law_one kV_law_one dc_law_one pm_law_one cd_law_one ct_law_one oc_law_due kV_law_due dc_law_due pm_law_due cd_law_due ct_law_due oc_law_text kV_law_text dc_law_text pm_law_text cd_law_text ct_law_text oc_law kV_law dc_law pm_law cd_law ct_law : Value}
    (a_crates_of : PySem.W.nsIn K mainGlobals "crates_of" = some (some (.ref f_crates_of)))
    (l_crates_of : K.lookup f_crates_of = some ⟨oc_crates_of, od_crates_of, .func (PySem.W.fnOf "crates_of" "crates_of" (defArgs s_crates_of) (defBody s_crates_of) (defScope s_crates_of) .none kV_crates_of dc_crates_of pm_crates_of an_crates_of cd_crates_of ct_crates_of), sl_crates_of⟩)
    (c_crates_of : PySem.W.codeIn K cd_crates_of "crates_of" = true)
    (k_crates_of : PySem.W.keepIn K (.ref f_crates_of) = true)
    (a_stack_of : PySem.W.nsIn K mainGlobals "stack_of" = some (some (.ref f_stack_of)))
    (l_stack_of : K.lookup f_stack_of = some ⟨oc_stack_of, od_stack_of, .func (PySem.W.fnOf "stack_of" "stack_of" (defArgs s_stack_of) (defBody s_stack_of) (defScope s_stack_of) .none kV_stack_of dc_stack_of pm_stack_of an_stack_of cd_stack_of ct_stack_of), sl_stack_of⟩)
    (c_stack_of : PySem.W.codeIn K cd_stack_of "stack_of" = true)
    (k_stack_of : PySem.W.keepIn K (.ref f_stack_of) = true)
    (a_read : PySem.W.nsIn K mainGlobals "read" = some (some (.ref f_read)))
    (l_read : K.lookup f_read = some ⟨oc_read, od_read, .func (PySem.W.fnOf "read" "read" (defArgs s_read) (defBody s_read) (defScope s_read) .none kV_read dc_read pm_read an_read cd_read ct_read), sl_read⟩)
    (c_read : PySem.W.codeIn K cd_read "read" = true)
    (k_read : PySem.W.keepIn K (.ref f_read) = true)
    (a_law_cell_at : PySem.W.nsIn K mainGlobals "_law_cell_at" = some (some (.ref f_law_cell_at)))
    (l_law_cell_at : K.lookup f_law_cell_at = some ⟨oc_law_cell_at, od_law_cell_at, .func (PySem.W.fnOf "_law_cell_at" "_law_cell_at" (defArgs s_law_cell_at) (defBody s_law_cell_at) (defScope s_law_cell_at) .none kV_law_cell_at dc_law_cell_at pm_law_cell_at an_law_cell_at cd_law_cell_at ct_law_cell_at), sl_law_cell_at⟩)
    (c_law_cell_at : PySem.W.codeIn K cd_law_cell_at "_law_cell_at" = true)
    (k_law_cell_at : PySem.W.keepIn K (.ref f_law_cell_at) = true)
    (a_law_whole : PySem.W.nsIn K mainGlobals "_law_whole" = some (some (.ref f_law_whole)))
    (l_law_whole : K.lookup f_law_whole = some ⟨oc_law_whole, od_law_whole, .func (PySem.W.fnOf "_law_whole" "_law_whole" (defArgs s_law_whole) (defBody s_law_whole) (defScope s_law_whole) .none kV_law_whole dc_law_whole pm_law_whole an_law_whole cd_law_whole ct_law_whole), sl_law_whole⟩)
    (c_law_whole : PySem.W.codeIn K cd_law_whole "_law_whole" = true)
    (k_law_whole : PySem.W.keepIn K (.ref f_law_whole) = true)
    (a_law_kind : PySem.W.nsIn K mainGlobals "_law_kind" = some (some (.ref f_law_kind)))
    (l_law_kind : K.lookup f_law_kind = some ⟨oc_law_kind, od_law_kind, .func (PySem.W.fnOf "_law_kind" "_law_kind" (defArgs s_law_kind) (defBody s_law_kind) (defScope s_law_kind) .none kV_law_kind dc_law_kind pm_law_kind an_law_kind cd_law_kind ct_law_kind), sl_law_kind⟩)
    (c_law_kind : PySem.W.codeIn K cd_law_kind "_law_kind" = true)
    (k_law_kind : PySem.W.keepIn K (.ref f_law_kind) = true)
    (a_law_one : PySem.W.nsIn K mainGlobals "_law_one" = some (some (.ref f_law_one)))
    (l_law_one : K.lookup f_law_one = some ⟨oc_law_one, od_law_one, .func (PySem.W.fnOf "_law_one" "_law_one" (defArgs s_law_one) (defBody s_law_one) (defScope s_law_one) .none kV_law_one dc_law_one pm_law_one an_law_one cd_law_one ct_law_one), sl_law_one⟩)
    (c_law_one : PySem.W.codeIn K cd_law_one "_law_one" = true)
    (k_law_one : PySem.W.keepIn K (.ref f_law_one) = true)
    (a_law_due : PySem.W.nsIn K mainGlobals "_law_due" = some (some (.ref f_law_due)))
    (l_law_due : K.lookup f_law_due = some ⟨oc_law_due, od_law_due, .func (PySem.W.fnOf "_law_due" "_law_due" (defArgs s_law_due) (defBody s_law_due) (defScope s_law_due) .none kV_law_due dc_law_due pm_law_due an_law_due cd_law_due ct_law_due), sl_law_due⟩)
    (c_law_due : PySem.W.codeIn K cd_law_due "_law_due" = true)
    (k_law_due : PySem.W.keepIn K (.ref f_law_due) = true)
    (a_law_text : PySem.W.nsIn K mainGlobals "_law_text" = some (some (.ref f_law_text)))
    (l_law_text : K.lookup f_law_text = some ⟨oc_law_text, od_law_text, .func (PySem.W.fnOf "_law_text" "_law_text" (defArgs s_law_text) (defBody s_law_text) (defScope s_law_text) .none kV_law_text dc_law_text pm_law_text an_law_text cd_law_text ct_law_text), sl_law_text⟩)
    (c_law_text : PySem.W.codeIn K cd_law_text "_law_text" = true)
    (k_law_text : PySem.W.keepIn K (.ref f_law_text) = true)
    (a_law : PySem.W.nsIn K mainGlobals "law" = some (some (.ref f_law)))
    (l_law : K.lookup f_law = some ⟨oc_law, od_law, .func (PySem.W.fnOf "law" "law" (defArgs s_law) (defBody s_law) (defScope s_law) .none kV_law dc_law pm_law an_law cd_law ct_law), sl_law⟩)
    (c_law : PySem.W.codeIn K cd_law "law" = true)
    (k_law : PySem.W.keepIn K (.ref f_law) = true)
    (a_BadText : PySem.W.nsIn K mainGlobals "BadText" = some (some (.ref C_BadText)))
    (x_BadText : PySem.W.excIn K C_BadText [.type "ValueError", .type "Exception", .type "BaseException", .type "object"] "ValueError.__new__" = true)
    (k_BadText : PySem.W.keepIn K (.ref C_BadText) = true)
    (b_BadText : PySem.W.subIn K (.ref C_BadText) (.type "BaseException") = some true)
    (t_BadText : PySem.W.typeIn K (.ref C_BadText) = some (.type "type"))
    (z_len : PySem.W.nsIn K mainGlobals "len" = some none)
    (z_list : PySem.W.nsIn K mainGlobals "list" = some none)
    (z_tuple : PySem.W.nsIn K mainGlobals "tuple" = some none)
    (z_range : PySem.W.nsIn K mainGlobals "range" = some none)
    (z_sorted : PySem.W.nsIn K mainGlobals "sorted" = some none)
    (z_set : PySem.W.nsIn K mainGlobals "set" = some none)
    (z_min : PySem.W.nsIn K mainGlobals "min" = some none)
    (z_max : PySem.W.nsIn K mainGlobals "max" = some none)
    (z_abs : PySem.W.nsIn K mainGlobals "abs" = some none)
    (z_isinstance : PySem.W.nsIn K mainGlobals "isinstance" = some none)
    (z_int : PySem.W.nsIn K mainGlobals "int" = some none)
    (z_bool : PySem.W.nsIn K mainGlobals "bool" = some none)
    (z_str : PySem.W.nsIn K mainGlobals "str" = some none)
    (z_all : PySem.W.nsIn K mainGlobals "all" = some none)
    (a_CraneError : PySem.W.nsIn K mainGlobals "CraneError" = some (some (.ref C_CraneError)))
    (a_NoFloor : PySem.W.nsIn K mainGlobals "NoFloor" = some (some (.ref C_NoFloor)))
    (a_NoStanding : PySem.W.nsIn K mainGlobals "NoStanding" = some (some (.ref C_NoStanding)))
    (a_NoLift : PySem.W.nsIn K mainGlobals "NoLift" = some (some (.ref C_NoLift)))
    (a_OtherCrates : PySem.W.nsIn K mainGlobals "OtherCrates" = some (some (.ref C_OtherCrates)))
    (a_TooMany : PySem.W.nsIn K mainGlobals "TooMany" = some (some (.ref C_TooMany)))
    (a_NoNames : PySem.W.nsIn K mainGlobals "NoNames" = some (some (.ref C_NoNames)))
    (a_NoOrder : PySem.W.nsIn K mainGlobals "NoOrder" = some (some (.ref C_NoOrder)))
    (z_ValueError : PySem.W.nsIn K mainGlobals "ValueError" = some none)
    (q_sp : PySem.W.specialIn K (.builtin "object.__class__") "__get__" = some (some (.builtin "getset_descriptor.__get__")))
    (q_tk : PySem.W.takesIn K (.builtin "object.__class__") = some true)
    (q_sb : PySem.W.subIn K (.ref C_CraneError) (.type "BaseException") = some true)
    (q_sd : PySem.W.hasDictIn K C_CraneError = true)
    (q_st : PySem.W.typeIn K (.ref C_CraneError) = some (.type "type"))
    (ga_BadText : PySem.W.findIn K (.ref C_BadText) "__getattribute__" = some (some (.builtin "BaseException.__getattribute__")))
    (gg_BadText : PySem.W.findIn K (.ref C_BadText) "__getattr__" = some none)
    (hd_BadText : PySem.W.hasDictIn K C_BadText = true)
    (cl_BadText : PySem.W.findIn K (.ref C_BadText) "__class__" = some (some (.builtin "object.__class__")))
    (mo_BadText : PySem.W.mroIn K C_BadText (.type "object") = some true)
    (sc_BadText : PySem.W.subIn K (.ref C_BadText) (.ref C_CraneError) = some true)
    (kv_BadText : PySem.W.kitOne K (.ref C_BadText) (.type "ValueError") = some true)
    (k0_BadText : PySem.W.kitOne K (.ref C_BadText) (.ref C_NoFloor) = some false)
    (k1_BadText : PySem.W.kitOne K (.ref C_BadText) (.ref C_NoStanding) = some false)
    (k2_BadText : PySem.W.kitOne K (.ref C_BadText) (.ref C_NoLift) = some false)
    (k3_BadText : PySem.W.kitOne K (.ref C_BadText) (.ref C_OtherCrates) = some false)
    (k4_BadText : PySem.W.kitOne K (.ref C_BadText) (.ref C_TooMany) = some false)
    (k5_BadText : PySem.W.kitOne K (.ref C_BadText) (.ref C_NoNames) = some false)
    (k6_BadText : PySem.W.kitOne K (.ref C_BadText) (.ref C_NoOrder) = some false)
    (k7_BadText : PySem.W.kitOne K (.ref C_BadText) (.ref C_BadText) = some true)
    (a_FIGURES : PySem.W.nsIn K mainGlobals "FIGURES" = some (some (Value.str (Str.ofString "0123456789") tf)))
    : ∃ fd : FuncData, (∀ (s : Shared) (v : Value), BindsTo s fd ⟨[v], []⟩ [("script", v)]) ∧ ∀ base : Heap, K.In base → base.Ns mainGlobals mg → FnOk l.prog w K mg base (L2.CX l.prog w) 3 fa fd ["script"] (spLaw K) := by
  have e := hfa.symm.trans (PySem.W.mg_of X G a_law)
  cases e
  have T : Bl mg := ⟨PySem.W.mg_none_of X G z_len, PySem.W.mg_none_of X G z_list, PySem.W.mg_none_of X G z_tuple, PySem.W.mg_none_of X G z_range, PySem.W.mg_none_of X G z_sorted, PySem.W.mg_none_of X G z_set, PySem.W.mg_none_of X G z_min, PySem.W.mg_none_of X G z_max, PySem.W.mg_none_of X G z_abs, PySem.W.mg_none_of X G z_isinstance, PySem.W.mg_none_of X G z_int, PySem.W.mg_none_of X G z_bool, PySem.W.mg_none_of X G z_str, PySem.W.mg_none_of X G z_all⟩
  have E_BadText : ExT K mg "BadText" C_BadText := ⟨PySem.W.mg_of X G a_BadText, x_BadText, k_BadText, b_BadText, t_BadText⟩
  let kc8 : Nat → Addr := fun i => [C_NoFloor, C_NoStanding, C_NoLift, C_OtherCrates, C_TooMany, C_NoNames, C_NoOrder, C_BadText].getD i 0
  have KT : KindT mg kc8 := ⟨PySem.W.mg_of X G a_NoFloor, PySem.W.mg_of X G a_NoStanding, PySem.W.mg_of X G a_NoLift, PySem.W.mg_of X G a_OtherCrates, PySem.W.mg_of X G a_TooMany, PySem.W.mg_of X G a_NoNames, PySem.W.mg_of X G a_NoOrder, PySem.W.mg_of X G a_BadText, PySem.W.mg_none_of X G z_ValueError⟩
  have hCE : mg "CraneError" = some (.ref C_CraneError) := PySem.W.mg_of X G a_CraneError
  have X_BadText : PySem.W.exmOne K (.ref C_BadText) (.ref C_CraneError) = some true := PySem.W.exm_ref q_sb q_sd q_st sc_BadText
  have K_BadText : KindOf K kc8 7 C_BadText := ⟨⟨ga_BadText, gg_BadText, b_BadText, hd_BadText, cl_BadText, q_sp, q_tk, mo_BadText⟩, fun j hj => match j, hj with | 0, _ => k0_BadText | 1, _ => k1_BadText | 2, _ => k2_BadText | 3, _ => k3_BadText | 4, _ => k4_BadText | 5, _ => k5_BadText | 6, _ => k6_BadText | 7, _ => k7_BadText | n + 8, hj => absurd hj (by omega), kv_BadText⟩
  have F_crates_of := fun_mk (st := s_crates_of) l_crates_of c_crates_of k_crates_of
  have b_crates_of := F_crates_of.binds (ps := ["standing"]) fun _ _ _ _ _ _ us hl => match us, hl with | [_], _ => rfl
  have F_stack_of := fun_mk (st := s_stack_of) l_stack_of c_stack_of k_stack_of
  have b_stack_of := F_stack_of.binds (ps := ["word"]) fun _ _ _ _ _ _ us hl => match us, hl with | [_], _ => rfl
  have F_read := fun_mk (st := s_read) l_read c_read k_read
  have b_read := F_read.binds (ps := ["text"]) fun _ _ _ _ _ _ us hl => match us, hl with | [_], _ => rfl
  have F_law_cell_at := fun_mk (st := s_law_cell_at) l_law_cell_at c_law_cell_at k_law_cell_at
  have b_law_cell_at := F_law_cell_at.binds (ps := ["script", "k"]) fun _ _ _ _ _ _ us hl => match us, hl with | [_, _], _ => rfl
  have F_law_whole := fun_mk (st := s_law_whole) l_law_whole c_law_whole k_law_whole
  have b_law_whole := F_law_whole.binds (ps := ["found"]) fun _ _ _ _ _ _ us hl => match us, hl with | [_], _ => rfl
  have F_law_kind := fun_mk (st := s_law_kind) l_law_kind c_law_kind k_law_kind
  have b_law_kind := F_law_kind.binds (ps := ["e"]) fun _ _ _ _ _ _ us hl => match us, hl with | [_], _ => rfl
  have F_law_one := fun_mk (st := s_law_one) l_law_one c_law_one k_law_one
  have b_law_one := F_law_one.binds (ps := ["k"]) fun _ _ _ _ _ _ us hl => match us, hl with | [_], _ => rfl
  have F_law_due := fun_mk (st := s_law_due) l_law_due c_law_due k_law_due
  have b_law_due := F_law_due.binds (ps := ["text"]) fun _ _ _ _ _ _ us hl => match us, hl with | [_], _ => rfl
  have F_law_text := fun_mk (st := s_law_text) l_law_text c_law_text k_law_text
  have b_law_text := F_law_text.binds (ps := ["script"]) fun _ _ _ _ _ _ us hl => match us, hl with | [_], _ => rfl
  have F_law := fun_mk (st := s_law) l_law c_law k_law
  refine ⟨PySem.W.fnOf "law" "law" (defArgs s_law) (defBody s_law) (defScope s_law) .none kV_law dc_law pm_law an_law cd_law ct_law, fun s v => .of_eq rfl, fun base X2 G2 => ?_⟩
  have g_crates_of : Cal l.prog w K mg base "crates_of" 1 (sp_crates_of K 0) := cal_mk F_crates_of (PySem.W.mg_of X G a_crates_of) b_crates_of (ok_crates_of T F_crates_of)
  have g_stack_of : Cal l.prog w K mg base "stack_of" 1 (sp_stack_of K 0 C_BadText) := cal_mk F_stack_of (PySem.W.mg_of X G a_stack_of) b_stack_of (ok_stack_of T F_stack_of (PySem.W.mg_of X G a_FIGURES) E_BadText)
  have g_read : Cal l.prog w K mg base "read" 2 (sp_read K 0 C_BadText) := cal_mk F_read (PySem.W.mg_of X G a_read) b_read (ok_read T F_read E_BadText g_stack_of g_crates_of)
  have g_law_cell_at : Cal l.prog w K mg base "_law_cell_at" 1 (sp_cell_at K 0) := cal_mk F_law_cell_at (PySem.W.mg_of X G a_law_cell_at) b_law_cell_at (ok_cell_at T F_law_cell_at)
  have g_law_whole : Cal l.prog w K mg base "_law_whole" 1 (sp_law_whole K 0) := cal_mk F_law_whole (PySem.W.mg_of X G a_law_whole) b_law_whole (ok_law_whole T F_law_whole)
  have g_law_kind : CalE l.prog w K mg base "_law_kind" 1 (spKind K 0 kc8) := calE_mk F_law_kind (PySem.W.mg_of X G a_law_kind) b_law_kind (ok_law_kind T KT F_law_kind)
  have g_law_one : Cal l.prog w K mg base "_law_one" 1 (sp_law_one K 0) := cal_mk F_law_one (PySem.W.mg_of X G a_law_one) b_law_one (ok_law_one T F_law_one)
  have g_law_due : Cal l.prog w K mg base "_law_due" 1 (sp_law_due K 0) := cal_mk F_law_due (PySem.W.mg_of X G a_law_due) b_law_due (ok_law_due T F_law_due)
  have g_law_text : Cal l.prog w K mg base "_law_text" 2 (sp_law_text K 0) := cal_mk F_law_text (PySem.W.mg_of X G a_law_text) b_law_text (ok_law_text T F_law_text g_law_cell_at)
  exact law_imp (C := 0) (ok_law T F_law hCE X_BadText K_BadText g_law_cell_at g_law_text g_law_due g_law_whole g_law_kind g_law_one g_read)
theorem walk {l : PySem.W.OpenLaw} {q : Program} {loose : List Str} {XP : (Str → Option Value) → Heap → Prop} {YP : World → Heap → Prop} {d : DefRec} {K : Params → PySem.W.Frag} (hn : l.most = some 63) (hdf : d.params.defaults = [])
    (hY : ∀ (w : World) (h : Heap), YP w h → (K w.params).In h)
    (F : ∀ (w : World) (mg : Str → Option Value) (fa : Addr) (h : Heap), (K w.params).In h → h.Ns mainGlobals mg → mg d.name = some (.ref fa) →
      ∃ fd : FuncData, (∀ (s : Shared) (u : Value), BindsTo s fd ⟨[u], []⟩ [("script", u)]) ∧ ∀ base : Heap, (K w.params).In base → base.Ns mainGlobals mg → FnOk l.prog w (K w.params) mg base (L2.CX l.prog w) 3 fa fd ["script"] (spLaw (K w.params))) :
    PySem.W.WalkO q loose XP YP l.row.toRowW d [] (fun f vs => PySem.call f vs) :=
  L2.walk_of (n := 63) (k := 3) (x := "script") (CX := fun w => L2.CX l.prog w) (sp := fun w => spLaw (K w.params)) hn (by decide) hdf ⟨rfl, by decide, by decide⟩ hY F (fun _ _ a ns hl _ hS => ⟨a, ns, rfl, hS, hl, fun _ => rfl⟩)
    fun _ _ _ _ _ ⟨_, _, _, _, _, _, _, _, _, _, _, _, z⟩ => z
end G

open PySem PySem.W PyProof.Rows in
set_option maxRecDepth 100000 in
set_option maxHeartbeats 0 in
theorem PySem.Challenge.cw_cranefloor_k11_read_holds : PySem.Challenge.rw_cranefloor_k11_read.Holds := by
  w_on; o_law; k_head; (case hw => w_witness2)
  k_fill
  refine G.walk (l := PySem.Challenge.rw_cranefloor_k11_read) rfl rfl (fun w h Y => PySem.W.kIn_of Y) ?F
  case F =>
    intro w mg fa h KX GN hmg
    refine' G.all_mk KX GN hmg ?a_crates_of ?l_crates_of ?c_crates_of ?k_crates_of ?a_stack_of ?l_stack_of ?c_stack_of ?k_stack_of ?a_read ?l_read ?c_read ?k_read ?a_law_cell_at ?l_law_cell_at ?c_law_cell_at ?k_law_cell_at ?a_law_whole ?l_law_whole ?c_law_whole ?k_law_whole ?a_law_kind ?l_law_kind ?c_law_kind ?k_law_kind ?a_law_one ?l_law_one ?c_law_one ?k_law_one ?a_law_due ?l_law_due ?c_law_due ?k_law_due ?a_law_text ?l_law_text ?c_law_text ?k_law_text ?a_law ?l_law ?c_law ?k_law ?a_BadText ?x_BadText ?k_BadText ?b_BadText ?t_BadText ?z_len ?z_list ?z_tuple ?z_range ?z_sorted ?z_set ?z_min ?z_max ?z_abs ?z_isinstance ?z_int ?z_bool ?z_str ?z_all ?a_CraneError ?a_NoFloor ?a_NoStanding ?a_NoLift ?a_OtherCrates ?a_TooMany ?a_NoNames ?a_NoOrder ?z_ValueError ?q_sp ?q_tk ?q_sb ?q_sd ?q_st ?ga_BadText ?gg_BadText ?hd_BadText ?cl_BadText ?mo_BadText ?sc_BadText ?kv_BadText ?k0_BadText ?k1_BadText ?k2_BadText ?k3_BadText ?k4_BadText ?k5_BadText ?k6_BadText ?k7_BadText ?a_FIGURES
    (case a_crates_of => k_is)
    (case l_crates_of => k_is)
    (case c_crates_of => k_is)
    (case k_crates_of => k_is)
    (case a_stack_of => k_is)
    (case l_stack_of => k_is)
    (case c_stack_of => k_is)
    (case k_stack_of => k_is)
    (case a_read => k_is)
    (case l_read => k_is)
    (case c_read => k_is)
    (case k_read => k_is)
    (case a_law_cell_at => k_is)
    (case l_law_cell_at => k_is)
    (case c_law_cell_at => k_is)
    (case k_law_cell_at => k_is)
    (case a_law_whole => k_is)
    (case l_law_whole => k_is)
    (case c_law_whole => k_is)
    (case k_law_whole => k_is)
    (case a_law_kind => k_is)
    (case l_law_kind => k_is)
    (case c_law_kind => k_is)
    (case k_law_kind => k_is)
    (case a_law_one => k_is)
    (case l_law_one => k_is)
    (case c_law_one => k_is)
    (case k_law_one => k_is)
    (case a_law_due => k_is)
    (case l_law_due => k_is)
    (case c_law_due => k_is)
    (case k_law_due => k_is)
    (case a_law_text => k_is)
    (case l_law_text => k_is)
    (case c_law_text => k_is)
    (case k_law_text => k_is)
    (case a_law => k_is)
    (case l_law => k_is)
    (case c_law => k_is)
    (case k_law => k_is)
    (case a_BadText => k_is)
    (case x_BadText => k_exc)
    (case k_BadText => k_is)
    (case b_BadText => k_is)
    (case t_BadText => k_is)
    (case z_len => k_is)
    (case z_list => k_is)
    (case z_tuple => k_is)
    (case z_range => k_is)
    (case z_sorted => k_is)
    (case z_set => k_is)
    (case z_min => k_is)
    (case z_max => k_is)
    (case z_abs => k_is)
    (case z_isinstance => k_is)
    (case z_int => k_is)
    (case z_bool => k_is)
    (case z_str => k_is)
    (case z_all => k_is)
    (case a_CraneError => k_is)
    (case a_NoFloor => k_is)
    (case a_NoStanding => k_is)
    (case a_NoLift => k_is)
    (case a_OtherCrates => k_is)
    (case a_TooMany => k_is)
    (case a_NoNames => k_is)
    (case a_NoOrder => k_is)
    (case z_ValueError => k_is)
    (case q_sp => k_is)
    (case q_tk => k_is)
    (case q_sb => k_is)
    (case q_sd => k_is)
    (case q_st => k_is)
    (case ga_BadText => k_is)
    (case gg_BadText => k_is)
    (case hd_BadText => k_is)
    (case cl_BadText => k_is)
    (case mo_BadText => k_is)
    (case sc_BadText => k_is)
    (case kv_BadText => kit_is)
    (case k0_BadText => kit_is)
    (case k1_BadText => kit_is)
    (case k2_BadText => kit_is)
    (case k3_BadText => kit_is)
    (case k4_BadText => kit_is)
    (case k5_BadText => kit_is)
    (case k6_BadText => kit_is)
    (case k7_BadText => kit_is)
    (case a_FIGURES => k_is)
#print axioms PySem.Challenge.cw_cranefloor_k11_read_holds
