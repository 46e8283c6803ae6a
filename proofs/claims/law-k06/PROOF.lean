import PyProof.Rows.All
import Wide.All
import OpenK.AllK
import Wide.FinOn
import HandS.ForMost
import HandS.ForExc
import HandS.Deep
import KE.KDictKeyed
import KE.KeyNested
import HandS.TupAny
import HandS.TupMul
import HandS.IsInst
import HandS.Conv
import HandS.SortInts
import HandS.Zip
import HandS.Style
import KE.DataMinMax
import HandS.SortKw
import HandS.TupSets
import HandS.HotCalls
import HandS.ExcIs
import HandS.Text
import HandS.Codes
import HandS.Walk
import KE.KDictDisplayH
import KE.KDictSum
import KE.SortData
import PyProof.Rows.TupTab
import HandS.Iter
import KE.DataCmp
import PySem.Challenge.RW_cranefloor_k06_whole_a_plan
set_option Elab.async false
set_option linter.all false
set_option maxRecDepth 100000
set_option autoImplicit false
namespace G
open PySem L2
abbrev St := L2.St

/-! ### data: what a value is, read off the tracked heap -/
/-- a floor: its numbers, its bans -/
abbrev flr (m h s : Int) (bs : List PyData) : PyData := .dict [(.int m, .int h), (.int s, .list bs)]
/-- the script -/
abbrev scr (ns : List Int) : PyData := .dict [(.list (ns.map .int), .none)]
abbrev flF (m h s : Int) (b : Addr) : List (Str × V) := [("many", .int m), ("high", .int h), ("strong", .int s), ("banned", .ref b)]
mutual
inductive Rp (K : PySem.W.Frag) (C : Addr) (H : Hp) : V → PyData → Prop
  | non : Rp K C H .non .none
  | bl (b : Bool) : Rp K C H (.bl b) (.bool b)
  | int (i : Int) : Rp K C H (.int i) (.int i)
  | str (x : Str) : Rp K C H (.str x) (.str x)
  | lst {a : Addr} {vs : List V} {ds : List PyData} : H a = some (.lst vs) → RpAll K C H vs ds → Rp K C H (.ref a) (.list ds)
  | tup {a : Addr} {vs : List V} {ds : List PyData} : SqT K H a vs → RpAll K C H vs ds → Rp K C H (.ref a) (.tuple ds)
  | flr {a dx b : Addr} {m h s : Int} {vs : List V} {ds : List PyData} : H a = some (.ins C dx (flF m h s b)) → H b = some (.lst vs) → RpAll K C H vs ds →
      Rp K C H (.ref a) (.dict [(.int m, .int h), (.int s, .list ds)])
  | scr {a : Addr} {ns : List Int} : SqL K H a (ns.map V.int) → Rp K C H (.ref a) (.dict [(.list (ns.map .int), .none)])
inductive RpAll (K : PySem.W.Frag) (C : Addr) (H : Hp) : List V → List PyData → Prop
  | nil : RpAll K C H [] []
  | cons {v : V} {vs : List V} {d : PyData} {ds : List PyData} : Rp K C H v d → RpAll K C H vs ds → RpAll K C H (v :: vs) (d :: ds)
end
theorem Same.sqt {K : PySem.W.Frag} {H H' : Hp} {a : Addr} {xs : List V} (e : Same H H') (h : SqT K H a xs) : SqT K H' a xs := by
  rcases h with (h | ⟨o, h⟩) | h
  · exact .inl (.inl (e _ _ h))
  · exact .inl (.inr ⟨o, e _ _ h⟩)
  · exact .inr h
section
variable {K : PySem.W.Frag} {C : Addr} {H H' : Hp}
mutual
theorem Rp.mono (e : Same H H') : ∀ {v : V} {d : PyData}, Rp K C H v d → Rp K C H' v d
  | _, _, .non => .non
  | _, _, .bl b => .bl b
  | _, _, .int i => .int i
  | _, _, .str x => .str x
  | _, _, .lst h r => .lst (e _ _ h) (RpAll.mono e r)
  | _, _, .tup h r => .tup (Same.sqt e h) (RpAll.mono e r)
  | _, _, .flr h g r => .flr (e _ _ h) (e _ _ g) (RpAll.mono e r)
  | _, _, .scr h => .scr (e.seq h)
theorem RpAll.mono (e : Same H H') : ∀ {v : List V} {d : List PyData}, RpAll K C H v d → RpAll K C H' v d
  | _, _, .nil => .nil
  | _, _, .cons h r => .cons (Rp.mono e h) (RpAll.mono e r)
end
theorem RpAll.length : ∀ {vs : List V} {ds : List PyData}, RpAll K C H vs ds → vs.length = ds.length
  | _, _, .nil => rfl
  | _, _, .cons _ r => congrArg (· + 1) r.length
theorem RpAll.app : ∀ {vs ws : List V} {ds es : List PyData}, RpAll K C H vs ds → RpAll K C H ws es → RpAll K C H (vs ++ ws) (ds ++ es)
  | _, _, _, _, .nil, s => s
  | _, _, _, _, .cons h r, s => .cons h (r.app s)
theorem RpAll.one {v : V} {d : PyData} (h : Rp K C H v d) : RpAll K C H [v] [d] := .cons h .nil
theorem RpAll.get : ∀ {vs : List V} {ds : List PyData} {i : Nat} {d : PyData}, RpAll K C H vs ds → ds[i]? = some d → ∃ v, vs[i]? = some v ∧ Rp K C H v d
  | _, _, _, _, .nil, e => by simp at e
  | _, _, 0, _, .cons h _, e => ⟨_, rfl, by have := Option.some.inj (by simpa using e); subst this; exact h⟩
  | _, _, i + 1, d, .cons _ r, e => by
    obtain ⟨v, h1, h2⟩ := RpAll.get (i := i) (d := d) r (by simpa using e)
    exact ⟨v, by simpa using h1, h2⟩
theorem RpAll.getV : ∀ {vs : List V} {ds : List PyData} {i : Nat} {v : V}, RpAll K C H vs ds → vs[i]? = some v → ∃ d, ds[i]? = some d ∧ Rp K C H v d
  | _, _, _, _, .nil, e => by simp at e
  | _, _, 0, _, .cons h _, e => ⟨_, rfl, by have := Option.some.inj (by simpa using e); subst this; exact h⟩
  | _, _, i + 1, d, .cons _ r, e => by
    obtain ⟨v, h1, h2⟩ := RpAll.getV (i := i) (v := d) r (by simpa using e)
    exact ⟨v, by simpa using h1, h2⟩
theorem RpAll.take : ∀ {vs : List V} {ds : List PyData} (n : Nat), RpAll K C H vs ds → RpAll K C H (vs.take n) (ds.take n)
  | _, _, 0, _ => .nil
  | _, _, _ + 1, .nil => .nil
  | _, _, n + 1, .cons h r => .cons h (r.take n)
theorem RpAll.drop : ∀ {vs : List V} {ds : List PyData} (n : Nat), RpAll K C H vs ds → RpAll K C H (vs.drop n) (ds.drop n)
  | _, _, 0, r => r
  | _, _, _ + 1, .nil => .nil
  | _, _, n + 1, .cons _ r => r.drop n
theorem RpAll.set {v : V} {d : PyData} (h : Rp K C H v d) : ∀ {vs : List V} {ds : List PyData} (i : Nat), RpAll K C H vs ds → RpAll K C H (vs.set i v) (ds.set i d)
  | _, _, _, .nil => .nil
  | _, _, 0, .cons _ r => .cons h r
  | _, _, i + 1, .cons q r => .cons q (r.set h i)
theorem RpAll.erase : ∀ {vs : List V} {ds : List PyData} (i : Nat), RpAll K C H vs ds → RpAll K C H (vs.eraseIdx i) (ds.eraseIdx i)
  | _, _, _, .nil => .nil
  | _, _, 0, .cons _ r => r
  | _, _, i + 1, .cons q r => .cons q (r.erase i)
theorem RpAll.ints : ∀ (ns : List Int), RpAll K C H (ns.map V.int) (ns.map PyData.int)
  | [] => .nil
  | n :: r => .cons (.int n) (RpAll.ints r)
theorem RpAll.intsV : ∀ {ns : List Int} {vs : List V}, RpAll K C H vs (ns.map PyData.int) → vs = ns.map V.int
  | [], _, .nil => rfl
  | n :: r, _, .cons h t => by
    cases h
    rw [RpAll.intsV t] <;> rfl
theorem RpAll.rev : ∀ {vs : List V} {ds : List PyData}, RpAll K C H vs ds → RpAll K C H vs.reverse ds.reverse
  | _, _, .nil => .nil
  | _, _, .cons h r => by
    rw [List.reverse_cons, List.reverse_cons]
    exact (RpAll.rev r).app (.one h)
theorem RpAll.rep : ∀ {vs : List V} {ds : List PyData} (k : Nat), RpAll K C H vs ds → RpAll K C H (List.replicate k vs).flatten (List.replicate k ds).flatten
  | _, _, 0, _ => .nil
  | _, _, k + 1, h => by
    rw [List.replicate_succ, List.replicate_succ, List.flatten_cons, List.flatten_cons]
    exact h.app (h.rep k)
/-- no objects in it -/
inductive Pl : Nat → PyData → Prop
  | non {n} : Pl n .none
  | bl {n b} : Pl n (.bool b)
  | int {n i} : Pl n (.int i)
  | str {n x} : PyData.strOk x = true → Pl n (.str x)
  | lst {n ds} : (∀ d ∈ ds, Pl n d) → Pl (n + 1) (.list ds)
  | tup {n ds} : (∀ d ∈ ds, Pl n d) → Pl (n + 1) (.tuple ds)
mutual
theorem Rp.dp : ∀ {v : V} {d : PyData}, Rp K C H v d → d.canLay0 = true → Dp K H v d
  | _, _, .non, _ => .non
  | _, _, .bl b, _ => .bl b
  | _, _, .int i, _ => .int i
  | _, _, .str x, _ => .str x
  | _, _, .lst h r, q => .lst (SqL.of h) (RpAll.dp r (by simpa [PyData.canLay0] using q))
  | _, _, .tup h r, q => .tup h (RpAll.dp r (by simpa [PyData.canLay0] using q))
  | _, _, .flr _ _ _, q => by simp [PyData.canLay0] at q
  | _, _, .scr _, q => by simp [PyData.canLay0] at q
theorem RpAll.dp : ∀ {v : List V} {d : List PyData}, RpAll K C H v d → PyData.canLayAll0 d = true → DpAll K H v d
  | _, _, .nil, _ => .nil
  | _, _, .cons h r, q => by
    simp only [PyData.canLayAll0, Bool.and_eq_true] at q
    obtain ⟨q1, q2⟩ := q
    exact .cons (Rp.dp h q1) (RpAll.dp r q2)
end
end
theorem canAll : ∀ {ds : List PyData}, (∀ d ∈ ds, d.canLay0 = true) → PyData.canLayAll0 ds = true
  | [], _ => by simp [PyData.canLayAll0]
  | d :: ds, h => by
    simp only [PyData.canLayAll0, Bool.and_eq_true]
    exact ⟨h d List.mem_cons_self, canAll fun e he => h e (List.mem_cons_of_mem _ he)⟩
theorem depAll : ∀ {n : Nat} {ds : List PyData}, (∀ d ∈ ds, d.depth ≤ n) → PyData.depthAll ds ≤ n
  | _, [], _ => by simp [PyData.depthAll]
  | n, d :: ds, h => by
    have h1 := h d List.mem_cons_self
    have h2 := depAll (n := n) (ds := ds) fun e he => h e (List.mem_cons_of_mem _ he)
    simp only [PyData.depthAll]
    omega
theorem Pl.lay : ∀ {n : Nat} {d : PyData}, Pl n d → d.canLay0 = true ∧ d.depth ≤ n := by
  intro n d h
  induction h with
  | non => simp [PyData.canLay0, PyData.depth]
  | bl => simp [PyData.canLay0, PyData.depth]
  | int => simp [PyData.canLay0, PyData.depth]
  | str hx => simp [PyData.canLay0, PyData.depth, hx]
  | lst _ ih =>
    refine ⟨by simp only [PyData.canLay0]; exact canAll fun d hd => (ih d hd).1, ?_⟩
    have := depAll fun d hd => (ih d hd).2
    simp only [PyData.depth]
    omega
  | tup _ ih =>
    refine ⟨by simp only [PyData.canLay0]; exact canAll fun d hd => (ih d hd).1, ?_⟩
    have := depAll fun d hd => (ih d hd).2
    simp only [PyData.depth]
    omega
theorem Pl.shaped {n : Nat} {d : PyData} (h : Pl n d) (hn : n ≤ 64) : SeqAt.shaped d = true := by
  have q := h.lay
  show (d.canLay0 && decide (d.depth ≤ 64)) = true
  rw [Bool.and_eq_true]
  exact ⟨q.1, decide_eq_true (Nat.le_trans q.2 hn)⟩
theorem Pl.mono {n m : Nat} {d : PyData} (h : Pl n d) (hn : n ≤ m) : Pl m d := by
  induction h generalizing m with
  | non => exact .non
  | bl => exact .bl
  | int => exact .int
  | str hx => exact .str hx
  | lst _ ih =>
    cases m with
    | zero => omega
    | succ m => exact .lst fun d hd => ih d hd (by omega)
  | tup _ ih =>
    cases m with
    | zero => omega
    | succ m => exact .tup fun d hd => ih d hd (by omega)
theorem Pl.map {α : Type} {n : Nat} {f : α → PyData} {xs : List α} (h : ∀ x ∈ xs, Pl n (f x)) : ∀ d ∈ xs.map f, Pl n d := fun d hd => by
  obtain ⟨x, hx, e⟩ := List.mem_map.mp hd
  subst e
  exact h x hx

/-! ### the heap grows: F what is known for good, H the whole -/
structure Grow (F H F' H' : Hp) : Prop where
  hh : Same H H'
  ff : Same F F'
  fh : Same F' H'
  own : ∀ a o, H a = some o → F a = none → F' a = none
theorem Grow.refl {F H : Hp} (h : Same F H) : Grow F H F H := ⟨Same.refl _, Same.refl _, h, fun _ _ _ e => e⟩
theorem Grow.trans {F H F1 H1 F2 H2 : Hp} (a : Grow F H F1 H1) (b : Grow F1 H1 F2 H2) : Grow F H F2 H2 :=
  ⟨a.hh.trans b.hh, a.ff.trans b.ff, b.fh, fun x o h n => b.own x o (a.hh x o h) (a.own x o h n)⟩
theorem Same.new {H : Hp} {p : Addr} {o : HO} (h : H p = none) : Same H (upd H p o) := fun a u e => by
  rw [upd_ne (ne_of_none e h)]
  exact e
/-- a new thing, known for good -/
theorem Grow.new {F H : Hp} {p : Addr} {o : HO} (e : Same F H) (h : H p = none) : Grow F H (upd F p o) (upd H p o) where
  hh := Same.new h
  ff := Same.new (e.free h)
  fh := fun a u q => by
    by_cases ha : a = p
    · subst ha; rw [upd_same] at q ⊢; exact q
    · rw [upd_ne ha] at q ⊢; exact e a u q
  own := fun a u q n => by rw [upd_ne (ne_of_none q h)]; exact n
/-- a new thing that may change -/
theorem Grow.newO {F H : Hp} {p : Addr} {o : HO} (e : Same F H) (h : H p = none) : Grow F H F (upd H p o) where
  hh := Same.new h
  ff := Same.refl _
  fh := e.trans (Same.new h)
  own := fun _ _ _ n => n
/-- .. known for good from now on -/
theorem Grow.keep {F H F' H' : Hp} {p : Addr} {o : HO} (g : Grow F H F' H') (h : H p = Option.none) (n : F' p = Option.none) (q : H' p = some o) : Grow F H (upd F' p o) H' where
  hh := g.hh
  ff := g.ff.trans (Same.new n)
  fh := fun a u e => by
    by_cases ha : a = p
    · subst ha; rw [upd_same] at e; rw [q]; exact e
    · rw [upd_ne ha] at e; exact g.fh a u e
  own := fun a u e m => by rw [upd_ne (ne_of_none e h)]; exact g.own a u e m

/-! ### the state of a body, by slots -/
/-- F0, H0: at the def's entry; Fp: pinned besides (within a loop) -/
structure Bs where
  C : Addr
  F0 : Hp
  H0 : Hp
  Fp : Hp
/-- a standing as a key of a dict -/
abbrev Stg := List (List Int)
abbrev stD (S : Stg) : PyData := .tuple (S.map fun r => .tuple (r.map .int))
def nk (S : Stg) : NestedKey := .tup (S.map fun r => .tup (r.map .num))
def dEnt (w : World) (x : NestedKey × Addr × Value) : DictEntry := ⟨NestedKey.hash w x.1, .ref x.2.1, x.2.2⟩
/-- one entry of the tracked dict, one of the dict's own -/
def EntR (e : Stg × Addr × V) (x : NestedKey × Addr × Value) : Prop := x.1 = nk e.1 ∧ x.2.1 = e.2.1 ∧ RelV e.2.2 x.2.2
/-- a dict of standings, by its own object alone -/
def dicP (w : World) (d : Addr) (ep : Nat) (es : List (Stg × Addr × V)) : Heap → Prop := fun h =>
  (d == sysModules) = false ∧ es.length ≤ sizeLine ∧ ∃ (xs : List (NestedKey × Addr × Value)) (o : Obj) (arr : Array DictEntry), Paired EntR es xs ∧ h.get? d = some o ∧ o.ExactDict ∧ o.data = .dict arr ep ∧ arr.toList = xs.map (dEnt w) ∧ (xs.map (·.1)).Nodup
abbrev dicO (w : World) (d : Addr) (ep : Nat) (es : List (Stg × Addr × V)) : HO := .ext (dicP w d ep es)
/-- what the dict's entries are told to be; the keys' own tuples are known for good -/
def DicAt (K : PySem.W.Frag) (C : Addr) (w : World) (F H : Hp) (d : Addr) (kvs : List (Stg × V)) : Prop := ∃ (ep : Nat) (es : List (Stg × Addr × V)), H d = some (dicO w d ep es) ∧ es.map (fun e => (e.1, e.2.2)) = kvs ∧ ∀ e ∈ es, Rp K C F (.ref e.2.1) (stD e.1)
theorem DicAt.mono {K : PySem.W.Frag} {C : Addr} {w : World} {F H F' H' : Hp} {d : Addr} {kvs : List (Stg × V)} (h : DicAt K C w F H d kvs) (f : Same F F') (g : H d = H' d ∨ Same H H') : DicAt K C w F' H' d kvs := by
  obtain ⟨ep, es, e, q, r⟩ := h
  refine ⟨ep, es, ?_, q, fun x hx => (r x hx).mono f⟩
  rcases g with g | g
  · rw [← g]; exact e
  · exact g _ _ e
/-- no dict of standings stands there -/
def NExt (H : Hp) (a : Addr) : Prop := ∀ φ, H a ≠ some (.ext φ)
theorem nx_none {H : Hp} {a : Addr} (h : H a = none) : NExt H a := fun φ e => by rw [h] at e; cases e
theorem nx_lst {H : Hp} {a : Addr} {vs : List V} (h : H a = some (.lst vs)) : NExt H a := fun φ e => by rw [h] at e; cases e
theorem nx_ins {H : Hp} {a c d : Addr} {vs : List (Str × V)} (h : H a = some (.ins c d vs)) : NExt H a := fun φ e => by rw [h] at e; cases e
theorem DicAt.ne {K : PySem.W.Frag} {C : Addr} {w : World} {F H : Hp} {d a : Addr} {kvs : List (Stg × V)} (h : DicAt K C w F H d kvs) (n : NExt H a) : d ≠ a := fun e => by
  obtain ⟨ep, es, q, _⟩ := h
  subst e
  exact n _ q
inductive SD where
  | un
  | dat (d : PyData)
  | own (ds : List PyData)
  | raw (P : V → Hp → Hp → Prop)
  | bor (d : PyData)
  | val (v : V)
  | fro (P : V → Hp → Prop)
  | dic (w : World) (kvs : List (Stg × V))
def SlotOk (K : PySem.W.Frag) (B : Bs) (F H : Hp) : SD → Option (Option V) → Prop
  | .un, _ => True
  | .dat d, o => ∃ v, o = some (some v) ∧ Rp K B.C F v d
  | .own ds, o => ∃ a vs, o = some (some (.ref a)) ∧ B.H0 a = none ∧ F a = none ∧ H a = some (.lst vs) ∧ RpAll K B.C F vs ds
  | .raw P, o => ∃ v, o = some (some v) ∧ ∀ F' H', Grow F H F' H' → P v F' H'
  | .bor d, o => ∃ v, o = some (some v) ∧ Rp K B.C B.H0 v d
  | .val v, o => o = some (some v)
  | .fro P, o => ∃ v, o = some (some v) ∧ ∀ F', Same F F' → P v F'
  | .dic w kvs, o => ∃ a, o = some (some (.ref a)) ∧ B.H0 a = none ∧ F a = none ∧ DicAt K B.C w F H a kvs
structure Sat (K : PySem.W.Frag) (B : Bs) (ss : List SD) (σ : St) (F H : Hp) : Prop where
  g : Grow B.F0 B.H0 F H
  pin : Same B.Fp F
  len : σ.length = ss.length
  slot : ∀ (i : Nat) (sd : SD), ss[i]? = some sd → SlotOk K B F H sd σ[i]?
  ne : ∀ (i j : Nat) (ds es : List PyData), i ≠ j → ss[i]? = some (.own ds) → ss[j]? = some (.own es) → σ[i]? ≠ σ[j]?
section
variable {K : PySem.W.Frag} {B : Bs} {ss : List SD} {σ : St} {F H F' H' : Hp}
theorem SlotOk.grow {sd : SD} {o : Option (Option V)} (h : SlotOk K B F H sd o) (g : Grow F H F' H') : SlotOk K B F' H' sd o := by
  cases sd with
  | un => trivial
  | dat d => obtain ⟨v, e, r⟩ := h; exact ⟨v, e, r.mono g.ff⟩
  | own ds => obtain ⟨a, vs, e, h0, n, q, r⟩ := h; exact ⟨a, vs, e, h0, g.own a _ q n, g.hh a _ q, r.mono g.ff⟩
  | raw P => obtain ⟨v, e, r⟩ := h; exact ⟨v, e, fun F2 H2 g2 => r F2 H2 (g.trans g2)⟩
  | bor d => exact h
  | val v => exact h
  | fro P => obtain ⟨v, e, r⟩ := h; exact ⟨v, e, fun F2 g2 => r F2 (g.ff.trans g2)⟩
  | dic w kvs =>
    obtain ⟨a, e, h0, n, q⟩ := h
    have ⟨ep, es, q1, _⟩ := q
    exact ⟨a, e, h0, g.own a _ q1 n, q.mono g.ff (.inr g.hh)⟩
theorem Sat.grow (h : Sat K B ss σ F H) (g : Grow F H F' H') : Sat K B ss σ F' H' :=
  ⟨h.g.trans g, h.pin.trans g.ff, h.len, fun i sd e => (h.slot i sd e).grow g, h.ne⟩
theorem Sat.fh (h : Sat K B ss σ F H) : Same F H := h.g.fh
theorem Sat.lt (h : Sat K B ss σ F H) {i : Nat} {sd : SD} (e : ss[i]? = some sd) : i < σ.length := by
  rw [h.len]; exact (List.getElem?_eq_some_iff.mp e).1
theorem Sat.set_dat {i : Nat} {v : V} {d : PyData} (h : Sat K B ss σ F H) (r : Rp K B.C F v d) : Sat K B (ss.set i (.dat d)) (σ.set i (some v)) F H where
  g := h.g
  pin := h.pin
  len := by rw [List.length_set, List.length_set]; exact h.len
  slot := fun j sd e => by
    by_cases hj : i = j
    · subst hj
      have hi : i < ss.length := by
        have := (List.getElem?_eq_some_iff.mp e).1
        rwa [List.length_set] at this
      rw [List.getElem?_set_self hi] at e
      cases e
      rw [List.getElem?_set_self (by rw [h.len]; exact hi)]
      exact ⟨v, rfl, r⟩
    · rw [List.getElem?_set_ne hj] at e ⊢
      exact h.slot j sd e
  ne := fun j k ds es hjk e1 e2 => by
    have nj : ∀ {k ds}, (ss.set i (.dat d))[k]? = some (.own ds) → i ≠ k := fun {k ds} e q => by
      subst q
      have hi : i < ss.length := by
        have := (List.getElem?_eq_some_iff.mp e).1
        rwa [List.length_set] at this
      rw [List.getElem?_set_self hi] at e
      cases e
    have a := nj e1
    have b := nj e2
    rw [List.getElem?_set_ne a] at e1 ⊢
    rw [List.getElem?_set_ne b] at e2 ⊢
    exact h.ne j k ds es hjk e1 e2
theorem Sat.set_raw {i : Nat} {v : V} {P : V → Hp → Hp → Prop} (h : Sat K B ss σ F H) (r : ∀ F' H', Grow F H F' H' → P v F' H') : Sat K B (ss.set i (.raw P)) (σ.set i (some v)) F H where
  g := h.g
  pin := h.pin
  len := by rw [List.length_set, List.length_set]; exact h.len
  slot := fun j sd e => by
    by_cases hj : i = j
    · subst hj
      have hi : i < ss.length := by
        have := (List.getElem?_eq_some_iff.mp e).1
        rwa [List.length_set] at this
      rw [List.getElem?_set_self hi] at e
      cases e
      rw [List.getElem?_set_self (by rw [h.len]; exact hi)]
      exact ⟨v, rfl, r⟩
    · rw [List.getElem?_set_ne hj] at e ⊢
      exact h.slot j sd e
  ne := fun j k ds es hjk e1 e2 => by
    have nj : ∀ {k ds}, (ss.set i (.raw P))[k]? = some (.own ds) → i ≠ k := fun {k ds} e q => by
      subst q
      have hi : i < ss.length := by
        have := (List.getElem?_eq_some_iff.mp e).1
        rwa [List.length_set] at this
      rw [List.getElem?_set_self hi] at e
      cases e
    have a := nj e1
    have b := nj e2
    rw [List.getElem?_set_ne a] at e1 ⊢
    rw [List.getElem?_set_ne b] at e2 ⊢
    exact h.ne j k ds es hjk e1 e2
theorem Sat.set_val {i : Nat} {v : V} (h : Sat K B ss σ F H) : Sat K B (ss.set i (.val v)) (σ.set i (some v)) F H where
  g := h.g
  pin := h.pin
  len := by rw [List.length_set, List.length_set]; exact h.len
  slot := fun j sd e => by
    by_cases hj : i = j
    · subst hj
      have hi : i < ss.length := by
        have := (List.getElem?_eq_some_iff.mp e).1
        rwa [List.length_set] at this
      rw [List.getElem?_set_self hi] at e
      cases e
      rw [List.getElem?_set_self (by rw [h.len]; exact hi)]
      rfl
    · rw [List.getElem?_set_ne hj] at e ⊢
      exact h.slot j sd e
  ne := fun j k ds es hjk e1 e2 => by
    have nj : ∀ {k ds}, (ss.set i (.val v))[k]? = some (.own ds) → i ≠ k := fun {k ds} e q => by
      subst q
      have hi : i < ss.length := by
        have := (List.getElem?_eq_some_iff.mp e).1
        rwa [List.length_set] at this
      rw [List.getElem?_set_self hi] at e
      cases e
    have a := nj e1
    have b := nj e2
    rw [List.getElem?_set_ne a] at e1 ⊢
    rw [List.getElem?_set_ne b] at e2 ⊢
    exact h.ne j k ds es hjk e1 e2
/-- a slot holds another list of its own, or its list has changed: no other slot's is it -/
theorem Sat.set_own {i : Nat} {a : Addr} {vs : List V} {ds : List PyData} (h : Sat K B ss σ F H) (h0 : B.H0 a = none) (n : F a = none) (q : H a = some (.lst vs)) (r : RpAll K B.C F vs ds)
    (ap : ∀ (j : Nat) (es : List PyData), j ≠ i → ss[j]? = some (.own es) → σ[j]? ≠ some (some (.ref a))) : Sat K B (ss.set i (.own ds)) (σ.set i (some (.ref a))) F H where
  g := h.g
  pin := h.pin
  len := by rw [List.length_set, List.length_set]; exact h.len
  slot := fun j sd e => by
    by_cases hj : i = j
    · subst hj
      have hi : i < ss.length := by
        have := (List.getElem?_eq_some_iff.mp e).1
        rwa [List.length_set] at this
      rw [List.getElem?_set_self hi] at e
      cases e
      rw [List.getElem?_set_self (by rw [h.len]; exact hi)]
      exact ⟨a, vs, rfl, h0, n, q, r⟩
    · rw [List.getElem?_set_ne hj] at e ⊢
      exact h.slot j sd e
  ne := fun j k es fs hjk e1 e2 => by
    have at_ : ∀ {k ds'}, (ss.set i (.own ds))[k]? = some (.own ds') → i ≠ k → ss[k]? = some (.own ds') := fun {k ds'} e q => by
      rw [List.getElem?_set_ne q] at e; exact e
    have self : ∀ {k ds'}, (ss.set i (.own ds))[k]? = some (.own ds') → i = k → (σ.set i (some (.ref a)))[k]? = some (some (.ref a)) := fun {k ds'} e q => by
      subst q
      have hi : i < ss.length := by
        have := (List.getElem?_eq_some_iff.mp e).1
        rwa [List.length_set] at this
      rw [List.getElem?_set_self (by rw [h.len]; exact hi)]
    by_cases a1 : i = j
    · have a2 : i ≠ k := fun z => hjk (a1.symm.trans z)
      rw [self e1 a1, List.getElem?_set_ne a2]
      exact fun z => ap k fs (Ne.symm a2) (at_ e2 a2) z.symm
    · by_cases a2 : i = k
      · rw [self e2 a2, List.getElem?_set_ne a1]
        exact ap j es (Ne.symm a1) (at_ e1 a1)
      · rw [List.getElem?_set_ne a1, List.getElem?_set_ne a2]
        exact h.ne j k es fs hjk (at_ e1 a1) (at_ e2 a2)
/-- weaker slots -/
inductive Wk : List SD → List SD → Prop
  | nil : Wk [] []
  | same {x : SD} {xs ys : List SD} : Wk xs ys → Wk (x :: xs) (x :: ys)
  | un {x : SD} {xs ys : List SD} : Wk xs ys → Wk (x :: xs) (.un :: ys)
theorem Wk.refl : ∀ (ss : List SD), Wk ss ss
  | [] => .nil
  | _ :: r => .same (Wk.refl r)
theorem Wk.length {xs ys : List SD} (h : Wk xs ys) : xs.length = ys.length := by
  induction h with
  | nil => rfl
  | same _ ih => exact congrArg (· + 1) ih
  | un _ ih => exact congrArg (· + 1) ih
theorem Wk.get {xs ys : List SD} (h : Wk xs ys) : ∀ (i : Nat) (sd : SD), ys[i]? = some sd → sd = .un ∨ xs[i]? = some sd := by
  induction h with
  | nil => intro i sd e; simp at e
  | same _ ih =>
    intro i sd e
    cases i with
    | zero => exact .inr e
    | succ i => exact ih i sd (by simpa using e)
  | un _ ih =>
    intro i sd e
    cases i with
    | zero => exact .inl (Option.some.inj (by simpa using e)).symm
    | succ i => exact ih i sd (by simpa using e)
theorem Sat.weak {ss' : List SD} (h : Sat K B ss σ F H) (w : Wk ss ss') : Sat K B ss' σ F H where
  g := h.g
  pin := h.pin
  len := h.len.trans w.length
  slot := fun i sd e => by
    rcases w.get i sd e with z | z
    · subst z; trivial
    · exact h.slot i sd z
  ne := fun i j ds es hij e1 e2 => by
    rcases w.get i _ e1 with z | z
    · cases z
    · rcases w.get j _ e2 with y | y
      · cases y
      · exact h.ne i j ds es hij z y
def noRaw : List SD → Bool
  | [] => true
  | .raw _ :: _ => false
  | _ :: r => noRaw r
theorem noRaw_at : ∀ {ss : List SD} {i : Nat} {P : V → Hp → Hp → Prop}, noRaw ss = true → ss[i]? = some (.raw P) → False
  | [], i, P, _, e => by simp at e
  | x :: r, 0, P, n, e => by
    have e' : x = .raw P := Option.some.inj (by simpa using e)
    subst e'
    simp [noRaw] at n
  | x :: r, i + 1, P, n, e => by
    refine noRaw_at (ss := r) (i := i) (P := P) ?_ (by simpa using e)
    cases x with
    | raw Q => simp [noRaw] at n
    | un => exact n
    | dat d => exact n
    | bor d => exact n
    | val v => exact n
    | fro Q => exact n
    | dic w kvs => exact n
    | own ds => exact n
/-- an unknown place is written: no slot's -/
theorem Sat.upd {a : Addr} {o : HO} (h : Sat K B ss σ F H) (h0 : B.H0 a = none) (n : F a = none) (nr : noRaw ss = true) (ap : ∀ (j : Nat) (es : List PyData), ss[j]? = some (.own es) → σ[j]? ≠ some (some (.ref a)))
    (nx : NExt H a := by first | exact nx_none (by assumption) | exact nx_lst (by assumption)) : Sat K B ss σ F (upd H a o) where
  g := ⟨fun b u e => by rw [upd_ne (ne_of_none e h0)]; exact h.g.hh b u e, h.g.ff, fun b u e => by rw [upd_ne (ne_of_none e n)]; exact h.g.fh b u e, h.g.own⟩
  pin := h.pin
  len := h.len
  slot := fun i sd e => by
    have q := h.slot i sd e
    cases sd with
    | un => trivial
    | dat d => exact q
    | bor d => exact q
    | val v => exact q
    | own ds =>
      obtain ⟨b, vs, e1, b0, nb, hb, r⟩ := q
      refine ⟨b, vs, e1, b0, nb, ?_, r⟩
      have : b ≠ a := fun z => ap i ds e (by rw [e1, z])
      rw [upd_ne this]; exact hb
    | fro P => exact q
    | dic w kvs =>
      obtain ⟨b, e1, b0, nb, hb⟩ := q
      exact ⟨b, e1, b0, nb, hb.mono (Same.refl _) (.inl (upd_ne (hb.ne nx)).symm)⟩
    | raw P => exact (noRaw_at nr e).elim
  ne := h.ne
/-- the own list at slot i has changed -/
theorem Sat.mut {i : Nat} {a : Addr} {vs' : List V} {ds ds' : List PyData} (h : Sat K B ss σ F H) (e : ss[i]? = some (.own ds)) (ea : σ[i]? = some (some (.ref a))) (nr : noRaw ss = true) (r : RpAll K B.C F vs' ds') :
    Sat K B (ss.set i (.own ds')) σ F (L2.upd H a (.lst vs')) := by
  obtain ⟨b, ws, e1, b0, nb, hb, rb⟩ := h.slot i _ e
  rw [ea] at e1
  cases e1
  have hi : i < ss.length := (List.getElem?_eq_some_iff.mp e).1
  have h1 : Sat K B (ss.set i .un) σ F H := by
    refine ⟨h.g, h.pin, by rw [List.length_set]; exact h.len, fun j sd q => ?_, fun j k xs ys hjk q1 q2 => ?_⟩
    · by_cases hj : i = j
      · subst hj
        rw [List.getElem?_set_self hi] at q
        cases q; trivial
      · rw [List.getElem?_set_ne hj] at q
        exact h.slot j sd q
    · have f : ∀ {k : Nat} {xs : List PyData}, (ss.set i .un)[k]? = some (.own xs) → ss[k]? = some (.own xs) := fun {k xs} q => by
        by_cases hk : i = k
        · subst hk; rw [List.getElem?_set_self hi] at q; cases q
        · rw [List.getElem?_set_ne hk] at q; exact q
      exact h.ne j k xs ys hjk (f q1) (f q2)
  have ap : ∀ (j : Nat) (es : List PyData), (ss.set i .un)[j]? = some (.own es) → σ[j]? ≠ some (some (.ref a)) := fun j es q z => by
    by_cases hk : i = j
    · subst hk; rw [List.getElem?_set_self hi] at q; cases q
    · rw [List.getElem?_set_ne hk] at q
      exact h.ne i j ds es hk e q (ea.trans z.symm)
  have nr1 : noRaw (ss.set i .un) = true := by
    clear h1 ap
    clear h e ea
    revert i
    induction ss with
    | nil => intro i hi; simp at hi
    | cons x r ih =>
      intro i hi
      cases i with
      | zero =>
        show noRaw (.un :: r) = true
        cases x with
        | raw Q => simp [noRaw] at nr
        | un => exact nr
        | dat d => exact nr
        | bor d => exact nr
        | val v => exact nr
        | fro Q => exact nr
        | dic w kvs => exact nr
        | own ds => exact nr
      | succ i =>
        have hr : noRaw r = true := by
          cases x with
          | raw Q => simp [noRaw] at nr
          | un => exact nr
          | dat d => exact nr
          | bor d => exact nr
          | val v => exact nr
          | fro Q => exact nr
          | dic w kvs => exact nr
          | own ds => exact nr
        have := ih hr (i := i) (by simpa using hi)
        cases x with
        | raw Q => simp [noRaw] at nr
        | un => exact this
        | dat d => exact this
        | bor d => exact this
        | val v => exact this
        | fro Q => exact this
        | dic w kvs => exact this
        | own ds => exact this
  have h2 := Sat.upd (a := a) (o := .lst vs') h1 b0 nb nr1 ap (nx_lst hb)
  have h3 := Sat.set_own (i := i) (a := a) (vs := vs') (ds := ds') h2 b0 nb upd_same r (fun j es _ q => ap j es q)
  have e3 : σ.set i (some (.ref a)) = σ := by
    apply List.ext_getElem?
    intro k
    by_cases hk : i = k
    · subst hk; rw [List.getElem?_set_self (by rw [h.len]; exact hi), ea]
    · rw [List.getElem?_set_ne hk]
  rw [e3, List.set_set] at h3
  exact h3
/-- a list of one's own is known for good from now on -/
theorem Sat.freeze {i : Nat} {ds : List PyData} (h : Sat K B ss σ F H) (e : ss[i]? = some (.own ds)) (nr : noRaw ss = true) : ∃ F', Sat K B (ss.set i (.dat (.list ds))) σ F' H ∧ Same F F' := by
  obtain ⟨a, vs, ea, a0, na, ha, ra⟩ := h.slot i _ e
  have hi : i < ss.length := (List.getElem?_eq_some_iff.mp e).1
  have sm : Same F (L2.upd F a (.lst vs)) := Same.new na
  refine ⟨L2.upd F a (.lst vs), ⟨h.g.keep a0 na ha, h.pin.trans sm, by rw [List.length_set]; exact h.len, fun j sd q => ?_, fun j k xs ys hjk q1 q2 => ?_⟩, sm⟩
  · by_cases hj : i = j
    · subst hj
      rw [List.getElem?_set_self hi] at q
      cases q
      exact ⟨.ref a, ea, .lst upd_same (ra.mono sm)⟩
    · rw [List.getElem?_set_ne hj] at q
      have z := h.slot j sd q
      cases sd with
      | un => trivial
      | dat d => obtain ⟨v, e1, r⟩ := z; exact ⟨v, e1, r.mono sm⟩
      | bor d => exact z
      | val v => exact z
      | own es =>
        obtain ⟨b, ws, e1, b0, nb, hb, rb⟩ := z
        have nab : b ≠ a := fun y => h.ne i j ds es hj e q (by rw [ea, e1, y])
        exact ⟨b, ws, e1, b0, by rw [upd_ne nab]; exact nb, hb, rb.mono sm⟩
      | fro P => obtain ⟨v, e1, r⟩ := z; exact ⟨v, e1, fun F2 g2 => r F2 (sm.trans g2)⟩
      | dic w kvs =>
        obtain ⟨b, e1, b0, nb, hb⟩ := z
        have nab : b ≠ a := hb.ne (nx_lst ha)
        exact ⟨b, e1, b0, by rw [upd_ne nab]; exact nb, hb.mono sm (.inl rfl)⟩
      | raw P => exact (noRaw_at nr q).elim
  · have f : ∀ {k : Nat} {xs : List PyData}, (ss.set i (.dat (.list ds)))[k]? = some (.own xs) → ss[k]? = some (.own xs) := fun {k xs} q => by
      by_cases hk : i = k
      · subst hk; rw [List.getElem?_set_self hi] at q; cases q
      · rw [List.getElem?_set_ne hk] at q; exact q
    exact h.ne j k xs ys hjk (f q1) (f q2)
end
end G

namespace G
open PySem L2

/-! ### judgements: an expression read over every state that ss tells -/
section
variable (X : Cx) (B : Bs)
def tSem (e : Expr) : TE := fun σ H Q => ∀ pins s, Inv X pins σ H s → wpAny (model X.prog X.w) X.A (eval e X.env) (EP X pins σ Q) X.xe s
def tSemT (e : Expr) : TT := fun σ H Q => ∀ pins s, Inv X pins σ H s → wpAny (model X.prog X.w) X.A (isTrue e X.env (eval e X.env)) (TP X pins σ Q) X.xe s
def tSemW (e : Expr) : TT := fun σ H Q => ∀ (whole : Sem Value) pins s, Inv X pins σ H s → wpAny (model X.prog X.w) X.A (isTrue e X.env whole) (TP X pins σ Q) X.xe s
def tSemA (es : List Expr) : TA := fun σ H Q => ∀ (pos : Pos) pins s, Inv X pins σ H s → wpAny (model X.prog X.w) X.A (spliced (backTo pos (starEach es X.env))) (AP X pins σ Q) X.xe s
def tSS (l : List Stmt) : TS := fun D σ H => ∀ pins s, Inv X pins σ H s → wpAny (model X.prog X.w) X.A (execs l X.env) (SP X pins D) X.xe s
/-- e gives d, known for good -/
def PD (e : Expr) (ss : List SD) (d : PyData) : Prop := ∀ (σ : St) (F H : Hp), Sat X.K B ss σ F H → ∀ Q : VK, (∀ v F' H', Grow F H F' H' → Rp X.K B.C F' v d → Q v H') → tSem X e σ H Q
/-- e gives d, as things stand -/
def PB (e : Expr) (ss : List SD) (d : PyData) : Prop := ∀ (σ : St) (F H : Hp), Sat X.K B ss σ F H → ∀ Q : VK, (∀ v F' H', Grow F H F' H' → Rp X.K B.C H' v d → Q v H') → tSem X e σ H Q
/-- e gives a new list -/
def PN (e : Expr) (ss : List SD) (ds : List PyData) : Prop := ∀ (σ : St) (F H : Hp), Sat X.K B ss σ F H → ∀ Q : VK,
  (∀ a vs F' H', Grow F H F' H' → H a = none → F' a = none → H' a = some (.lst vs) → RpAll X.K B.C F' vs ds → Q (.ref a) H') → tSem X e σ H Q
/-- e gives a sequence (list, tuple, the script) of these items; it stands still (PIs), it stands so now (PI') -/
def PIs (e : Expr) (ss : List SD) (ds : List PyData) : Prop := ∀ (σ : St) (F H : Hp), Sat X.K B ss σ F H → ∀ Q : VK,
  (∀ a vs F' H', Grow F H F' H' → (SqL X.K F' a vs ∨ SqT X.K F' a vs) → RpAll X.K B.C F' vs ds → Q (.ref a) H') → tSem X e σ H Q
def PIt (e : Expr) (ss : List SD) (ds : List PyData) : Prop := ∀ (σ : St) (F H : Hp), Sat X.K B ss σ F H → ∀ Q : VK,
  (∀ a vs F' H', Grow F H F' H' → (SqL X.K H' a vs ∨ SqT X.K H' a vs) → RpAll X.K B.C F' vs ds → Q (.ref a) H') → tSem X e σ H Q
def TD (e : Expr) (ss : List SD) (b : Bool) : Prop := ∀ (σ : St) (F H : Hp), Sat X.K B ss σ F H → ∀ Q : Bool → Hp → Prop, (∀ F' H', Grow F H F' H' → Q b H') → tSemT X e σ H Q
def TW (e : Expr) (ss : List SD) (b : Bool) : Prop := ∀ (σ : St) (F H : Hp), Sat X.K B ss σ F H → ∀ Q : Bool → Hp → Prop, (∀ F' H', Grow F H F' H' → Q b H') → tSemW X e σ H Q
def PDs (es : List Expr) (ss : List SD) (ds : List PyData) : Prop := ∀ (σ : St) (F H : Hp), Sat X.K B ss σ F H → ∀ Q : List V → Hp → Prop, (∀ vs F' H', Grow F H F' H' → RpAll X.K B.C F' vs ds → Q vs H') → tSemA X es σ H Q
/-- arguments, as things stand -/
def PBs (es : List Expr) (ss : List SD) (ds : List PyData) : Prop := ∀ (σ : St) (F H : Hp), Sat X.K B ss σ F H → ∀ Q : List V → Hp → Prop, (∀ vs F' H', Grow F H F' H' → RpAll X.K B.C H' vs ds → Q vs H') → tSemA X es σ H Q
end
section
variable {X : Cx} {B : Bs} {ss : List SD} {e a b c : Expr} {es : List Expr} {pos p : Pos} {d x y z : PyData} {ds ds' : List PyData}
theorem pe_sem : PE X e (tSem X e) := ⟨fun pins s σ H Q I h => h pins s I⟩
theorem sem_of {t : TE} {σ : St} {H : Hp} {Q : VK} (h : PE X e t) (q : t σ H Q) : tSem X e σ H Q := fun pins s I => h.run pins s σ H Q I q
theorem pt_sem : PT X e (tSemT X e) := ⟨fun pins s σ H Q I h => h pins s I⟩
theorem semT_of {t : TT} {σ : St} {H : Hp} {Q : Bool → Hp → Prop} (h : PT X e t) (q : t σ H Q) : tSemT X e σ H Q := fun pins s I => h.run pins s σ H Q I q
theorem pw_sem : PW X e (tSemW X e) := ⟨fun wh pins s σ H Q I h => h wh pins s I⟩
theorem semW_of {t : TT} {σ : St} {H : Hp} {Q : Bool → Hp → Prop} (h : PW X e t) (q : t σ H Q) : tSemW X e σ H Q := fun wh pins s I => h.run wh pins s σ H Q I q
theorem pa_sem : PA X es (tSemA X es) := ⟨fun pos pins s σ H Q I h => h pos pins s I⟩
theorem semA_of {t : TA} {σ : St} {H : Hp} {Q : List V → Hp → Prop} (h : PA X es t) (q : t σ H Q) : tSemA X es σ H Q := fun pos pins s I => h.run pos pins s σ H Q I q
theorem pss_sem {l : List Stmt} : PSs X l (tSS X l) := ⟨fun pins s σ H D I h => h pins s I⟩
theorem ss_of {l : List Stmt} {t : TS} {D : Ends} {σ : St} {H : Hp} (h : PSs X l t) (q : t D σ H) : tSS X l D σ H := fun pins s I => h.run pins s σ H D I q
/-- no star ahead of an argument -/
abbrev NSt (X : Cx) (e : Expr) : Prop := ∀ es, starEach (e :: es) X.env = (false, eval e X.env) :: starEach es X.env

theorem PD.bo (h : PD X B e ss d) : PB X B e ss d := fun σ F H s Q q => h σ F H s Q fun v F' H' g r => q v F' H' g (r.mono g.fh)
theorem PDs.bo (h : PDs X B es ss ds) : PBs X B es ss ds := fun σ F H s Q q => h σ F H s Q fun v F' H' g r => q v F' H' g (r.mono g.fh)
theorem PN.da (h : PN X B e ss ds) : PD X B e ss (.list ds) := fun σ F H s Q q => h σ F H s Q fun a vs F' H' g n nf ha r => q (.ref a) (upd F' a (.lst vs)) H' (g.keep n nf ha) (.lst upd_same (r.mono (Same.new nf)))
theorem PN.bo (h : PN X B e ss ds) : PB X B e ss (.list ds) := h.da.bo
theorem PD.itl (h : PD X B e ss (.list ds)) : PIs X B e ss ds := fun σ F H s Q q => h σ F H s Q fun v F' H' g r => by
  cases r with
  | lst h1 h2 => exact q _ _ F' H' g (.inl (SqL.of h1)) h2
theorem PD.itt (h : PD X B e ss (.tuple ds)) : PIs X B e ss ds := fun σ F H s Q q => h σ F H s Q fun v F' H' g r => by
  cases r with
  | tup h1 h2 => exact q _ _ F' H' g (.inr h1) h2
theorem PD.its {ns : List Int} (h : PD X B e ss (scr ns)) : PIs X B e ss (ns.map .int) := fun σ F H s Q q => h σ F H s Q fun v F' H' g r => by
  generalize hd : scr ns = dd at r
  cases r with
  | non => cases hd
  | bl => cases hd
  | int => cases hd
  | str => cases hd
  | lst => cases hd
  | tup => cases hd
  | flr => cases hd
  | @scr a ms h1 =>
    have e1 : ns.map PyData.int = ms.map PyData.int := by
      injection hd with h2
      injection h2 with h3 _
      injection h3 with h4 _
      injection h4
    have e2 : ns = ms := by
      have inj : ∀ {l m : List Int}, l.map PyData.int = m.map PyData.int → l = m := by
        intro l
        induction l with
        | nil => intro m q; cases m with
          | nil => rfl
          | cons _ _ => cases q
        | cons i l ih => intro m q; cases m with
          | nil => cases q
          | cons j m =>
            rw [List.map_cons, List.map_cons] at q
            injection q with q1 q2
            injection q1 with q1
            rw [q1, ih q2]
      exact inj e1
    subst e2
    exact q _ _ F' H' g (.inl h1) (RpAll.ints ns)
theorem PIs.it (h : PIs X B e ss ds) : PIt X B e ss ds := fun σ F H s Q q => h σ F H s Q fun a vs F' H' g k r => q a vs F' H' g (k.elim (fun z => .inl (g.fh.seq z)) fun z => .inr (Same.sqt g.fh z)) r
theorem PN.its (h : PN X B e ss ds) : PIs X B e ss ds := h.da.itl
theorem PN.it (h : PN X B e ss ds) : PIt X B e ss ds := h.da.itl.it
theorem PD.eq (h : PD X B e ss d) (q : d = x) : PD X B e ss x := q ▸ h
theorem PB.eq (h : PB X B e ss d) (q : d = x) : PB X B e ss x := q ▸ h
theorem PN.eq (h : PN X B e ss ds) (q : ds = ds') : PN X B e ss ds' := q ▸ h
theorem TD.eq {u v : Bool} (h : TD X B e ss u) (q : u = v) : TD X B e ss v := q ▸ h

/-! ### names, constants -/
theorem pd_var (i : Nat) {x : Str} {d : PyData} (hN : X.N[i]? = some x := by rfl) (hs : ss[i]? = some (.dat d) := by rfl) (hv : Vis X.env.scope x := by first | exact Or.inl rfl | exact Or.inr (Or.inl rfl) | exact Or.inr (Or.inr rfl)) (hd : (x == ("__debug__" : Str)) = false := by decide)
    (hcd : (x == ("__classdict__" : Str)) = false := by decide) : PD X B (.Name x p) ss d := fun σ F H s Q q => by
  obtain ⟨v, e, r⟩ := s.slot i _ hs
  exact sem_of (pe_var hN hv hd hcd) ⟨v, e, q v F H (Grow.refl s.fh) r⟩
theorem pb_own (i : Nat) {x : Str} {ds : List PyData} (hN : X.N[i]? = some x := by rfl) (hs : ss[i]? = some (.own ds) := by rfl) (hv : Vis X.env.scope x := by first | exact Or.inl rfl | exact Or.inr (Or.inl rfl) | exact Or.inr (Or.inr rfl)) (hd : (x == ("__debug__" : Str)) = false := by decide)
    (hcd : (x == ("__classdict__" : Str)) = false := by decide) : PB X B (.Name x p) ss (.list ds) := fun σ F H s Q q => by
  obtain ⟨a, vs, e, h0, n, ha, r⟩ := s.slot i _ hs
  exact sem_of (pe_var hN hv hd hcd) ⟨.ref a, e, q _ F H (Grow.refl s.fh) (.lst ha (r.mono s.fh))⟩
theorem pi_own (i : Nat) {x : Str} {ds : List PyData} (hN : X.N[i]? = some x := by rfl) (hs : ss[i]? = some (.own ds) := by rfl) (hv : Vis X.env.scope x := by first | exact Or.inl rfl | exact Or.inr (Or.inl rfl) | exact Or.inr (Or.inr rfl)) (hd : (x == ("__debug__" : Str)) = false := by decide)
    (hcd : (x == ("__classdict__" : Str)) = false := by decide) : PIt X B (.Name x p) ss ds := fun σ F H s Q q => by
  obtain ⟨a, vs, e, h0, n, ha, r⟩ := s.slot i _ hs
  exact sem_of (pe_var hN hv hd hcd) ⟨.ref a, e, q a vs F H (Grow.refl s.fh) (.inl (SqL.of ha)) r⟩
theorem pd_int {i : Int} {j : Nat} : PD X B (.Constant (.int i) j pos) ss (.int i) := fun σ F H s Q q => sem_of pe_int (q _ F H (Grow.refl s.fh) (.int i))
theorem pd_bl {i : Bool} {j : Nat} : PD X B (.Constant (.bool i) j pos) ss (.bool i) := fun σ F H s Q q => sem_of pe_bl (q _ F H (Grow.refl s.fh) (.bl i))
theorem pd_non {j : Nat} : PD X B (.Constant .none j pos) ss .none := fun σ F H s Q q => sem_of pe_non (q _ F H (Grow.refl s.fh) .non)
theorem pd_str {x : Str} {j : Nat} : PD X B (.Constant (.str x) j pos) ss (.str x) := fun σ F H s Q q => sem_of pe_str (q _ F H (Grow.refl s.fh) (.str x))
/-- a module's constant -/
theorem pd_glob {x : Str} {v : V} {u : Value} {d : PyData} (hm : X.mg x = some u) (r : RelV v u) (hr : ∀ F : Hp, Rp X.K B.C F v d) (hg : Gl X x := by rfl) (hd : (x == ("__debug__" : Str)) = false := by decide) : PD X B (.Name x pos) ss d := fun σ F H s Q q =>
  sem_of (pe_glob hg hm r hd) (q _ F H (Grow.refl s.fh) (hr F))

/-! ### arguments -/
theorem pds_nil : PDs X B [] ss [] := fun σ F H s Q q => semA_of pa_nil (q [] F H (Grow.refl s.fh) .nil)
theorem pds_cons (h : PD X B e ss d) (t : PDs X B es ss ds) (hn : NSt X e := by intro _; rfl) : PDs X B (e :: es) ss (d :: ds) := fun σ F H s Q q =>
  semA_of (pa_cons pe_sem pa_sem (hn es)) (h σ F H s _ fun v F1 H1 g1 r1 => t σ F1 H1 (s.grow g1) _ fun vs F2 H2 g2 r2 => q (v :: vs) F2 H2 (g1.trans g2) (.cons (r1.mono g2.ff) r2))
theorem pbs_nil : PBs X B [] ss [] := fun σ F H s Q q => semA_of pa_nil (q [] F H (Grow.refl s.fh) .nil)
theorem pbs_cons (h : PB X B e ss d) (t : PBs X B es ss ds) (hn : NSt X e := by intro _; rfl) : PBs X B (e :: es) ss (d :: ds) := fun σ F H s Q q =>
  semA_of (pa_cons pe_sem pa_sem (hn es)) (h σ F H s _ fun v F1 H1 g1 r1 => t σ F1 H1 (s.grow g1) _ fun vs F2 H2 g2 r2 => q (v :: vs) F2 H2 (g1.trans g2) (.cons (r1.mono g2.hh) r2))
theorem pd_tup {k : Nat} (h : PDs X B es ss ds) (hz : ds.length ≤ sizeLine := by exact Nat.le_of_ble_eq_true rfl) : PD X B (.Tuple es k pos) ss (.tuple ds) := fun σ F H s Q q =>
  sem_of (pe_tup pa_sem) (h σ F H s _ fun vs F1 H1 g r => ⟨by rw [r.length]; exact hz, fun p hp => q (.ref p) (upd F1 p (.tup vs)) (upd H1 p (.tup vs)) (g.trans (Grow.new g.fh hp)) (.tup (SqT.of upd_same) (r.mono (Same.new (g.fh.free hp))))⟩)
theorem pn_lst (h : PDs X B es ss ds) (hz : ds.length ≤ sizeLine := by exact Nat.le_of_ble_eq_true rfl) : PN X B (.List es pos) ss ds := fun σ F H s Q q =>
  sem_of (pe_lst pa_sem) (h σ F H s _ fun vs F1 H1 g r => ⟨by rw [r.length]; exact hz, fun p hp => q p vs F1 (upd H1 p (.lst vs)) (g.trans (Grow.newO g.fh hp)) (g.hh.free hp) (g.fh.free hp) upd_same r⟩)

/-! ### operators by values -/
def OpD (K : PySem.W.Frag) (C : Addr) (r : R2) (x y d : PyData) : Prop := ∀ (F H : Hp) (v w : V), Same F H → Rp K C F v x → Rp K C F w y → ∀ Q : VK, (∀ z F' H', Grow F H F' H' → Rp K C F' z d → Q z H') → r v w H Q
def OpB (K : PySem.W.Frag) (C : Addr) (r : R2) (x y : PyData) (b : Bool) : Prop := ∀ (H : Hp) (v w : V), Rp K C H v x → Rp K C H w y → ∀ Q : VK, Q (.bl b) H → r v w H Q
theorem pd_op {op : Operator} {r : R2} (ho : OpR X (binaryOp op) r) (ha : PD X B a ss x) (hb : PD X B b ss y) (h : OpD X.K B.C r x y d) : PD X B (.BinOp a op b pos) ss d := fun σ F H s Q q =>
  sem_of (pe_op ho pe_sem pe_sem) (ha σ F H s _ fun v F1 H1 g1 r1 => hb σ F1 H1 (s.grow g1) _ fun w F2 H2 g2 r2 => h F2 H2 v w g2.fh (r1.mono g2.ff) r2 Q fun z F3 H3 g3 r3 => q z F3 H3 ((g1.trans g2).trans g3) r3)
theorem pd_add {i j : Int} (ha : PD X B a ss (.int i)) (hb : PD X B b ss (.int j)) : PD X B (.BinOp a .Add b pos) ss (.int (i + j)) := pd_op op_add ha hb fun F H v w f r1 r2 Q q => by
  cases r1; cases r2; exact ⟨i, j, rfl, rfl, q _ F H (Grow.refl f) (.int _)⟩
theorem pd_sub {i j : Int} (ha : PD X B a ss (.int i)) (hb : PD X B b ss (.int j)) : PD X B (.BinOp a .Sub b pos) ss (.int (i - j)) := pd_op op_sub ha hb fun F H v w f r1 r2 Q q => by
  cases r1; cases r2; exact ⟨i, j, rfl, rfl, q _ F H (Grow.refl f) (.int _)⟩
theorem pd_mul {i j : Int} (ha : PD X B a ss (.int i)) (hb : PD X B b ss (.int j)) (hc : CMul i j) : PD X B (.BinOp a .Mult b pos) ss (.int (i * j)) := pd_op op_mul ha hb fun F H v w f r1 r2 Q q => by
  cases r1; cases r2; exact ⟨i, j, rfl, rfl, hc, q _ F H (Grow.refl f) (.int _)⟩
theorem pd_div {i j : Int} (ha : PD X B a ss (.int i)) (hb : PD X B b ss (.int j)) (hc : CDiv i j := by exact ⟨by decide, by decide⟩) : PD X B (.BinOp a .FloorDiv b pos) ss (.int (i / j)) := pd_op op_fdiv ha hb fun F H v w f r1 r2 Q q => by
  cases r1; cases r2; exact ⟨i, j, rfl, rfl, hc, q _ F H (Grow.refl f) (.int _)⟩
theorem pd_mod {i j : Int} (ha : PD X B a ss (.int i)) (hb : PD X B b ss (.int j)) (hc : 0 < j := by decide) : PD X B (.BinOp a .Mod b pos) ss (.int (i % j)) := pd_op op_mod ha hb fun F H v w f r1 r2 Q q => by
  cases r1; cases r2; exact ⟨i, j, rfl, rfl, hc, q _ F H (Grow.refl f) (.int _)⟩
theorem pd_neg {i : Int} (ha : PD X B a ss (.int i)) : PD X B (.UnaryOp .USub a pos) ss (.int (-i)) := fun σ F H s Q q =>
  sem_of (pe_un un_neg pe_sem) (ha σ F H s _ fun v F1 H1 g r => by cases r; exact ⟨i, rfl, q _ F1 H1 g (.int _)⟩)
theorem pd_addS {i j : Str} (ha : PD X B a ss (.str i)) (hb : PD X B b ss (.str j)) (hz : i.length + j.length ≤ sizeLine) : PD X B (.BinOp a .Add b pos) ss (.str (i ++ j)) := pd_op op_add_str ha hb fun F H v w f r1 r2 Q q => by
  cases r1; cases r2; exact ⟨i, j, rfl, rfl, hz, q _ F H (Grow.refl f) (.str _)⟩
theorem pd_catT (ha : PD X B a ss (.tuple ds)) (hb : PD X B b ss (.tuple ds')) (hz : ds.length + ds'.length ≤ sizeLine) : PD X B (.BinOp a .Add b pos) ss (.tuple (ds ++ ds')) := pd_op op_catA ha hb fun F H v w f r1 r2 Q q => by
  cases r1 with
  | tup h1 q1 =>
    cases r2 with
    | tup h2 q2 =>
      rename_i p vs p' ws
      have l1 := q1.length
      have l2 := q2.length
      refine ⟨p, p', vs, ws, rfl, rfl, Same.sqt f h1, Same.sqt f h2, by omega, fun e => ?_, fun e1 e2 => ?_, fun e1 e2 t ht => ?_⟩
      · subst e; cases q1; exact q _ F H (Grow.refl f) (.tup h2 q2)
      · subst e2; cases q2; rw [List.append_nil] at q; exact q _ F H (Grow.refl f) (.tup h1 q1)
      · exact q _ (upd F t (.tup (vs ++ ws))) _ (Grow.new f ht) (.tup (SqT.of upd_same) ((q1.app q2).mono (Same.new (f.free ht))))
theorem pd_repT {k : Int} (ha : PD X B a ss (.tuple ds)) (hb : PD X B b ss (.int k)) (h0 : ds ≠ []) (hz : ds.length ≤ 1000) (h2 : 2 ≤ k) (h3 : k ≤ 1000) : PD X B (.BinOp a .Mult b pos) ss (.tuple (List.replicate k.toNat ds).flatten) := pd_op op_repT ha hb fun F H v w f r1 r2 Q q => by
  cases r2
  cases r1 with
  | tup h1 q1 =>
    rename_i p vs
    have l1 := q1.length
    refine ⟨p, k, vs, rfl, rfl, Same.sqt f h1, fun e => ?_, h2, h3, by omega, fun t ht => ?_⟩
    · subst e; cases q1; exact h0 rfl
    · exact q _ (upd F t (.tup _)) _ (Grow.new f ht) (.tup (SqT.of upd_same) ((q1.rep k.toNat).mono (Same.new (f.free ht))))
/-- two lists in a row: a new list -/
theorem pn_cat (ha : PD X B a ss (.list ds)) (hb : PD X B b ss (.list ds')) (hz : ds.length + ds'.length ≤ sizeLine) : PN X B (.BinOp a .Add b pos) ss (ds ++ ds') := fun σ F H s Q q =>
  sem_of (pe_op op_cat pe_sem pe_sem) (ha σ F H s _ fun v F1 H1 g1 r1 => hb σ F1 H1 (s.grow g1) _ fun w F2 H2 g2 r2 => by
    cases r1 with
    | lst h1 q1 =>
      cases r2 with
      | lst h2 q2 =>
        rename_i p vs p' ws
        have l1 := q1.length
        have l2 := q2.length
        exact ⟨p, p', vs, ws, rfl, rfl, g2.hh _ _ (g1.fh _ _ h1), g2.fh _ _ h2, by omega, fun t ht => q t _ F2 _ ((g1.trans g2).trans (Grow.newO g2.fh ht)) ((g1.trans g2).hh.free ht) (g2.fh.free ht) upd_same ((q1.mono g2.ff).app q2)⟩)

/-! ### comparisons -/
theorem pd_cmp {op : CmpOp} {r : R2} {k : Bool} (ho : OpR X (compareOp op) r) (ha : PB X B a ss x) (hb : PB X B b ss y) (h : OpB X.K B.C r x y k) (hm : behindInMarks op b = false) : PD X B (.Compare a [op] [b] pos) ss (.bool k) := fun σ F H s Q q =>
  sem_of (pe_cmpR ho pe_sem pe_sem hm) (ha σ F H s _ fun v F1 H1 g1 r1 => hb σ F1 H1 (s.grow g1) _ fun w F2 H2 g2 r2 => h H2 v w (r1.mono g2.hh) r2 Q (q _ F2 H2 (g1.trans g2) (.bl _)))
theorem td_cmp {op : CmpOp} {r : R2} {k : Bool} (ho : OpR X (compareOp op) r) (ha : PB X B a ss x) (hb : PB X B b ss y) (h : OpB X.K B.C r x y k) (hm : behindInMarks op b = false) : TD X B (.Compare a [op] [b] pos) ss k := fun σ F H s Q q =>
  semT_of (pt_cmpR ho pe_sem pe_sem hm) (ha σ F H s _ fun v F1 H1 g1 r1 => hb σ F1 H1 (s.grow g1) _ fun w F2 H2 g2 r2 => h H2 v w (r1.mono g2.hh) r2 _ ⟨k, rfl, q F2 H2 (g1.trans g2)⟩)
theorem ob_lt {K : PySem.W.Frag} {C : Addr} {i j : Int} : OpB K C (rI0 fun i j => .bl (decide (i < j))) (.int i) (.int j) (decide (i < j)) := fun H v w r1 r2 Q q => by cases r1; cases r2; exact ⟨i, j, rfl, rfl, q⟩
theorem ob_le {K : PySem.W.Frag} {C : Addr} {i j : Int} : OpB K C (rI0 fun i j => .bl (decide (i ≤ j))) (.int i) (.int j) (decide (i ≤ j)) := fun H v w r1 r2 Q q => by cases r1; cases r2; exact ⟨i, j, rfl, rfl, q⟩
theorem ob_gt {K : PySem.W.Frag} {C : Addr} {i j : Int} : OpB K C (rI0 fun i j => .bl (decide (j < i))) (.int i) (.int j) (decide (j < i)) := fun H v w r1 r2 Q q => by cases r1; cases r2; exact ⟨i, j, rfl, rfl, q⟩
theorem ob_ge {K : PySem.W.Frag} {C : Addr} {i j : Int} : OpB K C (rI0 fun i j => .bl (decide (j ≤ i))) (.int i) (.int j) (decide (j ≤ i)) := fun H v w r1 r2 Q q => by cases r1; cases r2; exact ⟨i, j, rfl, rfl, q⟩
theorem ob_eqI {K : PySem.W.Frag} {C : Addr} {i j : Int} : OpB K C rEq (.int i) (.int j) (decide (i = j)) := fun H v w r1 r2 Q q => by
  cases r1; cases r2
  refine ⟨rfl, ?_⟩
  have e : decide (V.int i = V.int j) = decide (i = j) := decide_eq_decide.mpr ⟨fun h => V.int.inj h, fun h => by rw [h]⟩
  rw [e]; exact q
theorem ob_neI {K : PySem.W.Frag} {C : Addr} {i j : Int} : OpB K C rNe (.int i) (.int j) (!decide (i = j)) := fun H v w r1 r2 Q q => by
  cases r1; cases r2
  refine ⟨rfl, ?_⟩
  have e : decide (V.int i = V.int j) = decide (i = j) := decide_eq_decide.mpr ⟨fun h => V.int.inj h, fun h => by rw [h]⟩
  rw [e]; exact q
theorem ob_eqD {K : PySem.W.Frag} {C : Addr} {n m : Nat} (h1 : Pl n x) (h2 : Pl m y) (n1 : n ≤ 64) (n2 : m ≤ 64) : OpB K C (rEqD K) x y (PyData.eqv x y) := fun H v w r1 r2 Q q => ⟨x, y, r1.dp h1.lay.1, r2.dp h2.lay.1, h1.shaped n1, h2.shaped n2, q⟩
theorem ob_neD {K : PySem.W.Frag} {C : Addr} {n m : Nat} (h1 : Pl n x) (h2 : Pl m y) (n1 : n ≤ 64) (n2 : m ≤ 64) : OpB K C (rNeD K) x y (!PyData.eqv x y) := fun H v w r1 r2 Q q => ⟨x, y, r1.dp h1.lay.1, r2.dp h2.lay.1, h1.shaped n1, h2.shaped n2, q⟩
theorem ob_inD {K : PySem.W.Frag} {C : Addr} {n m : Nat} (h1 : Pl n x) (h2 : Pl m (.list ds)) (n1 : n ≤ 64) (n2 : m ≤ 64) : OpB K C (rInD K) x (.list ds) (ds.any fun z => PyData.eqv z x) := fun H v w r1 r2 Q q => ⟨x, ds, r1.dp h1.lay.1, r2.dp h2.lay.1, h1.shaped n1, h2.shaped n2, q⟩
theorem ob_notInD {K : PySem.W.Frag} {C : Addr} {n m : Nat} (h1 : Pl n x) (h2 : Pl m (.list ds)) (n1 : n ≤ 64) (n2 : m ≤ 64) : OpB K C (rNotInD K) x (.list ds) (!ds.any fun z => PyData.eqv z x) := fun H v w r1 r2 Q q => ⟨x, ds, r1.dp h1.lay.1, r2.dp h2.lay.1, h1.shaped n1, h2.shaped n2, q⟩
def isNoneD : PyData → Bool
  | .none => true
  | _ => false
theorem rp_isNone {K : PySem.W.Frag} {C : Addr} {H : Hp} {v : V} {d : PyData} (r : Rp K C H v d) : decide (v = .non) = isNoneD d := by
  cases r <;> simp [isNoneD]
theorem ob_isN {K : PySem.W.Frag} {C : Addr} : OpB K C (fun x y H Q => y = .non ∧ Q (.bl (decide (x = .non))) H) x .none (isNoneD x) := fun H v w r1 r2 Q q => by
  cases r2
  exact ⟨rfl, by rw [rp_isNone r1]; exact q⟩
theorem ob_notN {K : PySem.W.Frag} {C : Addr} : OpB K C (fun x y H Q => y = .non ∧ Q (.bl (!decide (x = .non))) H) x .none (!isNoneD x) := fun H v w r1 r2 Q q => by
  cases r2
  exact ⟨rfl, by rw [rp_isNone r1]; exact q⟩
theorem ob_isB {K : PySem.W.Frag} {C : Addr} {i j : Bool} : OpB K C rIsB (.bool i) (.bool j) (decide (i = j)) := fun H v w r1 r2 Q q => by cases r1; cases r2; exact ⟨i, j, rfl, rfl, q⟩
theorem ob_notB {K : PySem.W.Frag} {C : Addr} {i j : Bool} : OpB K C rNotB (.bool i) (.bool j) (!decide (i = j)) := fun H v w r1 r2 Q q => by cases r1; cases r2; exact ⟨i, j, rfl, rfl, q⟩
/-- a < b < c, ints -/
theorem td_chain {op op' : CmpOp} {f f' : Int → Int → Bool} {i j k : Int} (ho : OpR X (compareOp op) (rI0 fun i j => .bl (f i j))) (ho' : OpR X (compareOp op') (rI0 fun i j => .bl (f' i j))) (ha : PD X B a ss (.int i)) (hb : PD X B b ss (.int j)) (hc : PD X B c ss (.int k))
    (hpt : PT X (.Compare a [op, op'] [b, c] pos) (tTest (tChain (rI0 fun i j => .bl (f i j)) (rI0 fun i j => .bl (f' i j)) (tSem X a) (tSem X b) (tSem X c)))) : TD X B (.Compare a [op, op'] [b, c] pos) ss (f i j && f' j k) := fun σ F H s Q q =>
  semT_of hpt (ha σ F H s _ fun v F1 H1 g1 r1 => hb σ F1 H1 (s.grow g1) _ fun w F2 H2 g2 r2 => by
    cases r1; cases r2
    refine ⟨i, j, rfl, rfl, f i j, rfl, ?_⟩
    cases hf : f i j with
    | false =>
      refine iteF ?_
      rw [hf] at q
      exact ⟨false, rfl, q F2 H2 (g1.trans g2)⟩
    | true =>
      refine iteT ?_
      rw [hf, Bool.true_and] at q
      exact hc σ F2 H2 (s.grow (g1.trans g2)) _ fun u F3 H3 g3 r3 => by
        cases r3
        exact ⟨j, k, rfl, rfl, _, rfl, q F3 H3 ((g1.trans g2).trans g3)⟩)

/-! ### and, or, not -/
theorem TW.t {k : Bool} (h : TW X B e ss k) : TD X B e ss k := fun σ F H s Q q => semT_of (PW.pt pw_sem) (h σ F H s Q q)
theorem tw_and1 {u : Bool} (ha : TD X B a ss u) : TW X B (.BoolOp .And [a] pos) ss u := fun σ F H s Q q => semW_of (pw_and1 pt_sem) (ha σ F H s Q q)
theorem tw_or1 {u : Bool} (ha : TD X B a ss u) : TW X B (.BoolOp .Or [a] pos) ss u := fun σ F H s Q q => semW_of (pw_or1 pt_sem) (ha σ F H s Q q)
theorem tw_and {u v : Bool} (ha : TD X B a ss u) (hb : u = true → TW X B (.BoolOp .And (b :: es) pos) ss v) : TW X B (.BoolOp .And (a :: b :: es) pos) ss (u && v) := fun σ F H s Q q =>
  semW_of (pw_and pt_sem pw_sem) (ha σ F H s _ fun F1 H1 g1 => by
    cases u with
    | true => exact iteT (hb rfl σ F1 H1 (s.grow g1) Q fun F2 H2 g2 => q F2 H2 (g1.trans g2))
    | false => exact iteF (q F1 H1 g1))
theorem tw_or {u v : Bool} (ha : TD X B a ss u) (hb : u = false → TW X B (.BoolOp .Or (b :: es) pos) ss v) : TW X B (.BoolOp .Or (a :: b :: es) pos) ss (u || v) := fun σ F H s Q q =>
  semW_of (pw_or pt_sem pw_sem) (ha σ F H s _ fun F1 H1 g1 => by
    cases u with
    | true => exact iteT (q F1 H1 g1)
    | false => exact iteF (hb rfl σ F1 H1 (s.grow g1) Q fun F2 H2 g2 => q F2 H2 (g1.trans g2)))
theorem td_not {u : Bool} (ha : TD X B a ss u) : TD X B (.UnaryOp .Not a pos) ss (!u) := fun σ F H s Q q => semT_of (pt_not pt_sem) (ha σ F H s _ fun F1 H1 g1 => q F1 H1 g1)
theorem td_val {u : Bool} (ha : PD X B e ss (.bool u)) (he : ∀ whole, isTrue e X.env whole = (do let v ← whole; standAt e.pos; holding [v] (truthy v)) := by intro _; rfl) : TD X B e ss u := fun σ F H s Q q =>
  semT_of (pt_val pe_sem he) (ha σ F H s _ fun v F1 H1 g1 r => by cases r; exact ⟨u, rfl, q F1 H1 g1⟩)
theorem pd_one {op : BoolOp} (h : PD X B a ss d) : PD X B (.BoolOp op [a] pos) ss d := fun σ F H s Q q => sem_of (pe_one pe_sem) (h σ F H s Q q)
theorem pd_and {u v : Bool} (ha : PD X B a ss (.bool u)) (hb : u = true → PD X B (.BoolOp .And (b :: es) pos) ss (.bool v)) : PD X B (.BoolOp .And (a :: b :: es) pos) ss (.bool (u && v)) := fun σ F H s Q q =>
  sem_of (pe_and pe_sem pe_sem) (ha σ F H s _ fun w F1 H1 g1 r => by
    cases r
    refine ⟨u, rfl, ?_⟩
    cases u with
    | true => exact iteT (hb rfl σ F1 H1 (s.grow g1) Q fun z F2 H2 g2 r2 => q z F2 H2 (g1.trans g2) r2)
    | false => exact iteF (q _ F1 H1 g1 (.bl _)))
theorem pd_or {u v : Bool} (ha : PD X B a ss (.bool u)) (hb : u = false → PD X B (.BoolOp .Or (b :: es) pos) ss (.bool v)) : PD X B (.BoolOp .Or (a :: b :: es) pos) ss (.bool (u || v)) := fun σ F H s Q q =>
  sem_of (pe_or pe_sem pe_sem) (ha σ F H s _ fun w F1 H1 g1 r => by
    cases r
    refine ⟨u, rfl, ?_⟩
    cases u with
    | true => exact iteT (q _ F1 H1 g1 (.bl _))
    | false => exact iteF (hb rfl σ F1 H1 (s.grow g1) Q fun z F2 H2 g2 r2 => q z F2 H2 (g1.trans g2) r2))
theorem pd_not {u : Bool} (ha : PD X B a ss (.bool u)) : PD X B (.UnaryOp .Not a pos) ss (.bool (!u)) := fun σ F H s Q q => sem_of (pe_not pe_sem) (ha σ F H s _ fun w F1 H1 g1 r => by cases r; exact ⟨u, rfl, q _ F1 H1 g1 (.bl _)⟩)

/-! ### items, slices, fields -/
theorem atI_rp {K : PySem.W.Frag} {C : Addr} {H : Hp} {vs : List V} {k : Int} (r : RpAll K C H vs ds) (h : atI ds k = some d) : ∃ v, atI vs k = some v ∧ Rp K C H v d := by
  unfold atI at h ⊢
  rw [r.length]
  cases e : ixN ds.length k with
  | none => rw [e] at h; cases h
  | some j =>
    rw [e] at h
    exact RpAll.get r h
theorem pd_ix {k : Int} (ha : PIt X B a ss ds) (hb : PD X B b ss (.int k)) (h : atI ds k = some d) (hx : PlainIx b := by intro _ _; rfl) : PD X B (.Subscript a b pos) ss d := fun σ F H s Q q =>
  sem_of (pe_ix ix_seq pe_sem pe_sem hx) (ha σ F H s _ fun p vs F1 H1 g1 sq r1 => hb σ F1 H1 (s.grow g1) _ fun w F2 H2 g2 r2 => by
    cases r2
    obtain ⟨v, hv, rv⟩ := atI_rp (r1.mono g2.ff) h
    have fin := q v F2 H2 (g1.trans g2) rv
    rcases sq with sq | sq
    · exact .inl ⟨p, vs, k, v, rfl, rfl, g2.hh.seq sq, hv, fin⟩
    · exact .inr (.inl ⟨p, vs, k, v, rfl, rfl, Same.sqt g2.hh sq, hv, fin⟩))
theorem pd_ixS {z : Str} {k : Int} {c : Nat} (ha : PD X B a ss (.str z)) (hb : PD X B b ss (.int k)) (hz : z.length ≤ sizeLine) (h : atI z.cps.toList k = some c) (hx : PlainIx b := by intro _ _; rfl) : PD X B (.Subscript a b pos) ss (.str ⟨#[c]⟩) := fun σ F H s Q q =>
  sem_of (pe_ix ix_str pe_sem pe_sem hx) (ha σ F H s _ fun v F1 H1 g1 r1 => hb σ F1 H1 (s.grow g1) _ fun w F2 H2 g2 r2 => by
    cases r1; cases r2
    exact ⟨z, k, c, rfl, rfl, hz, h, q _ F2 H2 (g1.trans g2) (.str _)⟩)
/-- a slice's end: left out, or a number -/
def POd (X : Cx) (B : Bs) (e : Option Expr) (ss : List SD) (o : Option Int) : Prop := ∃ t : TO, PO X e t ∧ ∀ (σ : St) (F H : Hp), Sat X.K B ss σ F H → ∀ Q : Option Int → Hp → Prop, (∀ F' H', Grow F H F' H' → Q o H') → t σ H Q
theorem pod_none : POd X B none ss none := ⟨_, po_none, fun σ F H s Q q => q F H (Grow.refl s.fh)⟩
theorem pod_some {k : Int} (h : PD X B e ss (.int k)) : POd X B (some e) ss (some k) := ⟨_, po_some pe_sem, fun σ F H s Q q => h σ F H s _ fun v F1 H1 g r => by cases r; exact ⟨k, rfl, q F1 H1 g⟩⟩
def cutD (xs : List PyData) (lo hi : Option Int) : List PyData := (xs.drop (HT.sIx xs.length 0 lo)).take (HT.sIx xs.length xs.length hi - HT.sIx xs.length 0 lo)
theorem pd_slT {lo hi : Option Expr} {l u : Option Int} {p2 : Pos} (ha : PD X B a ss (.tuple ds)) (hl : POd X B lo ss l) (hh : POd X B hi ss u) : PD X B (.Subscript a (.Slice lo hi none p2) pos) ss (.tuple (cutD ds l u)) := fun σ F H s Q q => by
  obtain ⟨tl, pl, ql⟩ := hl
  obtain ⟨th, ph, qh⟩ := hh
  refine sem_of (pe_slice sl_tupA pe_sem pl ph) (ha σ F H s _ fun v F1 H1 g1 r1 => ql σ F1 H1 (s.grow g1) _ fun F2 H2 g2 => qh σ F2 H2 (s.grow (g1.trans g2)) _ fun F3 H3 g3 => ?_)
  have g := (g1.trans g2).trans g3
  have r3 := r1.mono (g2.trans g3).ff
  cases r3 with
  | tup h1 q1 =>
    rename_i p vs
    have ll := q1.length
    refine ⟨p, vs, rfl, Same.sqt g.fh h1, fun hw => ?_, fun hw t ht => ?_⟩
    · have e : cutD ds l u = ds := by
        unfold cutD
        rw [← ll, hw.1, hw.2, List.drop_zero, Nat.sub_zero, ll, List.take_length]
      rw [e] at q
      exact q _ F3 H3 g (.tup h1 q1)
    · refine q _ (upd F3 t (.tup (cutV vs l u))) _ (g.trans (Grow.new g.fh ht)) (.tup (SqT.of upd_same) ?_)
      unfold cutD cutV
      rw [ll]
      exact (((q1.drop _).take _).mono (Same.new (g.fh.free ht)))
theorem pn_slL {lo hi : Option Expr} {l u : Option Int} {p2 : Pos} (ha : PIt X B a ss ds) (hk : ∀ (σ : St) (F H : Hp), Sat X.K B ss σ F H → ∀ Q : VK, (∀ p vs F' H', Grow F H F' H' → SqL X.K H' p vs → RpAll X.K B.C F' vs ds → Q (.ref p) H') → tSem X a σ H Q) (hl : POd X B lo ss l) (hh : POd X B hi ss u) :
    PN X B (.Subscript a (.Slice lo hi none p2) pos) ss (cutD ds l u) := fun σ F H s Q q => by
  obtain ⟨tl, pl, ql⟩ := hl
  obtain ⟨th, ph, qh⟩ := hh
  refine sem_of (pe_slice sl_list pe_sem pl ph) (hk σ F H s _ fun p vs F1 H1 g1 sq r1 => ql σ F1 H1 (s.grow g1) _ fun F2 H2 g2 => qh σ F2 H2 (s.grow (g1.trans g2)) _ fun F3 H3 g3 => ?_)
  have g := (g1.trans g2).trans g3
  have r3 := r1.mono (g2.trans g3).ff
  refine ⟨p, vs, rfl, (g2.trans g3).hh.seq sq, fun t ht => q t (cutV vs l u) F3 _ (g.trans (Grow.newO g.fh ht)) (g.hh.free ht) (g.fh.free ht) upd_same ?_⟩
  have ll := r3.length
  unfold cutD cutV
  rw [ll]
  exact (r3.drop _).take _
theorem lk_many (m h s : Int) (b : Addr) : (flF m h s b).lookup ("many" : Str) = some (.int m) := by rfl
theorem lk_high (m h s : Int) (b : Addr) : (flF m h s b).lookup ("high" : Str) = some (.int h) := by rfl
theorem lk_strong (m h s : Int) (b : Addr) : (flF m h s b).lookup ("strong" : Str) = some (.int s) := by rfl
theorem lk_banned (m h s : Int) (b : Addr) : (flF m h s b).lookup ("banned" : Str) = some (.ref b) := by rfl
theorem pd_fldI {f : Str} {m h t k : Int} (ha : PD X B e ss (flr m h t ds)) (cl : Cls X.K B.C) (na : NoAttr X.K B.C f) (hl : ∀ b, (flF m h t b).lookup f = some (.int k)) (hb : attributeBase e f X.env (eval e X.env) = eval e X.env := by rfl) : PD X B (.Attribute e f pos) ss (.int k) := fun σ F H s Q q =>
  sem_of (pe_fld pe_sem hb) (ha σ F H s _ fun v F1 H1 g r => by
    cases r with
    | flr h1 h2 h3 => exact ⟨_, B.C, _, _, .int k, rfl, g.fh _ _ h1, cl, na, hl _, q _ F1 H1 g (.int _)⟩)
theorem pd_fldB {m h t : Int} (ha : PD X B e ss (flr m h t ds)) (cl : Cls X.K B.C) (na : NoAttr X.K B.C "banned") (hb : attributeBase e "banned" X.env (eval e X.env) = eval e X.env := by rfl) : PD X B (.Attribute e "banned" pos) ss (.list ds) := fun σ F H s Q q =>
  sem_of (pe_fld pe_sem hb) (ha σ F H s _ fun v F1 H1 g r => by
    cases r with
    | flr h1 h2 h3 => exact ⟨_, B.C, _, _, _, rfl, g.fh _ _ h1, cl, na, lk_banned _ _ _ _, q _ F1 H1 g (.lst h2 h3)⟩)

/-! ### built-ins -/
theorem pd_len (ha : PIt X B e ss ds) (hm : X.mg "len" = none) (hg : Gl X "len" := by rfl) (hn : NSt X e := by intro _; rfl) : PD X B (.Call (.Name "len" p) [e] [] pos) ss (.int ds.length) := fun σ F H s Q q =>
  sem_of (pe_callB call_len_seq hg hm PySem.boot_len (pa_cons pe_sem pa_nil (hn [])) (by decide) (by decide) (hn []) rfl) (ha σ F H s _ fun a vs F1 H1 g sq r => ⟨a, vs, rfl, sq, q _ F1 H1 g (by rw [r.length]; exact .int _)⟩)
theorem pd_lenS {z : Str} (ha : PD X B e ss (.str z)) (hz : z.length ≤ sizeLine) (hm : X.mg "len" = none) (hg : Gl X "len" := by rfl) (hn : NSt X e := by intro _; rfl) : PD X B (.Call (.Name "len" p) [e] [] pos) ss (.int z.length) := fun σ F H s Q q =>
  sem_of (pe_callB call_len_str hg hm PySem.boot_len (pa_cons pe_sem pa_nil (hn [])) (by decide) (by decide) (hn []) rfl) (ha σ F H s _ fun v F1 H1 g r => by cases r; exact ⟨z, rfl, hz, q _ F1 H1 g (.int _)⟩)
theorem pn_list (ha : PIt X B e ss ds) (hm : X.mg "list" = none) (hv : bootBuiltins "list" = some (.type "list") := by decide +kernel) (hg : Gl X "list" := by rfl) (hn : NSt X e := by intro _; rfl) : PN X B (.Call (.Name "list" p) [e] [] pos) ss ds := fun σ F H s Q q =>
  sem_of (pe_callTy call_list_of hg hm hv (pa_cons pe_sem pa_nil (hn [])) (by decide) (by decide) (hn []) rfl) (ha σ F H s _ fun a vs F1 H1 g sq r => ⟨a, vs, rfl, sq, fun t ht => q t vs F1 _ (g.trans (Grow.newO g.fh ht)) (g.hh.free ht) (g.fh.free ht) upd_same r⟩)
theorem pd_tupleN (ha : PN X B e ss ds) (hm : X.mg "tuple" = none) (hv : bootBuiltins "tuple" = some (.type "tuple") := by decide +kernel) (hg : Gl X "tuple" := by rfl) (hn : NSt X e := by intro _; rfl) : PD X B (.Call (.Name "tuple" p) [e] [] pos) ss (.tuple ds) := fun σ F H s Q q =>
  sem_of (pe_callTy call_tuple_of hg hm hv (pa_cons pe_sem pa_nil (hn [])) (by decide) (by decide) (hn []) rfl) (ha σ F H s _ fun a vs F1 H1 g n nf h1 r => ⟨a, vs, rfl, .inl ⟨SqL.of h1, fun t ht => q (.ref t) (upd F1 t (.tup vs)) _ (g.trans (Grow.new g.fh ht)) (.tup (SqT.of upd_same) (r.mono (Same.new (g.fh.free ht))))⟩⟩)
theorem pd_tupleI (ha : PIt X B e ss ds) (hk : ∀ (σ : St) (F H : Hp), Sat X.K B ss σ F H → ∀ Q : VK, (∀ p vs F' H', Grow F H F' H' → SqL X.K H' p vs → RpAll X.K B.C F' vs ds → Q (.ref p) H') → tSem X e σ H Q) (hm : X.mg "tuple" = none) (hv : bootBuiltins "tuple" = some (.type "tuple") := by decide +kernel) (hg : Gl X "tuple" := by rfl) (hn : NSt X e := by intro _; rfl) : PD X B (.Call (.Name "tuple" p) [e] [] pos) ss (.tuple ds) := fun σ F H s Q q =>
  sem_of (pe_callTy call_tuple_of hg hm hv (pa_cons pe_sem pa_nil (hn [])) (by decide) (by decide) (hn []) rfl) (hk σ F H s _ fun a vs F1 H1 g h1 r => ⟨a, vs, rfl, .inl ⟨h1, fun t ht => q (.ref t) (upd F1 t (.tup vs)) _ (g.trans (Grow.new g.fh ht)) (.tup (SqT.of upd_same) (r.mono (Same.new (g.fh.free ht))))⟩⟩)
/-- a list that is read as a list -/
def PLi (X : Cx) (B : Bs) (e : Expr) (ss : List SD) (ds : List PyData) : Prop := ∀ (σ : St) (F H : Hp), Sat X.K B ss σ F H → ∀ Q : VK, (∀ p vs F' H', Grow F H F' H' → SqL X.K H' p vs → RpAll X.K B.C F' vs ds → Q (.ref p) H') → tSem X e σ H Q
theorem PLi.it (h : PLi X B e ss ds) : PIt X B e ss ds := fun σ F H s Q q => h σ F H s Q fun p vs F' H' g k r => q p vs F' H' g (.inl k) r
theorem PD.li (h : PD X B e ss (.list ds)) : PLi X B e ss ds := fun σ F H s Q q => h σ F H s Q fun v F' H' g r => by
  cases r with
  | lst h1 h2 => exact q _ _ F' H' g (SqL.of (g.fh _ _ h1)) h2
theorem PN.li (h : PN X B e ss ds) : PLi X B e ss ds := fun σ F H s Q q => h σ F H s Q fun a vs F' H' g n nf h1 r => q a vs F' H' g (SqL.of h1) r
theorem pl_own (i : Nat) {x : Str} {ds : List PyData} (hN : X.N[i]? = some x := by rfl) (hs : ss[i]? = some (.own ds) := by rfl) (hv : Vis X.env.scope x := by first | exact Or.inl rfl | exact Or.inr (Or.inl rfl) | exact Or.inr (Or.inr rfl)) (hd : (x == ("__debug__" : Str)) = false := by decide)
    (hcd : (x == ("__classdict__" : Str)) = false := by decide) : PLi X B (.Name x p) ss ds := fun σ F H s Q q => by
  obtain ⟨a, vs, e, h0, n, ha, r⟩ := s.slot i _ hs
  exact sem_of (pe_var hN hv hd hcd) ⟨.ref a, e, q a vs F H (Grow.refl s.fh) (SqL.of ha) r⟩
theorem pn_sl {lo hi : Option Expr} {l u : Option Int} {p2 : Pos} (ha : PLi X B a ss ds) (hl : POd X B lo ss l) (hh : POd X B hi ss u) : PN X B (.Subscript a (.Slice lo hi none p2) pos) ss (cutD ds l u) := pn_slL ha.it ha hl hh
theorem pd_tuple (ha : PLi X B e ss ds) (hm : X.mg "tuple" = none) (hv : bootBuiltins "tuple" = some (.type "tuple") := by decide +kernel) (hg : Gl X "tuple" := by rfl) (hn : NSt X e := by intro _; rfl) : PD X B (.Call (.Name "tuple" p) [e] [] pos) ss (.tuple ds) := pd_tupleI ha.it ha hm hv hg hn
theorem pn_sorted {ns : List Int} (ha : PLi X B e ss (ns.map .int)) (hm : X.mg "sorted" = none) (hv : bootBuiltins "sorted" = some (.builtin "sorted") := by decide +kernel) (hg : Gl X "sorted" := by rfl) (hn : NSt X e := by intro _; rfl) {ms : List Int} (hms : ∀ l : List Int, l.Perm ns → l.Pairwise (· ≤ ·) → l = ms) : PN X B (.Call (.Name "sorted" p) [e] [] pos) ss (ms.map .int) := fun σ F H s Q q =>
  sem_of (pe_callB cr_sortedI hg hm hv (pa_cons pe_sem pa_nil (hn [])) (by decide) (by decide) (hn []) rfl) (ha σ F H s _ fun a vs F1 H1 g sq r => by
    have e := RpAll.intsV r
    subst e
    refine ⟨a, ns, rfl, sq, fun ns' t hp hs ht => ?_⟩
    have e := hms ns' hp hs
    subst e
    exact q t _ F1 _ (g.trans (Grow.newO g.fh ht)) (g.hh.free ht) (g.fh.free ht) upd_same (RpAll.ints _))
theorem pd_abs {i : Int} (ha : PD X B e ss (.int i)) (hm : X.mg "abs" = none) (hv : bootBuiltins "abs" = some (.builtin "abs") := by decide +kernel) (hg : Gl X "abs" := by rfl) (hn : NSt X e := by intro _; rfl) : PD X B (.Call (.Name "abs" p) [e] [] pos) ss (.int (if i < 0 then -i else i)) := fun σ F H s Q q =>
  sem_of (pe_callB call_abs hg hm hv (pa_cons pe_sem pa_nil (hn [])) (by decide) (by decide) (hn []) rfl) (ha σ F H s _ fun v F1 H1 g r => by cases r; exact ⟨i, rfl, q _ F1 H1 g (.int _)⟩)
theorem pd_min2 {i j : Int} (hc : X.calm = true) (ha : PD X B a ss (.int i)) (hb : PD X B b ss (.int j)) (hm : X.mg "min" = none) (hv : bootBuiltins "min" = some (.builtin "min") := by decide +kernel) (hg : Gl X "min" := by rfl) (hn : NSt X a := by intro _; rfl) (hn2 : NSt X b := by intro _; rfl)
    (hpl : (backTo pos (starEach [b] X.env)).any (·.1) = false := by rfl) : PD X B (.Call (.Name "min" p) [a, b] [] pos) ss (.int (if j < i then j else i)) := fun σ F H s Q q =>
  sem_of (pe_callB (call_min2 hc) hg hm hv (pa_cons pe_sem (pa_cons pe_sem pa_nil (hn2 [])) (hn [b])) (by decide) (by decide) (hn [b]) hpl) (ha σ F H s _ fun v F1 H1 g1 r1 => hb σ F1 H1 (s.grow g1) _ fun w F2 H2 g2 r2 => by
    cases r1; cases r2; exact ⟨i, j, rfl, q _ F2 H2 (g1.trans g2) (.int _)⟩)
theorem pd_max2 {i j : Int} (hc : X.calm = true) (ha : PD X B a ss (.int i)) (hb : PD X B b ss (.int j)) (hm : X.mg "max" = none) (hv : bootBuiltins "max" = some (.builtin "max") := by decide +kernel) (hg : Gl X "max" := by rfl) (hn : NSt X a := by intro _; rfl) (hn2 : NSt X b := by intro _; rfl)
    (hpl : (backTo pos (starEach [b] X.env)).any (·.1) = false := by rfl) : PD X B (.Call (.Name "max" p) [a, b] [] pos) ss (.int (if j > i then j else i)) := fun σ F H s Q q =>
  sem_of (pe_callB (call_max2 hc) hg hm hv (pa_cons pe_sem (pa_cons pe_sem pa_nil (hn2 [])) (hn [b])) (by decide) (by decide) (hn [b]) hpl) (ha σ F H s _ fun v F1 H1 g1 r1 => hb σ F1 H1 (s.grow g1) _ fun w F2 H2 g2 r2 => by
    cases r1; cases r2; exact ⟨i, j, rfl, q _ F2 H2 (g1.trans g2) (.int _)⟩)
/-- list(range(n)), list(range(a, b)) -/
def rgD (a b : Int) : List PyData := (List.range (b - a).toNat).map fun i => PyData.int (a + (i : Nat))
theorem rp_rg {K : PySem.W.Frag} {C : Addr} {H : Hp} (a b : Int) : RpAll K C H (rgV a b) (rgD a b) := by
  unfold rgV rgD
  have : ∀ l : List Nat, RpAll K C H (l.map fun i => V.int (a + (i : Nat))) (l.map fun i => PyData.int (a + (i : Nat))) := by
    intro l
    induction l with
    | nil => exact .nil
    | cons i r ih => exact .cons (.int _) ih
  exact this _
theorem pn_listRg {p1 p2 : Pos} {n : Int} (hc : X.calm = true) (ha : PD X B a ss (.int n)) (h0 : 0 ≤ n) (h1 : n ≤ 16777216) (hm : X.mg "list" = none) (hm2 : X.mg "range" = none) (hg : Gl X "list" := by rfl) (hg2 : Gl X "range" := by rfl) (hn : NSt X a := by intro _; rfl)
    (hn2 : NSt X (.Call (.Name "range" p1) [a] [] p2) := by intro _; rfl) : PN X B (.Call (.Name "list" p) [.Call (.Name "range" p1) [a] [] p2] [] pos) ss (rgD 0 n) := fun σ F H s Q q =>
  sem_of (pe_listRg hc hg hm (prg_1 hg2 hm2 pe_sem (hn [])) (hn2 [])) (ha σ F H s _ fun v F1 H1 g r => by
    cases r
    exact ⟨n, rfl, RgOk.of_le (by decide) h1 (by decide) h0, fun t ht => q t _ F1 _ (g.trans (Grow.newO g.fh ht)) (g.hh.free ht) (g.fh.free ht) upd_same (rp_rg _ _)⟩)
end
end G

namespace G
open PySem L2
/-- a def's body, a block: nothing is being handled, names once, room -/
structure Cxt (X : Cx) : Prop where
  calm : X.calm = true
  nd : X.N.Nodup
  pass : PassesOwn (model X.prog X.w) X.A X.env X.xe
  units : X.A.units + 65 < cLine
theorem Cxt.u64 {X : Cx} (h : Cxt X) : X.A.units + 64 < cLine := Nat.lt_of_succ_lt h.units
def Go (X : Cx) (B : Bs) (l : List Stmt) (ss : List SD) (D : Ends) : Prop := ∀ (σ : St) (F H : Hp), Sat X.K B ss σ F H → tSS X l D σ H
/-- a state that J tells -/
def Mid (X : Cx) (B : Bs) (J : List SD → Prop) : St → Hp → Prop := fun σ H => ∃ F ss, J ss ∧ Sat X.K B ss σ F H
abbrev Bs.pinned (B : Bs) (Fp : Hp) : Bs := { B with Fp := Fp }
section
variable {X : Cx} {B : Bs} {ss : List SD} {e a b c : Expr} {es : List Expr} {pos p p2 p3 p4 : Pos} {d x y z : PyData} {ds ds' : List PyData} {rest body orelse : List Stmt} {st : Stmt} {D : Ends}
theorem go_step {t : TS} (h : PS X st t) (q : ∀ (σ : St) (F H : Hp), Sat X.K B ss σ F H → t { D with nx := tSS X rest D } σ H) : Go X B (st :: rest) ss D := fun σ F H s => ss_of (pss_cons h pss_sem) (q σ F H s)
theorem go_nil (q : ∀ (σ : St) (F H : Hp), Sat X.K B ss σ F H → D.nx σ H) : Go X B [] ss D := fun σ F H s => ss_of pss_nil (q σ F H s)
theorem go_on {l : List Stmt} {D' : Ends} {r : VK} {bk ct : St → Hp → Prop} (h : Go X B l ss D') : Go X B [] ss { nx := tSS X l D', rt := r, bk := bk, ct := ct } := go_nil fun σ F H s => h σ F H s
/-- the end of a loop's turn, of a branch -/
theorem go_end {J : List SD → Prop} {ss' : List SD} {r : VK} {bk ct : St → Hp → Prop} (h : J ss') (w : Wk ss ss' := by exact Wk.refl _) : Go X B [] ss { nx := Mid X B J, rt := r, bk := bk, ct := ct } := go_nil fun σ F H s => ⟨F, ss', h, s.weak w⟩
theorem go_weak {l : List Stmt} {ss' : List SD} (w : Wk ss ss') (h : Go X B l ss' D) : Go X B l ss D := fun σ F H s => h σ F H (s.weak w)
theorem go_eq {l : List Stmt} {ss' : List SD} (w : ss = ss') (h : Go X B l ss' D) : Go X B l ss D := w ▸ h
theorem go_freeze {l : List Stmt} (i : Nat) (hs : ss[i]? = some (.own ds)) (h : Go X B l (ss.set i (.dat (.list ds))) D) (nr : noRaw ss = true := by rfl) : Go X B l ss D := fun σ F H s => by
  obtain ⟨F', s', _⟩ := s.freeze hs nr
  exact h σ F' H s'
theorem go_asg (i : Nat) {x : Str} (hN : X.N.Nodup) (he : PD X B e ss d) (h : Go X B rest (ss.set i (.dat d)) D) (hi : X.N[i]? = some x := by rfl) (hx : Loc X.env.scope x := by first | exact Or.inl rfl | exact Or.inr rfl) (hs : swapsWith e (some (.Name x p)) pos.line X.env = pure false := by rfl)
    (hf : X.fn x = true ∨ X.env.scope.names.lookup x = some .local := by first | exact .inl rfl | exact .inr rfl) : Go X B (.Assign [.Name x p] e pos :: rest) ss D :=
  go_step (ps_set hN hi hx pe_sem hs hf) fun σ F H s => he σ F H s _ fun v F1 H1 g r => h _ F1 H1 ((s.grow g).set_dat r)
theorem go_asgN (i : Nat) {x : Str} (hN : X.N.Nodup) (he : PN X B e ss ds) (h : Go X B rest (ss.set i (.own ds)) D) (hi : X.N[i]? = some x := by rfl) (hx : Loc X.env.scope x := by first | exact Or.inl rfl | exact Or.inr rfl) (hs : swapsWith e (some (.Name x p)) pos.line X.env = pure false := by rfl)
    (hf : X.fn x = true ∨ X.env.scope.names.lookup x = some .local := by first | exact .inl rfl | exact .inr rfl) : Go X B (.Assign [.Name x p] e pos :: rest) ss D :=
  go_step (ps_set hN hi hx pe_sem hs hf) fun σ F H s => he σ F H s _ fun a vs F1 H1 g n nf h1 r => by
    refine h _ F1 H1 ((s.grow g).set_own (s.g.hh.free n) nf h1 r fun j es hj q z => ?_)
    obtain ⟨a', vs', ea, _, _, h2, _⟩ := s.slot j _ q
    rw [z] at ea
    injection ea with ea
    injection ea with ea
    injection ea with ea
    subst ea
    rw [n] at h2
    cases h2
theorem go_if {k : Bool} (hc : TD X B c ss k) (h1 : k = true → Go X B body ss { D with nx := tSS X rest D }) (h2 : k = false → Go X B orelse ss { D with nx := tSS X rest D }) : Go X B (.If c body orelse pos :: rest) ss D :=
  go_step (ps_if pt_sem pss_sem pss_sem) fun σ F H s => hc σ F H s _ fun F1 H1 g => by
    cases k with
    | true => exact iteT (h1 rfl σ F1 H1 (s.grow g))
    | false => exact iteF (h2 rfl σ F1 H1 (s.grow g))
/-- a statement, then the rest from what J tells -/
theorem go_stepC {t : TS} (h : PS X st t) (J : List SD → Prop) (q : ∀ (σ : St) (F H : Hp), Sat X.K B ss σ F H → t { D with nx := Mid X B J } σ H) (h2 : ∀ ss', J ss' → Go X B rest ss' D) : Go X B (st :: rest) ss D := fun σ F H s pins sh I => by
  refine wpAny_execs_cons (thn (h.run pins sh σ H { D with nx := Mid X B J } I (q σ F H s)) fun f s1 r => ?_)
  cases f with
  | next =>
    obtain ⟨σ', H', I', F', ss', j, s'⟩ := r
    exact h2 ss' j σ' F' H' s' pins s1 I'
  | ret v => exact r
  | brk => exact r
  | cont => exact r
theorem go_ifJ {k : Bool} (J : List SD → Prop) (hc : TD X B c ss k) (h1 : k = true → Go X B body ss { D with nx := Mid X B J }) (h2 : k = false → Go X B orelse ss { D with nx := Mid X B J }) (h3 : ∀ ss', J ss' → Go X B rest ss' D) : Go X B (.If c body orelse pos :: rest) ss D :=
  go_stepC (ps_if pt_sem pss_sem pss_sem) J (fun σ F H s => hc σ F H s _ fun F1 H1 g => by
    cases k with
    | true => exact iteT (h1 rfl σ F1 H1 (s.grow g))
    | false => exact iteF (h2 rfl σ F1 H1 (s.grow g))) h3
theorem go_ret (he : PD X B e ss d) (k : ∀ v F H, Grow B.F0 B.H0 F H → Rp X.K B.C F v d → D.rt v H) : Go X B (.Return (some e) pos :: rest) ss D :=
  go_step (ps_ret pe_sem) fun σ F H s => he σ F H s _ fun v F1 H1 g r => k v F1 H1 (s.g.trans g) r
theorem go_retN (he : PN X B e ss ds) (k : ∀ a vs F H, Grow B.F0 B.H0 F H → B.H0 a = none → F a = none → H a = some (.lst vs) → RpAll X.K B.C F vs ds → D.rt (.ref a) H) : Go X B (.Return (some e) pos :: rest) ss D :=
  go_step (ps_ret pe_sem) fun σ F H s => he σ F H s _ fun a vs F1 H1 g n nf h r => k a vs F1 H1 (s.g.trans g) (s.g.hh.free n) nf h r
theorem go_retO (i : Nat) {x : Str} (hs : ss[i]? = some (.own ds) := by rfl) (hN : X.N[i]? = some x := by rfl) (hv : Vis X.env.scope x := by first | exact Or.inl rfl | exact Or.inr (Or.inl rfl) | exact Or.inr (Or.inr rfl)) (hd : (x == ("__debug__" : Str)) = false := by decide)
    (hcd : (x == ("__classdict__" : Str)) = false := by decide) (k : ∀ a vs F H, Grow B.F0 B.H0 F H → B.H0 a = none → F a = none → H a = some (.lst vs) → RpAll X.K B.C F vs ds → D.rt (.ref a) H) : Go X B (.Return (some (.Name x p)) pos :: rest) ss D :=
  go_step (ps_ret (pe_var hN hv hd hcd)) fun σ F H s => by
    obtain ⟨a, vs, e, h0, n, h, r⟩ := s.slot i _ hs
    exact ⟨.ref a, e, k a vs F H s.g h0 n h r⟩
theorem go_drop (he : PD X B e ss d) (h : Go X B rest ss D) (hs : swapsWith e none pos.line X.env = pure false := by rfl) : Go X B (.Expr e pos :: rest) ss D :=
  go_step (ps_expr pe_sem hs) fun σ F H s => he σ F H s _ fun v F1 H1 g r => h σ F1 H1 (s.grow g)
theorem go_dropN (he : PN X B e ss ds) (h : Go X B rest ss D) (hs : swapsWith e none pos.line X.env = pure false := by rfl) : Go X B (.Expr e pos :: rest) ss D := go_drop he.da h hs

/-! ### lists of one's own, changed -/
theorem go_append (i : Nat) {x : Str} (hs0 : ss[i]? = some (.own ds)) (he : PD X B e ss d) (h : Go X B rest (ss.set i (.own (ds ++ [d]))) D) (hz : ds.length < sizeLine) (nr : noRaw ss = true := by rfl)
    (hpe : PE X (.Call (.Attribute (.Name x p) "append" p2) [e] [] p3) (tBM X.K "list" rAppend (tVar i) (tCons (tSem X e) tNil)) := by exact pe_bm PySem.F.plainAttrs_list PySem.F.slot_list_append PySem.F.type_list_append mt_append (pe_var (by rfl) (by first | exact Or.inl rfl | exact Or.inr (Or.inl rfl) | exact Or.inr (Or.inr rfl)) (by decide) (by decide)) (pa_cons pe_sem pa_nil))
    (hs : swapsWith (.Call (.Attribute (.Name x p) "append" p2) [e] [] p3) none p4.line X.env = pure false := by rfl) : Go X B (.Expr (.Call (.Attribute (.Name x p) "append" p2) [e] [] p3) p4 :: rest) ss D :=
  go_step (ps_expr hpe hs) fun σ F H s => by
    obtain ⟨a, vs, ea, a0, n, ha, r⟩ := s.slot i _ hs0
    refine ⟨_, ea, .inl ⟨rfl, vs, SqL.of ha⟩, he σ F H s _ fun v F1 H1 g r1 => ⟨a, vs, v, rfl, rfl, g.hh _ _ ha, by rw [r.length]; exact hz, ?_⟩⟩
    exact h σ F1 _ ((s.grow g).mut hs0 ea nr ((r.mono g.ff).app (.one r1)))
theorem go_extend (i : Nat) {x : Str} (hs0 : ss[i]? = some (.own ds)) (he : PD X B e ss (.list ds')) (h : Go X B rest (ss.set i (.own (ds ++ ds'))) D) (hz : ds.length + ds'.length ≤ sizeLine) (nr : noRaw ss = true := by rfl)
    (hpe : PE X (.Call (.Attribute (.Name x p) "extend" p2) [e] [] p3) (tBM X.K "list" rExtend (tVar i) (tCons (tSem X e) tNil)) := by exact pe_bm PySem.F.plainAttrs_list PySem.F.slot_list_extend PySem.F.type_list_extend mt_extend (pe_var (by rfl) (by first | exact Or.inl rfl | exact Or.inr (Or.inl rfl) | exact Or.inr (Or.inr rfl)) (by decide) (by decide)) (pa_cons pe_sem pa_nil))
    (hs : swapsWith (.Call (.Attribute (.Name x p) "extend" p2) [e] [] p3) none p4.line X.env = pure false := by rfl) : Go X B (.Expr (.Call (.Attribute (.Name x p) "extend" p2) [e] [] p3) p4 :: rest) ss D :=
  go_step (ps_expr hpe hs) fun σ F H s => by
    obtain ⟨a, vs, ea, a0, n, ha, r⟩ := s.slot i _ hs0
    refine ⟨_, ea, .inl ⟨rfl, vs, SqL.of ha⟩, he σ F H s _ fun v F1 H1 g r1 => ?_⟩
    cases r1 with
    | lst h1 h2 =>
      rename_i b ws
      refine ⟨a, b, vs, ws, rfl, rfl, g.hh _ _ ha, g.fh _ _ h1, by rw [r.length, h2.length]; exact hz, ?_⟩
      exact h σ F1 _ ((s.grow g).mut hs0 ea nr ((r.mono g.ff).app h2))
theorem go_setL (i : Nat) {x : Str} {k : Int} {m : Nat} (hs0 : ss[i]? = some (.own ds)) (he : PD X B e ss d) (hk : PD X B a ss (.int k)) (hm : ixN ds.length k = some m) (h : Go X B rest (ss.set i (.own (ds.set m d))) D) (nr : noRaw ss = true := by rfl)
    (hps : PS X (.Assign [.Subscript (.Name x p) a p2] e pos) (tAsg (tSem X e) (gSub (tVar i) (tSem X a) rSetL)) := by exact ps_asg pe_sem (pg_sub (pe_var (by rfl) (by first | exact Or.inl rfl | exact Or.inr (Or.inl rfl) | exact Or.inr (Or.inr rfl)) (by decide) (by decide)) pe_sem set_list)) :
    Go X B (.Assign [.Subscript (.Name x p) a p2] e pos :: rest) ss D :=
  go_step hps fun σ F H s => he σ F H s _ fun v F1 H1 g1 r1 => by
    obtain ⟨q, vs, ea, a0, n, ha, r⟩ := (s.grow g1).slot i _ hs0
    refine ⟨_, ea, hk σ F1 H1 (s.grow g1) _ fun w F2 H2 g2 r2 => ?_⟩
    cases r2
    refine ⟨q, vs, k, m, rfl, rfl, g2.hh _ _ ha, by rw [r.length]; exact hm, ?_⟩
    exact h σ F2 _ ((s.grow (g1.trans g2)).mut hs0 ea nr ((r.mono g2.ff).set (r1.mono g2.ff) m))
/-- y = x.pop(k) -/
theorem go_pop (i j : Nat) {x y : Str} {k : Int} {m : Nat} (nd : X.N.Nodup) (hij : i ≠ j) (hs0 : ss[j]? = some (.own ds)) (hk : PD X B a ss (.int k)) (hm : ixN ds.length k = some m) (hd : ds[m]? = some d) (hz : ds.length < 2 ^ 62) (h : Go X B rest ((ss.set j (.own (ds.eraseIdx m))).set i (.dat d)) D) (nr : noRaw ss = true := by rfl)
    (hps : PS X (.Assign [.Name y p4] (.Call (.Attribute (.Name x p) "pop" p2) [a] [] p3) pos) (tAsg (tBM X.K "list" rPopAt (tVar j) (tCons (tSem X a) tNil)) (gName i)) := by exact ps_set (by assumption) (by rfl) (by first | exact Or.inl rfl | exact Or.inr rfl) (pe_bm PySem.F.plainAttrs_list PySem.F.slot_list_pop PySem.F.type_list_pop mt_popAt (pe_var (by rfl) (by first | exact Or.inl rfl | exact Or.inr (Or.inl rfl) | exact Or.inr (Or.inr rfl)) (by decide) (by decide)) (pa_cons pe_sem pa_nil))) :
    Go X B (.Assign [.Name y p4] (.Call (.Attribute (.Name x p) "pop" p2) [a] [] p3) pos :: rest) ss D :=
  go_step hps fun σ F H s => by
    obtain ⟨q, vs, ea, a0, n, ha, r⟩ := s.slot j _ hs0
    refine ⟨_, ea, .inl ⟨rfl, vs, SqL.of ha⟩, hk σ F H s _ fun w F1 H1 g r1 => ?_⟩
    cases r1
    obtain ⟨v, hv, rv⟩ := RpAll.get r hd
    obtain ⟨q1, q2, q3, q4⟩ := ixN_seq hm
    have ll := r.length
    refine ⟨q, vs, k, m, v, rfl, rfl, g.hh _ _ ha, by omega, by omega, by rw [ll]; exact q1, hv, ?_⟩
    exact h _ F1 _ (((s.grow g).mut hs0 ea nr ((r.mono g.ff).erase m)).set_dat (rv.mono g.ff))

/-! ### loops -/
def iSeq (K : PySem.W.Frag) (tl : TE) : TI := fun σ H R => tl σ H fun x H1 => ∃ a, x = .ref a ∧ ((∃ xs, SqL K H1 a xs ∧ R (Itl K a) H1) ∨ (∃ xs, SqT K H1 a xs ∧ R (Itt K a) H1))
theorem pi_seq {tg l : Expr} {tl : TE} (hl : PE X l tl) : PI X tg l (iSeq X.K tl) := by
  refine ⟨fun pins s σ H R I h => ?_⟩
  refine thn (hl.run pins s σ H _ I h) fun v s1 ⟨x, H1, I1, r1, q1⟩ => ?_
  obtain ⟨a, e, q1⟩ := q1
  subst e
  cases r1
  rcases q1 with ⟨xs, hq, q⟩ | ⟨xs, hq, q⟩
  · obtain ⟨its, rv, p, hz⟩ := I1.list hq
    refine wpAny_pyIter_list p.isList ?_
    refine ⟨s1.heap.objs.size, [s1.heap.objs.size], _, _, H1, rfl, I1.kept (t' := s1.toks) fun b o e => Heap.get?_push_of_some _ e, turn_list a _, ⟨_, Heap.get?_push_size _ rfl, rfl, rfl⟩, fun b hb => ?_, q⟩
    have e : b = s1.heap.objs.size := by simpa using hb
    subst e
    exact I1.fpOk (Nat.le_refl _) (I1.hok.fresh (Nat.le_refl _))
  · obtain ⟨its, rv, p, hz⟩ := I1.tuple hq
    refine wpAny_pyIter_tuple (show s1.heap.IsTuple a its.toArray from p) ?_
    refine ⟨s1.heap.objs.size, [s1.heap.objs.size], _, _, H1, rfl, I1.kept (t' := s1.toks) fun b o e => Heap.get?_push_of_some _ e, turn_tuple a _, ⟨_, Heap.get?_push_size _ rfl, rfl, rfl⟩, fun b hb => ?_, q⟩
    have e : b = s1.heap.objs.size := by simpa using hb
    subst e
    exact I1.fpOk (Nat.le_refl _) (I1.hok.fresh (Nat.le_refl _))
theorem Sat.unpin {K : PySem.W.Frag} {Fp : Hp} {σ : St} {F H : Hp} (h : Sat K (B.pinned Fp) ss σ F H) (e : Same B.Fp Fp) : Sat K B ss σ F H := ⟨h.g, e.trans h.pin, h.len, h.slot, h.ne⟩
theorem Sat.pinned {K : PySem.W.Frag} {σ : St} {F H : Hp} (h : Sat K B ss σ F H) : Sat K (B.pinned F) ss σ F H := ⟨h.g, Same.refl _, h.len, h.slot, h.ne⟩
abbrev lpE (X : Cx) (B : Bs) (J : List SD → Prop) (rest : List Stmt) (D : Ends) : Ends := { nx := Mid X B J, rt := D.rt, bk := tSS X rest D, ct := Mid X B J }
theorem go_for {α : Type} {xs : List α} {f : α → PyData} (j : Nat) {x : Str} (J : Nat → List SD → Prop) (cx : Cxt X) (he : PIs X B e ss (xs.map f)) (h0 : J 0 ss)
    (hb : ∀ (Fp : Hp) (i : Nat) (u : α) (ss' : List SD), xs[i]? = some u → J i ss' → Go X (B.pinned Fp) body (ss'.set j (.dat (f u))) (lpE X (B.pinned Fp) (J (i + 1)) rest D))
    (hd : ∀ ss', J xs.length ss' → Go X B rest ss' D)
    (hps : ∀ wi, PI X (.Name x p) e wi → PS X (.For (.Name x p) e body [] pos) (tFor wi (gName j) (tSS X body)) := by intro _ hw; exact ps_for (Cxt.pass (by assumption)) (Cxt.calm (by assumption)) hw (pg_name (Cxt.nd (by assumption)) (by rfl) (by first | exact Or.inl rfl | exact Or.inr rfl)) pss_sem) :
    Go X B (.For (.Name x p) e body [] pos :: rest) ss D :=
  go_step (hps _ (pi_seq pe_sem)) fun σ F H s => he σ F H s _ fun a vs F1 H1 g sq r => by
    have s1 := s.grow g
    have pn : Same B.Fp F1 := s.pin.trans g.ff
    have step : ∀ (i : Nat) (w : V) (σ' : St) (H' : Hp), vs[i]? = some w → Mid X (B.pinned F1) (J i) σ' H' → tSS X body (lpE X (B.pinned F1) (J (i + 1)) rest D) (σ'.set j (some w)) H' := fun i w σ' H' hi ⟨F', ss', j', s'⟩ => by
      obtain ⟨d, hd', rd⟩ := RpAll.getV r hi
      rw [List.getElem?_map] at hd'
      cases hu : xs[i]? with
      | none => rw [hu] at hd'; cases hd'
      | some u =>
        rw [hu] at hd'
        cases hd'
        exact hb F1 i u ss' hu j' _ F' H' (s'.set_dat (rd.mono s'.pin))
    have fin : ∀ (σ' : St) (H' : Hp), Mid X (B.pinned F1) (J xs.length) σ' H' → tSS X rest D σ' H' := fun σ' H' ⟨F', ss', j', s'⟩ => hd ss' j' σ' F' H' (s'.unpin pn)
    have ll : vs.length = xs.length := by rw [r.length, List.length_map]
    refine ⟨a, rfl, ?_⟩
    rcases sq with sq | sq
    · refine .inl ⟨vs, g.fh.seq sq, for_list (K := X.K) (a := a) (xs := vs) (fun i => Mid X (B.pinned F1) (J i)) ⟨F1, ss, h0, s1.pinned⟩ (fun i σ' H' _ ⟨F', ss', j', s'⟩ => s'.fh.seq (s'.pin.seq sq)) step (by rw [ll]; exact fin)⟩
    · refine .inr ⟨vs, Same.sqt g.fh sq, for_tup (K := X.K) (a := a) (xs := vs) (fun i => Mid X (B.pinned F1) (J i)) ⟨F1, ss, h0, s1.pinned⟩ (fun i σ' H' _ ⟨F', ss', j', s'⟩ => Same.sqt s'.fh (Same.sqt s'.pin sq)) step (by rw [ll]; exact fin)⟩
/-- for k in range(n) -/
theorem go_rng1 {n : Int} (j : Nat) {x : Str} (J : Nat → List SD → Prop) (cx : Cxt X) (he : PD X B a ss (.int n)) (hn : -(2 ^ 62) ≤ n ∧ n < 2 ^ 62) (h0 : J 0 ss)
    (hb : ∀ (i : Nat) (ss' : List SD), (i : Int) < n → J i ss' → Go X B body (ss'.set j (.dat (.int (i : Int)))) (lpE X B (J (i + 1)) rest D))
    (hd : ∀ ss', J n.toNat ss' → Go X B rest ss' D) (hm : X.mg "range" = none) (hg : Gl X "range" := by rfl) (hn1 : NSt X a := by intro _; rfl)
    (hps : ∀ wi, PI X (.Name x p) (.Call (.Name "range" p2) [a] [] p3) wi → PS X (.For (.Name x p) (.Call (.Name "range" p2) [a] [] p3) body [] pos) (tFor wi (gName j) (tSS X body)) := by intro _ hw; exact ps_for (Cxt.pass (by assumption)) (Cxt.calm (by assumption)) hw (pg_name (Cxt.nd (by assumption)) (by rfl) (by first | exact Or.inl rfl | exact Or.inr rfl)) pss_sem) :
    Go X B (.For (.Name x p) (.Call (.Name "range" p2) [a] [] p3) body [] pos :: rest) ss D :=
  go_step (hps _ (pi_range1 hg hm (pa_cons pe_sem pa_nil (hn1 [])) (hn1 []))) fun σ F H s => he σ F H s _ fun v F1 H1 g r => by
    cases r
    refine ⟨n, rfl, hn.1, hn.2, for_range (lo := 0) (n := n.toNat) (fun i => Mid X B (J i)) ⟨F1, ss, h0, s.grow g⟩ (fun i σ' H' hi ⟨F', ss', j', s'⟩ => ?_) fun σ' H' ⟨F', ss', j', s'⟩ => hd ss' j' σ' F' H' s'⟩
    have e0 : (0 : Int) + (i : Int) = (i : Int) := Int.zero_add _
    show tSS X body (lpE X B (J (i + 1)) rest D) (σ'.set j (some (.int ((0 : Int) + (i : Int))))) H'
    rw [e0]
    exact hb i ss' (by omega) j' _ F' H' (s'.set_dat (.int _))
/-- for k in range(lo, n) -/
theorem go_rng2 {lo n : Int} (j : Nat) {x : Str} (J : Nat → List SD → Prop) (cx : Cxt X) (he : PD X B a ss (.int lo)) (he2 : PD X B b ss (.int n)) (hn : (-(2 ^ 62) ≤ lo ∧ lo < 2 ^ 62) ∧ -(2 ^ 62) ≤ n ∧ n < 2 ^ 62) (h0 : J 0 ss)
    (hb : ∀ (i : Nat) (ss' : List SD), lo + (i : Int) < n → J i ss' → Go X B body (ss'.set j (.dat (.int (lo + (i : Int))))) (lpE X B (J (i + 1)) rest D))
    (hd : ∀ ss', J (n - lo).toNat ss' → Go X B rest ss' D) (hm : X.mg "range" = none) (hg : Gl X "range" := by rfl) (hn1 : NSt X a := by intro _; rfl) (hn2 : NSt X b := by intro _; rfl)
    (hps : ∀ wi, PI X (.Name x p) (.Call (.Name "range" p2) [a, b] [] p3) wi → PS X (.For (.Name x p) (.Call (.Name "range" p2) [a, b] [] p3) body [] pos) (tFor wi (gName j) (tSS X body)) := by intro _ hw; exact ps_for (Cxt.pass (by assumption)) (Cxt.calm (by assumption)) hw (pg_name (Cxt.nd (by assumption)) (by rfl) (by first | exact Or.inl rfl | exact Or.inr rfl)) pss_sem) :
    Go X B (.For (.Name x p) (.Call (.Name "range" p2) [a, b] [] p3) body [] pos :: rest) ss D :=
  go_step (hps _ (pi_range2 hg hm (pa_cons pe_sem (pa_cons pe_sem pa_nil (hn2 [])) (hn1 [b])) (by rw [hn1 [b], hn2 []]; rfl) (hn2 []))) fun σ F H s => he σ F H s _ fun v F1 H1 g1 r1 => he2 σ F1 H1 (s.grow g1) _ fun w F2 H2 g2 r2 => by
    cases r1; cases r2
    refine ⟨lo, n, rfl, ⟨hn.1.1, hn.1.2, hn.2.1, hn.2.2⟩, for_range (lo := lo) (n := (n - lo).toNat) (fun i => Mid X B (J i)) ⟨F2, ss, h0, s.grow (g1.trans g2)⟩ (fun i σ' H' hi ⟨F', ss', j', s'⟩ => ?_) fun σ' H' ⟨F', ss', j', s'⟩ => hd ss' j' σ' F' H' s'⟩
    exact hb i ss' (by omega) j' _ F' H' (s'.set_dat (.int _))
theorem go_while (J : Nat → List SD → Prop) (m0 : Nat) (cx : Cxt X) (h0 : J m0 ss)
    (hs : ∀ (m : Nat) (ss' : List SD), J m ss' → ∃ k, TD X B c ss' k ∧ (k = true → Go X B body ss' (lpE X B (fun s => ∃ m', m' < m ∧ J m' s) rest D)) ∧ (k = false → Go X B rest ss' D)) : Go X B (.While c body [] pos :: rest) ss D :=
  go_step (ps_while cx.pass pt_sem pss_sem) fun σ F H s => by
    refine ⟨fun m => Mid X B (J m), ⟨m0, F, ss, h0, s⟩, fun m σ' H' ⟨F', ss', j', s'⟩ => ?_⟩
    obtain ⟨k, tk, h1, h2⟩ := hs m ss' j'
    refine tk σ' F' H' s' _ fun F1 H1 g => ?_
    cases k with
    | true => exact iteT ⟨Mid X B (fun s => ∃ m', m' < m ∧ J m' s), fun σ2 H2 ⟨F2, ss2, ⟨m', hm, j2⟩, s2⟩ => ⟨m', hm, F2, ss2, j2, s2⟩, h1 rfl σ' F1 H1 (s'.grow g)⟩
    | false => exact iteF (h2 rfl σ' F1 H1 (s'.grow g))
end
end G

namespace G
open PySem L2
/-! ### what a def promises: of data -/
inductive Out where
  | val (d : PyData)
  | new (ds : List PyData)
  | exc (c : Addr)
  | raw (P : Hp → V → Hp → Hp → Prop)
def OutK (K : PySem.W.Frag) (C : Addr) (F H : Hp) (Q : VK) (E : XK) : Out → Prop
  | .val d => ∀ v F' H', Grow F H F' H' → Rp K C F' v d → Q v H'
  | .new ds => ∀ a vs F' H', Grow F H F' H' → H a = none → F' a = none → H' a = some (.lst vs) → RpAll K C F' vs ds → Q (.ref a) H'
  | .exc c => ∀ H', Same H H' → E (.ref c) none H'
  | .raw P => ∀ v F' H', Grow F H F' H' → P H v F' H' → Q v H'
def spO {α : Type} (K : PySem.W.Frag) (C : Addr) (args : α → List PyData) (pre : α → Prop) (out : α → Out) : Sp := fun vs H Q E =>
  ∃ (x : α) (F : Hp), pre x ∧ Same F H ∧ RpAll K C F vs (args x) ∧ OutK K C F H Q E (out x)
/-- a def of the module that keeps the promise sp -/
def Cal (P : Program) (w : World) (K : PySem.W.Frag) (mg : Str → Option Value) (base : Heap) (x : Str) (k : Nat) (sp : Sp) : Prop :=
  ∃ (f : Addr) (fd : FuncData) (ps : List Str), FnOk P w K mg base (L2.CX P w) k f fd ps sp ∧ mg x = some (.ref f) ∧ PySem.W.keepIn K (.ref f) = true ∧ Binds K fd ps []
/-- a method of the class at C -/
def CalM (P : Program) (w : World) (K : PySem.W.Frag) (mg : Str → Option Value) (base : Heap) (C : Addr) (m : Str) (k : Nat) (sp : Sp) : Prop :=
  ∃ (f : Addr) (fd : FuncData) (ps : List Str), FnOk P w K mg base (L2.CX P w) k f fd ps sp ∧ Meth K C m f ∧ Binds K fd ps []
/-- an exception of this class may leave, from slots and heap as W says -/
def PX (X : Cx) (B : Bs) (W : WX) (e : Expr) (ss : List SD) (c : Addr) : Prop := ∀ (σ : St) (F H : Hp), Sat X.K B ss σ F H → (∀ H', Same H H' → W (.ref c) none σ H') → ∀ Q : VK, tSem X e σ H Q
section
variable {X : Cx} {B : Bs} {ss : List SD} {e a b c : Expr} {es : List Expr} {pos p p2 p3 p4 : Pos} {d x y z : PyData} {ds ds' : List PyData} {rest body orelse : List Stmt} {st : Stmt} {D : Ends}
  {α : Type} {args : α → List PyData} {pre : α → Prop} {out : α → Out} {fn : Str} {k : Nat}
theorem pd_call (cf : Cal X.prog X.w X.K X.mg X.base fn k (spO X.K B.C args pre out)) (hr : Room k X.A) (u : α) (ha : PDs X B (e :: es) ss (args u)) (ho : out u = .val d) (hp : pre u)  (hg : Gl X fn := by rfl)
    (hdb : (fn == ("__debug__" : Str)) = false := by decide) (he : starEach (e :: es) X.env = (false, eval e X.env) :: starEach es X.env := by rfl) (hpl : (backTo pos (starEach es X.env)).any (·.1) = false := by rfl) :
    PD X B (.Call (.Name fn p) (e :: es) [] pos) ss d := fun σ F H s Q q => by
  obtain ⟨f, fd, ps, F0, hm, hk, hb⟩ := cf
  refine sem_of (pe_call (dvs := []) (ds := []) F0 hr hg hm hk hb .nil passL pa_sem hdb he hpl) (ha σ F H s _ fun vs F1 H1 g r => ?_)
  refine ⟨u, F1, hp, g.fh, by rw [List.append_nil]; exact r, ?_⟩
  rw [ho]
  exact fun v F2 H2 g2 r2 => q v F2 H2 (g.trans g2) r2
theorem pn_call (cf : Cal X.prog X.w X.K X.mg X.base fn k (spO X.K B.C args pre out)) (hr : Room k X.A) (u : α) (ha : PDs X B (e :: es) ss (args u)) (ho : out u = .new ds) (hp : pre u) (hg : Gl X fn := by rfl)
    (hdb : (fn == ("__debug__" : Str)) = false := by decide) (he : starEach (e :: es) X.env = (false, eval e X.env) :: starEach es X.env := by rfl) (hpl : (backTo pos (starEach es X.env)).any (·.1) = false := by rfl) :
    PN X B (.Call (.Name fn p) (e :: es) [] pos) ss ds := fun σ F H s Q q => by
  obtain ⟨f, fd, ps, F0, hm, hk, hb⟩ := cf
  refine sem_of (pe_call (dvs := []) (ds := []) F0 hr hg hm hk hb .nil passL pa_sem hdb he hpl) (ha σ F H s _ fun vs F1 H1 g r => ?_)
  refine ⟨u, F1, hp, g.fh, by rw [List.append_nil]; exact r, ?_⟩
  rw [ho]
  exact fun l ws F2 H2 g2 n nf h2 r2 => q l ws F2 H2 (g.trans g2) (g.hh.free n) nf h2 r2
theorem px_call {W : WX} {cc : Addr} (tk : Takes X W) (cf : Cal X.prog X.w X.K X.mg X.base fn k (spO X.K B.C args pre out)) (hr : Room k X.A) (u : α) (ha : PDs X B (e :: es) ss (args u)) (ho : out u = .exc cc) (hp : pre u) (hg : Gl X fn := by rfl)
    (hdb : (fn == ("__debug__" : Str)) = false := by decide) (he : starEach (e :: es) X.env = (false, eval e X.env) :: starEach es X.env := by rfl) (hpl : (backTo pos (starEach es X.env)).any (·.1) = false := by rfl) :
    PX X B W (.Call (.Name fn p) (e :: es) [] pos) ss cc := fun σ F H s hW Q => by
  obtain ⟨f, fd, ps, F0, hm, hk, hb⟩ := cf
  refine sem_of (pe_callS (E := WE W) F0 hr hg hm hk hb (fun σ => passAt tk σ) pa_sem hdb he hpl) (ha σ F H s _ fun vs F1 H1 g r => ?_)
  refine ⟨u, F1, hp, g.fh, r, ?_⟩
  rw [ho]
  exact fun H' h => hW H' (g.hh.trans h)
/-- o.m() -/
theorem pd_meth0 {m h t : Int} {nm : Str} {pl : Sem Bool} (cf : CalM X.prog X.w X.K X.mg X.base B.C nm k (spO X.K B.C args pre out)) (cl : Cls X.K B.C) (hr : Room k X.A) (u : α) (ha : PD X B a ss (flr m h t ds)) (hu : args u = [flr m h t ds]) (hlk : ∀ b, (flF m h t b).lookup nm = none) (ho : out u = .val d) (hp : pre u)
    (ht : eval (.Call (.Attribute a nm p) [] [] pos) X.env = (do
      let ov ← eval a X.env
      standAt p.atName
      let (f, first) ← holding [ov] (getMethod ov nm pl)
      callWith pos f first (backTo pos (starEach [] X.env)) (backToKw pos (keywordEach [] X.env))) := by rfl) :
    PD X B (.Call (.Attribute a nm p) [] [] pos) ss d := fun σ F H s Q q => by
  obtain ⟨f, fd, ps, F0, hm, hb⟩ := cf
  refine sem_of (pe_meth0 (dvs := []) (ds := []) pe_sem cl hm F0 hr hb .nil passL ht) (ha σ F H s _ fun v F1 H1 g r => ?_)
  have r' := r
  cases r with
  | flr h1 h2 h3 =>
    refine ⟨_, _, _, rfl, g.fh _ _ h1, hlk _, u, F1, hp, g.fh, by rw [hu]; exact .one r', ?_⟩
    rw [ho]
    exact fun v F2 H2 g2 r2 => q v F2 H2 (g.trans g2) r2
theorem pn_meth0 {m h t : Int} {nm : Str} {pl : Sem Bool} (cf : CalM X.prog X.w X.K X.mg X.base B.C nm k (spO X.K B.C args pre out)) (cl : Cls X.K B.C) (hr : Room k X.A) (u : α) (ha : PD X B a ss (flr m h t ds)) (hu : args u = [flr m h t ds]) (hlk : ∀ b, (flF m h t b).lookup nm = none) (ho : out u = .new ds') (hp : pre u)
    (ht : eval (.Call (.Attribute a nm p) [] [] pos) X.env = (do
      let ov ← eval a X.env
      standAt p.atName
      let (f, first) ← holding [ov] (getMethod ov nm pl)
      callWith pos f first (backTo pos (starEach [] X.env)) (backToKw pos (keywordEach [] X.env))) := by rfl) :
    PN X B (.Call (.Attribute a nm p) [] [] pos) ss ds' := fun σ F H s Q q => by
  obtain ⟨f, fd, ps, F0, hm, hb⟩ := cf
  refine sem_of (pe_meth0 (dvs := []) (ds := []) pe_sem cl hm F0 hr hb .nil passL ht) (ha σ F H s _ fun v F1 H1 g r => ?_)
  have r' := r
  cases r with
  | flr h1 h2 h3 =>
    refine ⟨_, _, _, rfl, g.fh _ _ h1, hlk _, u, F1, hp, g.fh, by rw [hu]; exact .one r', ?_⟩
    rw [ho]
    exact fun l ws F2 H2 g2 n nf h2 r2 => q l ws F2 H2 (g.trans g2) (g.hh.free n) nf h2 r2
/-! ### statements that raise -/
theorem go_asgX {W : WX} {cc : Addr} {i : Nat} {x : Str} (hN : X.N.Nodup) (hi : X.N[i]? = some x) (he : PX X B W e ss cc) (k : ∀ (σ : St) (F H : Hp), Sat X.K B ss σ F H → ∀ H', Same H H' → W (.ref cc) none σ H') (hx : Loc X.env.scope x := by first | exact Or.inl rfl | exact Or.inr rfl) (hs : swapsWith e (some (.Name x p)) pos.line X.env = pure false := by rfl)
    (hf : X.fn x = true ∨ X.env.scope.names.lookup x = some .local := by first | exact .inl rfl | exact .inr rfl) : Go X B (.Assign [.Name x p] e pos :: rest) ss D :=
  go_step (ps_set hN hi hx pe_sem hs hf) fun σ F H s => he σ F H s (k σ F H s) _
theorem go_dropX {W : WX} {cc : Addr} (he : PX X B W e ss cc) (k : ∀ (σ : St) (F H : Hp), Sat X.K B ss σ F H → ∀ H', Same H H' → W (.ref cc) none σ H') (hs : swapsWith e none pos.line X.env = pure false := by rfl) : Go X B (.Expr e pos :: rest) ss D :=
  go_step (ps_expr pe_sem hs) fun σ F H s => he σ F H s (k σ F H s) _
theorem go_retX {W : WX} {cc : Addr} (he : PX X B W e ss cc) (k : ∀ (σ : St) (F H : Hp), Sat X.K B ss σ F H → ∀ H', Same H H' → W (.ref cc) none σ H') : Go X B (.Return (some e) pos :: rest) ss D :=
  go_step (ps_ret pe_sem) fun σ F H s => he σ F H s (k σ F H s) _
/-- what the top has written of an own error class without more -/
structure ExT (K : PySem.W.Frag) (mg : Str → Option Value) (x : Str) (C : Addr) : Prop where
  gP : mg x = some (.ref C)
  xP : PySem.W.excIn K C [.type "ValueError", .type "Exception", .type "BaseException", .type "object"] "ValueError.__new__" = true
  kP : PySem.W.keepIn K (.ref C) = true
  bP : PySem.W.subIn K (.ref C) (.type "BaseException") = some true
  tP : PySem.W.typeIn K (.ref C) = some (.type "type")
theorem go_raise {W : WX} {cc : Addr} {x m : Str} {j : Nat} (hc : X.calm = true) (tk : Takes X W) (T : ExT X.K X.mg x cc) (k : ∀ (σ : St) (F H : Hp), Sat X.K B ss σ F H → W (.ref cc) none σ H) (hg : Gl X x := by rfl) (hdb : (x == ("__debug__" : Str)) = false := by decide) :
    Go X B (.Raise (some (.Call (.Name x p) [.Constant (.str m) j p2] [] p3)) none p4 :: rest) ss D :=
  go_step (ps_raise hc tk (pmk_own PySem.F.excBase_ValueError T.xP T.gP T.kP (raises_own T.bP T.tP) hg hdb)) fun σ F H s => k σ F H s

/-! ### comprehensions -/
theorem Sat.swap {K : PySem.W.Frag} {σ : St} {F H : Hp} {j : Nat} (h : Sat K B ss σ F H) : Sat K B (ss.set j .un) (σ.set j none) F H := by
  refine ⟨h.g, h.pin, by rw [List.length_set, List.length_set]; exact h.len, fun i sd q => ?_, fun i l xs ys hil q1 q2 => ?_⟩
  · by_cases hj : j = i
    · subst hj
      have hi : j < ss.length := by
        have := (List.getElem?_eq_some_iff.mp q).1
        rwa [List.length_set] at this
      rw [List.getElem?_set_self hi] at q
      cases q; trivial
    · rw [List.getElem?_set_ne hj] at q ⊢
      exact h.slot i sd q
  · have f : ∀ {l : Nat} {xs : List PyData}, (ss.set j .un)[l]? = some (.own xs) → j ≠ l ∧ ss[l]? = some (.own xs) := fun {l xs} q => by
      by_cases hj : j = l
      · subst hj
        have hi : j < ss.length := by
          have := (List.getElem?_eq_some_iff.mp q).1
          rwa [List.length_set] at this
        rw [List.getElem?_set_self hi] at q; cases q
      · rw [List.getElem?_set_ne hj] at q; exact ⟨hj, q⟩
    obtain ⟨n1, e1⟩ := f q1
    obtain ⟨n2, e2⟩ := f q2
    rw [List.getElem?_set_ne n1, List.getElem?_set_ne n2]
    exact h.ne i l xs ys hil e1 e2
/-- the names of a block that runs for a comprehension -/
abbrev Blk (X : Cx) (scope : Scope) (s : Shared) (H : Hp) (C : Addr) (cl : List (Str × Addr)) (fp : List Addr) : Cx := X.blk s H scope (compEnvC scope cl C X.env) fp
def tBlk (X : Cx) (scope : Scope) (e : Expr) : TE := fun σ H Q => ∀ (s : Shared) (H' : Hp) (C : Addr) (cl : List (Str × Addr)) (fp : List Addr), tSem (Blk X scope s H' C cl fp) e σ H Q
def tBlkT (X : Cx) (scope : Scope) (e : Expr) : TT := fun σ H Q => ∀ (s : Shared) (H' : Hp) (C : Addr) (cl : List (Str × Addr)) (fp : List Addr), tSemT (Blk X scope s H' C cl fp) e σ H Q
/-- a comprehension that gives a new list -/
def PLc (X : Cx) (B : Bs) (e : Expr) (ss : List SD) (ds : List PyData) : Prop := ∃ (elt tg iter : Expr) (ifs : List Expr) (scope : Scope) (pos : Pos) (wi : TI) (g : TG) (tt : TT) (te : TE) (own : List (Str × Nat)),
  e = .ListComp elt [⟨tg, iter, ifs, 0⟩] scope pos ∧ PI X tg iter wi ∧ BlkOk X.N X.env.scope scope own ∧ (∀ (s : Shared) (H : Hp) (C : Addr) (cl : List (Str × Addr)) (fp : List Addr), PG (Blk X scope s H C cl fp) tg g) ∧
  (∀ (s : Shared) (H : Hp) (C : Addr) (cl : List (Str × Addr)) (fp : List Addr), PTs (Blk X scope s H C cl fp) ifs tt) ∧ (∀ (s : Shared) (H : Hp) (C : Addr) (cl : List (Str × Addr)) (fp : List Addr), PE (Blk X scope s H C cl fp) elt te) ∧ (∀ x, foldedSetIterable iter X.env x = pure x) ∧
  ∀ (σ : St) (F H : Hp), Sat X.K B ss σ F H → ∀ Q : VK, (∀ a vs F' H', Grow F H F' H' → H a = none → F' a = none → H' a = some (.lst vs) → RpAll X.K B.C F' vs ds → Q (.ref a) H') → tLc wi g tt te (own.map (·.2)) σ H Q
theorem PLc.n (h : PLc X B e ss ds) (cx : Cxt X) : PN X B e ss ds := by
  obtain ⟨elt, tg, iter, ifs, scope, pos, wi, g, tt, te, own, rfl, hi, ok, hg, ht, he, hs, sem⟩ := h
  exact fun σ F H s Q q => sem_of (pe_lc cx.calm cx.nd hi ok hg ht he hs) (sem σ F H s Q q)
theorem PLc.eq (h : PLc X B e ss ds) (q : ds = ds') : PLc X B e ss ds' := q ▸ h
/-- name = [.. for ..] -/
theorem go_asgC (i : Nat) {x : Str} (cx : Cxt X) (h : PLc X B e ss ds) (k : Go X B rest (ss.set i (.own ds)) D) (hi : X.N[i]? = some x := by rfl) (hyl : X.env.scope.names.lookup x = some .local := by rfl)
    (hsw : swapsWith e (some (.Name x p)) pos.line X.env = pure true := by exact sw_true rfl rfl rfl rfl) : Go X B (.Assign [.Name x p] e pos :: rest) ss D := by
  obtain ⟨elt, tg, iter, ifs, scope, pos', wi, g, tt, te, own, rfl, hi', ok, hg, ht, he, hs, sem⟩ := h
  refine go_step (ps_setLc cx.calm cx.nd hi hyl hsw hi' ok hg ht he hs) fun σ F H s => sem σ F H s _ fun a vs F1 H1 g n nf h1 r => ?_
  refine k _ F1 H1 ((s.grow g).set_own (s.g.hh.free n) nf h1 r fun j es hj q z => ?_)
  obtain ⟨a', vs', ea, _, _, h2, _⟩ := s.slot j _ q
  rw [z] at ea
  injection ea with ea
  injection ea with ea
  injection ea with ea
  subst ea
  rw [n] at h2
  cases h2
theorem lcG_sem {β : Type} {xs : List β} {f g : β → PyData} {t : β → Bool} (j : Nat) {tt : TT} {scope : Scope} (he : PIs X B a ss (xs.map f)) (nr : noRaw ss = true) (hz : xs.length < sizeLine)
    (htt : ∀ (Fp : Hp) (u : β), u ∈ xs → ∀ (σ : St) (F H : Hp), Sat X.K (B.pinned Fp) (ss.set j (.dat (f u))) σ F H → ∀ Q : Bool → Hp → Prop, (∀ F' H', Grow F H F' H' → Q (t u) H') → tt σ H Q)
    (hel : ∀ (Fp : Hp) (u : β), u ∈ xs → t u = true → ∀ (s : Shared) (H' : Hp) (C : Addr) (cl : List (Str × Addr)) (fp : List Addr), PD (Blk X scope s H' C cl fp) (B.pinned Fp) e (ss.set j (.dat (f u))) (g u)) :
    ∀ (σ : St) (F H : Hp), Sat X.K B ss σ F H → ∀ Q : VK, (∀ a vs F' H', Grow F H F' H' → H a = none → F' a = none → H' a = some (.lst vs) → RpAll X.K B.C F' vs ((xs.filter t).map g) → Q (.ref a) H') → tLc (iSeq X.K (tSem X a)) (gName j) tt (tBlk X scope e) [j] σ H Q := fun σ F H s Q q =>
  (he σ F H s _ fun l vs F1 H1 g1 sq r => by
    have s1 := s.grow g1
    have ll : vs.length = xs.length := by rw [r.length, List.length_map]
    have main : ∀ Dl, H1 Dl = none → ∃ Pv : Nat → Hp → Prop, Pv 0 (upd H1 Dl (.lst [])) ∧ (∀ i H', Pv i H' → ∃ F', Same F1 F' ∧ Same F' H') ∧
        (∀ i x H', vs[i]? = some x → Pv i H' → gName j x (wipe σ [j]) H' fun σ2 H2 => wipe σ2 [j] = wipe σ [j] ∧ tt σ2 H2 fun b H3 =>
          if b = true then tBlk X scope e σ2 H3 fun z H4 => ∃ acc, H4 Dl = some (.lst acc) ∧ acc.length < sizeLine ∧ Pv (i + 1) (upd H4 Dl (.lst (acc ++ [z]))) else Pv (i + 1) H3) ∧
        (∀ H', Pv vs.length H' → Q (.ref Dl) H') := by
      intro Dl hD
      have ap : ∀ (i : Nat) (es : List PyData), ss[i]? = some (.own es) → σ[i]? ≠ some (some (.ref Dl)) := fun i es e1 e2 => by
        obtain ⟨a', ws, ea, _, _, h2, _⟩ := s1.slot i _ e1
        rw [e2] at ea
        injection ea with ea
        injection ea with ea
        injection ea with ea
        subst ea
        rw [hD] at h2; cases h2
      have hF1 : F1 Dl = none := g1.fh.free hD
      have hB0 : B.H0 Dl = none := s1.g.hh.free hD
      refine ⟨fun i H' => ∃ F' acc, Sat X.K (B.pinned F1) ss σ F' H' ∧ Grow F H F' H' ∧ F' Dl = none ∧ H' Dl = some (.lst acc) ∧ RpAll X.K B.C F' acc (((xs.take i).filter t).map g), ⟨F1, [], s1.pinned.upd hB0 hF1 nr ap, g1.trans (Grow.newO g1.fh hD), hF1, upd_same, ?_⟩, ?_, ?_, ?_⟩
      · rw [List.take_zero]; exact .nil
      · rintro i H' ⟨F', acc, s', _, _⟩
        exact ⟨F', s'.pin, s'.fh⟩
      · rintro i x H' hi ⟨F', acc, s', g', n', h', r'⟩
        obtain ⟨d, hd, rd⟩ := RpAll.getV r hi
        rw [List.getElem?_map] at hd
        cases hu : xs[i]? with
        | none => rw [hu] at hd; cases hd
        | some u =>
          rw [hu] at hd
          cases hd
          have hmem : u ∈ xs := List.mem_of_getElem? hu
          have hil : i < xs.length := (List.getElem?_eq_some_iff.mp hu).1
          have tk : xs.take (i + 1) = xs.take i ++ [u] := by
            rw [List.take_add_one, hu]; rfl
          have al : acc.length ≤ i := by
            rw [r'.length, List.length_map]
            exact Nat.le_trans (List.length_filter_le _ _) (by rw [List.length_take]; omega)
          have wset : (wipe σ [j]).set j (some x) = σ.set j (some x) := by
            show ((wipe σ []).set j none).set j (some x) = _
            rw [List.set_set]; rfl
          have wset2 : wipe (σ.set j (some x)) [j] = wipe σ [j] := by
            show (σ.set j (some x)).set j none = σ.set j none
            rw [List.set_set]
          show wipe ((wipe σ [j]).set j (some x)) [j] = wipe σ [j] ∧ tt ((wipe σ [j]).set j (some x)) H' _
          rw [wset]
          refine ⟨wset2, ?_⟩
          have s2 : Sat X.K (B.pinned F1) (ss.set j (.dat (f u))) (σ.set j (some x)) F' H' := s'.set_dat (rd.mono s'.pin)
          refine htt F1 u hmem _ F' H' s2 _ fun F3 H3 g3 => ?_
          cases hk : t u with
          | false =>
            refine iteF ⟨F3, acc, s'.grow g3, g'.trans g3, g3.own _ _ h' n', g3.hh _ _ h', ?_⟩
            rw [tk, List.filter_append, List.map_append]
            have : ([u].filter t).map g = [] := by rw [List.filter_cons, hk]; rfl
            rw [this, List.append_nil]
            exact r'.mono g3.ff
          | true =>
            refine iteT fun s5 H5 C5 cl5 fp5 => hel F1 u hmem hk s5 H5 C5 cl5 fp5 _ F3 H3 (s2.grow g3) _ fun z F4 H4 g4 r4 => ?_
            have g34 := g3.trans g4
            refine ⟨acc, g34.hh _ _ h', Nat.lt_of_le_of_lt al (Nat.lt_trans hil hz), F4, acc ++ [z], (s'.grow g34).upd hB0 (g34.own _ _ h' n') nr ap (nx_lst (g34.hh _ _ h')), ?_, g34.own _ _ h' n', upd_same, ?_⟩
            · have n4 := g34.own _ _ h' n'
              have hH : H Dl = none := g1.hh.free hD
              exact ⟨fun b o e => by rw [upd_ne (ne_of_none e hH)]; exact (g'.trans g34).hh b o e, (g'.trans g34).ff, fun b o e => by rw [upd_ne (ne_of_none e n4)]; exact g34.fh b o e, (g'.trans g34).own⟩
            · rw [tk, List.filter_append, List.map_append]
              have : ([u].filter t).map g = [g u] := by rw [List.filter_cons, hk]; rfl
              rw [this]
              exact (r'.mono g34.ff).app (.one r4)
      · rintro H' ⟨F', acc, s', g', n', h', r'⟩
        rw [ll, List.take_length] at r'
        exact q Dl acc F' H' g' (g1.hh.free hD) n' h' r'
    refine ⟨l, rfl, ?_⟩
    rcases sq with sq | sq
    · refine .inl ⟨vs, g1.fh.seq sq, fun Dl hD => ?_⟩
      obtain ⟨Pv, p0, pl, ps, pe⟩ := main Dl hD
      exact lc_list (K := X.K) (a := l) (xs := vs) Pv p0 (fun i H' _ pv => let ⟨F', a1, a2⟩ := pl i H' pv; a2.seq (a1.seq sq)) ps pe
    · refine .inr ⟨vs, Same.sqt g1.fh sq, fun Dl hD => ?_⟩
      obtain ⟨Pv, p0, pl, ps, pe⟩ := main Dl hD
      exact lc_tup (K := X.K) (a := l) (xs := vs) Pv p0 (fun i H' _ pv => let ⟨F', a1, a2⟩ := pl i H' pv; Same.sqt a2 (Same.sqt a1 sq)) ps pe)
/-- [e for y in a] -/
theorem pl_lc {β : Type} {xs : List β} {f g : β → PyData} (j : Nat) {y : Str} {scope : Scope} (cx : Cxt X) (he : PIs X B a ss (xs.map f))
    (hel : ∀ (Fp : Hp) (u : β), u ∈ xs → ∀ (s : Shared) (H' : Hp) (C : Addr) (cl : List (Str × Addr)) (fp : List Addr), PD (Blk X scope s H' C cl fp) (B.pinned Fp) e (ss.set j (.dat (f u))) (g u))
    (hz : xs.length < sizeLine) (nr : noRaw ss = true := by rfl)
    (hok : BlkOk X.N X.env.scope scope [(y, j)] := by exact blkOk_by (by kernel_rfl))
    (hpg : X.N.Nodup → ∀ (s : Shared) (H' : Hp) (C : Addr) (cl : List (Str × Addr)) (fp : List Addr), PG (Blk X scope s H' C cl fp) (.Name y p) (gName j) := by intro hnd _ _ _ _ _; exact pg_name hnd (by rfl) (Or.inl rfl))
    (hs : ∀ x, foldedSetIterable a X.env x = pure x := by intro _; rfl) :
    PLc X B (.ListComp e [⟨.Name y p, a, [], 0⟩] scope pos) ss (xs.map g) := by
  have h := lcG_sem (X := X) (B := B) (ss := ss) (e := e) (a := a) (xs := xs) (f := f) (g := g) (t := fun _ => true) (scope := scope) (tt := tYes) j he nr hz
    (fun Fp u hu σ F H s Q q => q F H (Grow.refl s.fh)) (fun Fp u hu _ => hel Fp u hu)
  rw [List.filter_eq_self.mpr (fun _ _ => rfl)] at h
  exact ⟨_, _, _, _, _, _, _, _, _, _, _, rfl, pi_seq pe_sem, hok, hpg cx.nd, fun _ _ _ _ _ => pts_nil, fun s H' C cl fp => ⟨fun pins s1 σ H Q I h => h s H' C cl fp pins s1 I⟩, hs, h⟩
/-- [e for y in a if c] -/
theorem pl_lcIf {β : Type} {xs : List β} {f g : β → PyData} (t : β → Bool) (j : Nat) {y : Str} {scope : Scope} (cx : Cxt X) (he : PIs X B a ss (xs.map f))
    (htt : ∀ (Fp : Hp) (u : β), u ∈ xs → ∀ (s : Shared) (H' : Hp) (C : Addr) (cl : List (Str × Addr)) (fp : List Addr), TD (Blk X scope s H' C cl fp) (B.pinned Fp) c (ss.set j (.dat (f u))) (t u))
    (hel : ∀ (Fp : Hp) (u : β), u ∈ xs → t u = true → ∀ (s : Shared) (H' : Hp) (C : Addr) (cl : List (Str × Addr)) (fp : List Addr), PD (Blk X scope s H' C cl fp) (B.pinned Fp) e (ss.set j (.dat (f u))) (g u))
    (hz : xs.length < sizeLine) (nr : noRaw ss = true := by rfl)
    (hok : BlkOk X.N X.env.scope scope [(y, j)] := by exact blkOk_by (by kernel_rfl))
    (hpg : X.N.Nodup → ∀ (s : Shared) (H' : Hp) (C : Addr) (cl : List (Str × Addr)) (fp : List Addr), PG (Blk X scope s H' C cl fp) (.Name y p) (gName j) := by intro hnd _ _ _ _ _; exact pg_name hnd (by rfl) (Or.inl rfl))
    (hs : ∀ x, foldedSetIterable a X.env x = pure x := by intro _; rfl) :
    PLc X B (.ListComp e [⟨.Name y p, a, [c], 0⟩] scope pos) ss ((xs.filter t).map g) :=
  ⟨_, _, _, _, _, _, _, _, _, _, _, rfl, pi_seq pe_sem, hok, hpg cx.nd, fun s H' C cl fp => pts_one ⟨fun pins s1 σ H Q I h => h s H' C cl fp pins s1 I⟩, fun s H' C cl fp => ⟨fun pins s1 σ H Q I h => h s H' C cl fp pins s1 I⟩, hs,
    lcG_sem (X := X) (B := B) (ss := ss) (e := e) (a := a) (xs := xs) (f := f) (g := g) (t := t) (scope := scope) (tt := tBlkT X scope c) j he nr hz
    (fun Fp u hu σ F H s Q q s1 H1 C1 cl1 fp1 => htt Fp u hu s1 H1 C1 cl1 fp1 σ F H s Q q) hel⟩
/-- a block's own context -/
theorem Cxt.blk (cx : Cxt X) {scope : Scope} {s : Shared} {H : Hp} {C : Addr} {cl : List (Str × Addr)} {fp : List Addr} : Cxt (Blk X scope s H C cl fp) := ⟨cx.calm, cx.nd, PassesOwn.never, cx.units⟩
end

/-! ### a def -/
section
variable {P : Program} {w : World} {K : PySem.W.Frag} {mg : Str → Option Value} {base : Heap}
theorem start_get {N : List Str} {vs : List V} {i : Nat} {v : V} (h : vs[i]? = some v) : (L2.start N vs)[i]? = some (some v) := by
  unfold L2.start
  rw [List.getElem?_append_left (by rw [List.length_map]; exact (List.getElem?_eq_some_iff.mp h).1), List.getElem?_map, h]
  rfl
theorem sat_start {C : Addr} {F H : Hp} {vs : List V} {ds : List PyData} {N : List Str} (hf : Same F H) (r : RpAll K C F vs ds) (hl : ds.length ≤ N.length) :
    Sat K ⟨C, F, H, F⟩ (ds.map SD.dat ++ List.replicate (N.length - ds.length) SD.un) (L2.start N vs) F H where
  g := Grow.refl hf
  pin := Same.refl _
  len := by
    unfold L2.start
    rw [List.length_append, List.length_append, List.length_map, List.length_map, List.length_replicate, List.length_replicate, r.length]
  slot := fun i sd e => by
    by_cases hi : i < ds.length
    · rw [List.getElem?_append_left (by rw [List.length_map]; exact hi), List.getElem?_map, List.getElem?_eq_getElem hi] at e
      cases e
      obtain ⟨v, hv, rv⟩ := RpAll.get r (List.getElem?_eq_getElem hi)
      exact ⟨v, start_get hv, rv⟩
    · rw [List.getElem?_append_right (by rw [List.length_map]; omega), List.getElem?_replicate] at e
      split at e
      · cases e; trivial
      · cases e
  ne := fun i j xs ys hij e1 e2 => by
    exfalso
    by_cases hi : i < ds.length
    · rw [List.getElem?_append_left (by rw [List.length_map]; exact hi), List.getElem?_map, List.getElem?_eq_getElem hi] at e1
      cases e1
    · rw [List.getElem?_append_right (by rw [List.length_map]; omega), List.getElem?_replicate] at e1
      split at e1
      · cases e1
      · cases e1
/-- the ends of a def's body -/
abbrev dE (Q : VK) : Ends := { nx := fun _ H' => Q .non H', rt := Q }
/-- what a def's exceptions are wished to be -/
abbrev dW (E : XK) : WX := fun cls d _ H => E cls d H
theorem ok_fn {x qual : Str} {st : Stmt} {f : Addr} {fd : FuncData} {N ps : List Str} {k : Nat} {C : Addr} {α : Type} {args : α → List PyData} {pre : α → Prop} {out : α → Out} (F : L2.Fun K x qual st f fd) (S : FnScope N ps (defScope st)) (hl : ∀ a, (args a).length = ps.length)
    (body : ∀ (cdv : Value) (A : Around) (outer : List Env) (s : Shared) (H F0 : Hp) (u : α) (Q : VK) (E : XK) (X : Cx) (hX : X = cxOf (L2.CX P w) P w K mg base N qual (defScope st) f cdv A outer s H E), Cxt X → Room k X.A → Takes X (dW E) → pre u → OutK K C F0 H Q E (out u) →
      Go X ⟨C, F0, H, F0⟩ (defBody st) ((args u).map SD.dat ++ List.replicate (N.length - (args u).length) SD.un) (dE Q)) :
    FnOk P w K mg base (L2.CX P w) (k + 1) f fd ps (spO K C args pre out) := by
  have hNl : ps.length ≤ N.length := by have := congrArg List.length S.pre; rw [List.length_take] at this; omega
  refine F.okX S (fun vs H Q E h => ?_) (fun cdv A outer s H vs Q E hr h => ?_)
  · obtain ⟨u, F0, _, _, r, _⟩ := h
    rw [r.length, hl]
  · obtain ⟨u, F0, hp, hf, r, ho⟩ := h
    refine ⟨_, pss_sem, ?_⟩
    have cx : Cxt (cxOf (L2.CX P w) P w K mg base N qual (defScope st) f cdv A outer s H E) := ⟨rfl, S.nd, passes_of rfl, by have := hr.un; show (A.deeper _).units + 65 < cLine; omega⟩
    exact body cdv A outer s H F0 u Q E _ rfl cx hr (takes_of rfl rfl rfl rfl) hp ho _ F0 H (sat_start hf r (by rw [hl]; exact hNl))
theorem cal_mk {x : Str} {st : Stmt} {f : Addr} {fd : FuncData} {ps : List Str} {k : Nat} {sp : Sp} (F : L2.Fun K x x st f fd) (g : mg x = some (.ref f)) (b : Binds K fd ps []) (h : FnOk P w K mg base (L2.CX P w) k f fd ps sp) : Cal P w K mg base x k sp := ⟨f, fd, ps, h, g, F.kp, b⟩
end
end G

namespace G
open PySem L2
/-! ### sorting, doubles -/
def ins (a : Int) : List Int → List Int
  | [] => [a]
  | b :: r => if a ≤ b then a :: b :: r else b :: ins a r
def isort : List Int → List Int
  | [] => []
  | a :: r => ins a (isort r)
theorem ins_perm (a : Int) : ∀ l : List Int, (ins a l).Perm (a :: l)
  | [] => .refl _
  | b :: r => by
    unfold ins
    split
    · exact .refl _
    · exact ((ins_perm a r).cons b).trans (.swap a b r)
theorem isort_perm : ∀ l : List Int, (isort l).Perm l
  | [] => .refl _
  | a :: r => (ins_perm a (isort r)).trans ((isort_perm r).cons a)
theorem ins_sorted (a : Int) : ∀ l : List Int, l.Pairwise (· ≤ ·) → (ins a l).Pairwise (· ≤ ·)
  | [], _ => by unfold ins; exact List.pairwise_singleton _ _
  | b :: r, h => by
    rw [List.pairwise_cons] at h
    unfold ins
    split
    · rename_i hab
      rw [List.pairwise_cons, List.pairwise_cons]
      refine ⟨fun x hx => ?_, h⟩
      rcases List.mem_cons.mp hx with e | hx
      · subst e; exact hab
      · exact Int.le_trans hab (h.1 x hx)
    · rename_i hab
      rw [List.pairwise_cons]
      refine ⟨fun x hx => ?_, ins_sorted a r h.2⟩
      rcases List.mem_cons.mp ((ins_perm a r).mem_iff.mp hx) with e | hx
      · subst e; omega
      · exact h.1 x hx
theorem isort_sorted : ∀ l : List Int, (isort l).Pairwise (· ≤ ·)
  | [] => List.Pairwise.nil
  | a :: r => ins_sorted a _ (isort_sorted r)
theorem sorted_one : ∀ {l m : List Int}, l.Perm m → l.Pairwise (· ≤ ·) → m.Pairwise (· ≤ ·) → l = m
  | [], m, p, _, _ => (List.nil_perm.mp p).symm
  | a :: l, [], p, _, _ => absurd (List.perm_nil.mp p) (by simp)
  | a :: l, b :: m, p, h1, h2 => by
    rw [List.pairwise_cons] at h1 h2
    have hab : a = b := by
      have ha : a ∈ b :: m := p.mem_iff.mp List.mem_cons_self
      have hb : b ∈ a :: l := p.mem_iff.mpr List.mem_cons_self
      rcases List.mem_cons.mp ha with e | ha
      · exact e
      · rcases List.mem_cons.mp hb with e | hb
        · exact e.symm
        · have := h2.1 a ha
          have := h1.1 b hb
          omega
    subst hab
    rw [sorted_one (List.Perm.cons_inv p) h1.2 h2.2]
theorem isort_is {l m : List Int} (p : l.Perm m) (h : l.Pairwise (· ≤ ·)) : l = isort m := sorted_one (p.trans (isort_perm m).symm) h (isort_sorted m)
theorem isort_length (l : List Int) : (isort l).length = l.length := (isort_perm l).length_eq
/-- rows of numbers, a standing -/
abbrev dRow (r : List Int) : PyData := .tuple (r.map .int)
abbrev dSt (S : List (List Int)) : PyData := .tuple (S.map dRow)
abbrev dIs (r : List Int) : List PyData := r.map .int
theorem flatten_take {α : Type} {S : List (List α)} {i : Nat} {r : List α} (h : S[i]? = some r) : (S.take (i + 1)).flatten = (S.take i).flatten ++ r := by
  rw [List.take_add_one, h]
  simp
theorem flatten_take_le {α : Type} (S : List (List α)) (i : Nat) : (S.take i).flatten.length ≤ S.flatten.length := by
  have h : S.flatten = (S.take i).flatten ++ (S.drop i).flatten := by rw [← List.flatten_append, List.take_append_drop]
  rw [h, List.length_append]
  omega
/-- the builtins that the texts name, none of them a name of the module -/
structure Bl (mg : Str → Option Value) : Prop where
  len : mg "len" = none
  list : mg "list" = none
  tuple : mg "tuple" = none
  range : mg "range" = none
  sorted : mg "sorted" = none
  set : mg "set" = none
  min : mg "min" = none
  max : mg "max" = none
  abs : mg "abs" = none
  isinstance : mg "isinstance" = none
  int : mg "int" = none
  bool : mg "bool" = none
  str : mg "str" = none
  all : mg "all" = none
theorem sz1000 {n : Nat} (h : n ≤ 1000) : n ≤ sizeLine := Nat.le_of_lt (small1000 h)
theorem sz4000 {n : Nat} (h : n ≤ 4000) : n ≤ sizeLine := Nat.le_trans h (by decide)
theorem szBig {n : Nat} (h : n ≤ 1000000) : n < sizeLine := Nat.lt_of_le_of_lt h (by decide)
end G

namespace G
open PySem L2
/-! ### min, max with a default; how many unlike ones -/
def minDf (d : Int) : List Int → Int
  | [] => d
  | n :: r => r.foldl min n
def maxDf (d : Int) : List Int → Int
  | [] => d
  | n :: r => r.foldl max n
theorem readsInts {h : Heap} : ∀ {ns : List Int} {us : List Value}, Vals (ns.map V.int) us → ReadsAll h us (ns.map PyData.int) []
  | [], _, .nil => .nil
  | n :: r, _, .cons hv t => by
    obtain ⟨k, rfl⟩ := hv
    exact ReadsAll.cons (as := []) (bs := []) (.int n k) (readsInts t)
theorem depInts : ∀ ns : List Int, PyData.depthAll (ns.map PyData.int) = 0
  | [] => by simp [PyData.depthAll]
  | n :: r => by
    have h := depInts r
    simp only [List.map_cons, PyData.depthAll, PyData.depth]
    omega
theorem alikeInts (ns : List Int) : PySem.W.AlikeAll (ns.map PyData.int) := by
  refine ⟨fun x hx y hy => ?_, fun x hx => ?_⟩
  · obtain ⟨i, _, rfl⟩ := List.mem_map.mp hx
    obtain ⟨j, _, rfl⟩ := List.mem_map.mp hy
    rfl
  · obtain ⟨i, _, rfl⟩ := List.mem_map.mp hx
    exact fun z => nomatch z
section
variable {X : Cx} {B : Bs} {ss : List SD} {e a b c : Expr} {es : List Expr} {pos p p2 p3 p4 : Pos} {d x y z : PyData} {ds ds' : List PyData}
def rMinDf (K : PySem.W.Frag) : List V → List V → Hp → VK → Prop := fun vs zs H Q => ∃ (a : Addr) (ns : List Int) (d : Int), vs = [.ref a] ∧ zs = [.int d] ∧ SqL K H a (ns.map V.int) ∧ Q (.int (minDf d ns)) H
def rMaxDf (K : PySem.W.Frag) : List V → List V → Hp → VK → Prop := fun vs zs H Q => ∃ (a : Addr) (ns : List Int) (d : Int), vs = [.ref a] ∧ zs = [.int d] ∧ SqL K H a (ns.map V.int) ∧ Q (.int (maxDf d ns)) H
theorem cr_minDf (hc : X.calm = true) (hu : X.A.units + 65 < cLine) : CallRK X (.builtin "min") [Str.ofString "default"] (rMinDf X.K) := by
  intro pins s σ H xs zs us ws Q I r rz h
  obtain ⟨a, ns, d, rfl, rfl, hs, q⟩ := h
  obtain rfl := Vals.ref1 r
  cases rz with
  | cons rd rn =>
    cases rn
    obtain ⟨td, rfl⟩ := rd
    obtain ⟨its, rv, pl, hz⟩ := I.list hs
    refine PySem.W.min_list_default (I.ok.hd hc) pl.isList (xs := ns.map PyData.int) (as := []) (by simpa using readsInts (h := s.heap) rv) (alikeInts ns) (by rw [depInts]; omega) (fun e h' tk k => ?_) (fun y ys i v h' tk bs e hv hr k => ?_)
    · cases ns with
      | cons _ _ => cases e
      | nil => exact ⟨.int d, H, I.kept (t' := tk) k, ⟨_, rfl⟩, q⟩
    · cases ns with
      | nil => cases e
      | cons n r =>
        rw [List.map_cons] at e
        injection e with e1 e2
        subst e1 e2
        rw [PySem.W.minD_ints] at hr
        cases hr with
        | int m t => exact ⟨.int (r.foldl min n), H, I.kept (t' := tk) k, ⟨t, rfl⟩, q⟩
theorem cr_maxDf (hc : X.calm = true) (hu : X.A.units + 65 < cLine) : CallRK X (.builtin "max") [Str.ofString "default"] (rMaxDf X.K) := by
  intro pins s σ H xs zs us ws Q I r rz h
  obtain ⟨a, ns, d, rfl, rfl, hs, q⟩ := h
  obtain rfl := Vals.ref1 r
  cases rz with
  | cons rd rn =>
    cases rn
    obtain ⟨td, rfl⟩ := rd
    obtain ⟨its, rv, pl, hz⟩ := I.list hs
    refine PySem.W.max_list_default (I.ok.hd hc) pl.isList (xs := ns.map PyData.int) (as := []) (by simpa using readsInts (h := s.heap) rv) (alikeInts ns) (by rw [depInts]; omega) (fun e h' tk k => ?_) (fun y ys i v h' tk bs e hv hr k => ?_)
    · cases ns with
      | cons _ _ => cases e
      | nil => exact ⟨.int d, H, I.kept (t' := tk) k, ⟨_, rfl⟩, q⟩
    · cases ns with
      | nil => cases e
      | cons n r =>
        rw [List.map_cons] at e
        injection e with e1 e2
        subst e1 e2
        rw [PySem.W.maxD_ints] at hr
        cases hr with
        | int m t => exact ⟨.int (r.foldl max n), H, I.kept (t' := tk) k, ⟨t, rfl⟩, q⟩
theorem pd_minDf {ns : List Int} {k : Int} {nm : Option Str} {kp : Pos} (cx : Cxt X) (ha : PLi X B e ss (ns.map .int)) (hb : PD X B b ss (.int k)) (hm : X.mg "min" = none) (hv : bootBuiltins "min" = some (.builtin "min") := by decide +kernel) (hg : Gl X "min" := by rfl) (hn : NSt X e := by intro _; rfl)
    (he : backTo pos (starEach [e] X.env) = (false, eval e X.env) :: backTo pos (starEach [] X.env) := by rfl) (hpl : (backTo pos (starEach [e] X.env)).any (·.1) = false := by rfl)
    (hall : (backToKw pos (keywordEach [⟨nm, b, kp⟩] X.env)).all (·.1.isSome) = true := by rfl) (hnone : (backToKw pos (keywordEach [⟨nm, b, kp⟩] X.env)).any (·.1.isNone) = false := by rfl) (hks : (backToKw pos (keywordEach [⟨nm, b, kp⟩] X.env)).filterMap (·.1) = [Str.ofString "default"] := by rfl) :
    PD X B (.Call (.Name "min" p) [e] [⟨nm, b, kp⟩] pos) ss (.int (minDf k ns)) := fun σ F H s Q q =>
  sem_of (pe_callBK (cr_minDf cx.calm cx.units) hg hm hv (pa_cons pe_sem pa_nil (hn [])) (pk_cons pe_sem pk_nil) (by decide) (by decide) he hpl hall hnone hks) (ha σ F H s _ fun l vs F1 H1 g1 sq r1 => hb σ F1 H1 (s.grow g1) _ fun w F2 H2 g2 r2 => by
    cases r2
    have e := RpAll.intsV r1
    subst e
    exact ⟨l, ns, k, rfl, rfl, g2.hh.seq sq, q _ F2 H2 (g1.trans g2) (.int _)⟩)
theorem pd_maxDf {ns : List Int} {k : Int} {nm : Option Str} {kp : Pos} (cx : Cxt X) (ha : PLi X B e ss (ns.map .int)) (hb : PD X B b ss (.int k)) (hm : X.mg "max" = none) (hv : bootBuiltins "max" = some (.builtin "max") := by decide +kernel) (hg : Gl X "max" := by rfl) (hn : NSt X e := by intro _; rfl)
    (he : backTo pos (starEach [e] X.env) = (false, eval e X.env) :: backTo pos (starEach [] X.env) := by rfl) (hpl : (backTo pos (starEach [e] X.env)).any (·.1) = false := by rfl)
    (hall : (backToKw pos (keywordEach [⟨nm, b, kp⟩] X.env)).all (·.1.isSome) = true := by rfl) (hnone : (backToKw pos (keywordEach [⟨nm, b, kp⟩] X.env)).any (·.1.isNone) = false := by rfl) (hks : (backToKw pos (keywordEach [⟨nm, b, kp⟩] X.env)).filterMap (·.1) = [Str.ofString "default"] := by rfl) :
    PD X B (.Call (.Name "max" p) [e] [⟨nm, b, kp⟩] pos) ss (.int (maxDf k ns)) := fun σ F H s Q q =>
  sem_of (pe_callBK (cr_maxDf cx.calm cx.units) hg hm hv (pa_cons pe_sem pa_nil (hn [])) (pk_cons pe_sem pk_nil) (by decide) (by decide) he hpl hall hnone hks) (ha σ F H s _ fun l vs F1 H1 g1 sq r1 => hb σ F1 H1 (s.grow g1) _ fun w F2 H2 g2 r2 => by
    cases r2
    have e := RpAll.intsV r1
    subst e
    exact ⟨l, ns, k, rfl, rfl, g2.hh.seq sq, q _ F2 H2 (g1.trans g2) (.int _)⟩)
/-- how many unlike numbers -/
def dcount (ns : List Int) : Nat := (PyProof.Rows.firstMet (fun i => ns.getD i 0) ns.length).length
theorem met_len (ns : List Int) : ∀ i, i ≤ ns.length → (PyProof.Rows.firstMet (fun i => ns.getD i 0) i).length = i → PyProof.Rows.firstMet (fun i => ns.getD i 0) i = ns.take i ∧ (ns.take i).Nodup
  | 0, _, _ => ⟨by rw [List.take_zero]; rfl, by rw [List.take_zero]; exact List.nodup_nil⟩
  | i + 1, hi, h => by
    have hlt : i < ns.length := hi
    have e1 : ns.getD i 0 = ns[i] := by
      rw [List.getD_eq_getElem?_getD, List.getElem?_eq_getElem hlt] <;> rfl
    have e2 : ns.take (i + 1) = ns.take i ++ [ns[i]] := by
      rw [List.take_add_one, List.getElem?_eq_getElem hlt] <;> rfl
    have le := PyProof.Rows.firstMet_length_le (fun i => ns.getD i 0) i
    rw [PyProof.Rows.firstMet_succ] at h ⊢
    unfold PyProof.Rows.step_dedup at h ⊢
    cases hb : (PyProof.Rows.firstMet (fun i => ns.getD i 0) i).any (· == ns.getD i 0) with
    | true =>
      rw [hb, if_pos rfl] at h
      omega
    | false =>
      rw [hb, if_neg (by decide)] at h
      rw [if_neg (by decide)]
      rw [List.length_append, List.length_singleton] at h
      obtain ⟨k1, k2⟩ := met_len ns i (Nat.le_of_lt hlt) (by omega)
      rw [k1] at hb ⊢
      rw [e2, e1]
      refine ⟨rfl, List.nodup_append.mpr ⟨k2, (List.nodup_cons.mpr ⟨by simp, List.nodup_nil⟩), fun x hx y hy => ?_⟩⟩
      rw [List.mem_singleton] at hy
      subst hy
      intro e
      subst e
      have : (ns.take i).any (· == ns.getD i 0) = true := List.any_eq_true.mpr ⟨_, hx, by rw [e1]; exact beq_self_eq_true _⟩
      rw [hb] at this
      cases this
theorem dcount_le (ns : List Int) : dcount ns ≤ ns.length := PyProof.Rows.firstMet_length_le _ _
theorem dcount_lt (ns : List Int) : decide ((dcount ns : Int) < (ns.length : Int)) = !decide ns.Nodup := by
  have le := dcount_le ns
  by_cases h : ns.Nodup
  · have e : dcount ns = ns.length := by
      unfold dcount
      rw [RZ.firstMet_nodup h ns.length (Nat.le_refl _), List.take_length]
    rw [decide_eq_true h, e, decide_eq_false (Int.lt_irrefl _)]; rfl
  · have ne : dcount ns ≠ ns.length := fun e => by
      have := (met_len ns ns.length (Nat.le_refl _) e).2
      rw [List.take_length] at this
      exact h this
    rw [decide_eq_false h, decide_eq_true (by omega)]; rfl
def tLenSet (K : PySem.W.Frag) (ta : TE) : TE := fun σ H Q => ta σ H fun x H1 => ∃ (l : Addr) (ns : List Int), x = .ref l ∧ SqL K H1 l (ns.map V.int) ∧ ns.length ≤ 4000 ∧ Q (.int (dcount ns : Nat)) H1
theorem pe_lenSet {p p2 q pos : Pos} {ta : TE} (hc : X.calm = true) (ha : PE X a ta) (hm : X.mg "len" = none) (hm2 : X.mg "set" = none) (hg : Gl X "len") (hg2 : Gl X "set")
    (na : starEach [a] X.env = (false, eval a X.env) :: starEach [] X.env := by rfl) : PE X (.Call (.Name "len" p) [.Call (.Name "set" p2) [a] [] q] [] pos) (tLenSet X.K ta) := by
  refine ⟨fun pins s σ H Q I h => ?_⟩
  refine PyProof.Rows.Call_ (ld_blt I hg hm boot_len ?_)
  refine PyProof.Rows.callWith_builtin1 (PyProof.Rows.args_cons ?_ rfl) rfl rfl
  refine PyProof.Rows.Call_ (ld_blt I hg2 hm2 PyProof.Rows.boot_set ?_)
  refine PyProof.Rows.callWith_type1 (PyProof.Rows.args_cons (thn (ha.run pins s σ H _ I h) fun v s1 ⟨x, H1, I1, r1, q1⟩ => PyProof.Rows.args_nil ?_) na) na rfl
  obtain ⟨l, ns, rfl, hq, hl, q1⟩ := q1
  cases r1
  obtain ⟨its, r, pl, hz⟩ := I1.list hq
  have hlen : its.toArray.size = ns.length := by rw [List.size_toArray, ← r.length, List.length_map]
  refine call_set_list (I1.ok.hd hc) pl.isList (by simpa using RZ.intsAre_vals r) (by rw [hlen]; unfold scanBound; omega) fun h' tk hS hk => ?_
  refine PyProof.Rows.args_nil ?_
  rw [hlen] at hS
  obtain ⟨o, es, ep, t, ho, hex, hd, _, _, _, hf, hn⟩ := hS
  have I2 : Inv X pins σ H1 { s1 with heap := h', toks := tk } := I1.kept fun b o e => hk b o (Heap.lt_size e) e
  have hdl := dcount_le ns
  exact call_len_set ho hex hd hf (by rw [hn]; show ((dcount ns : Nat) : Int) < 2 ^ 63; omega) ⟨.int (dcount ns : Nat), H1, I2.tok _, ⟨_, by rw [hn] <;> rfl⟩, q1⟩
theorem pd_lenSet {ns : List Int} {p p2 q : Pos} (cx : Cxt X) (ha : PLi X B a ss (ns.map .int)) (hz : ns.length ≤ 4000) (hm : X.mg "len" = none) (hm2 : X.mg "set" = none) (hg : Gl X "len" := by rfl) (hg2 : Gl X "set" := by rfl)
    (na : starEach [a] X.env = (false, eval a X.env) :: starEach [] X.env := by rfl) : PD X B (.Call (.Name "len" p) [.Call (.Name "set" p2) [a] [] q] [] pos) ss (.int (dcount ns : Nat)) := fun σ F H s Q k =>
  sem_of (pe_lenSet cx.calm pe_sem hm hm2 hg hg2 na) (ha σ F H s _ fun l vs F1 H1 g1 sq r1 => by
    have e := RpAll.intsV r1
    subst e
    exact ⟨l, ns, rfl, sq, hz, k _ F1 H1 g1 (.int _)⟩)
end
end G

namespace G
open PySem L2
/-! ### pairs, floors, good rows -/
abbrev dPr (p : Int × Int) : PyData := .tuple [.int p.1, .int p.2]
abbrev dPrs (bs : List (Int × Int)) : List PyData := bs.map dPr
theorem pl_pr (p : Int × Int) : Pl 1 (dPr p) := .tup fun d hd => by
  rcases List.mem_cons.mp hd with e | hd
  · subst e; exact .int
  · rcases List.mem_cons.mp hd with e | hd
    · subst e; exact .int
    · cases hd
theorem pl_prs (bs : List (Int × Int)) : Pl 2 (.list (dPrs bs)) := .lst (Pl.map fun p _ => pl_pr p)
theorem pl_row (r : List Int) : Pl 1 (dRow r) := .tup (Pl.map fun _ _ => .int)
theorem pl_st (S : List (List Int)) : Pl 2 (dSt S) := .tup (Pl.map fun r _ => pl_row r)
theorem eqv_pr (p q : Int × Int) : PyData.eqv (dPr p) (dPr q) = decide (p = q) := by
  obtain ⟨a, b⟩ := p
  obtain ⟨c, d⟩ := q
  simp only [PyData.eqv, PyData.eqvAll]
  by_cases h1 : a = c
  · by_cases h2 : b = d
    · subst h1 h2; simp
    · simp [h1, h2]
  · simp [h1]
theorem any_pr (bs : List (Int × Int)) (q : Int × Int) : ((dPrs bs).any fun z => PyData.eqv z (dPr q)) = decide (q ∈ bs) := by
  induction bs with
  | nil => simp
  | cons p r ih =>
    show (PyData.eqv (dPr p) (dPr q) || (dPrs r).any fun z => PyData.eqv z (dPr q)) = _
    rw [ih, eqv_pr]
    by_cases h : p = q
    · subst h; simp
    · have h' : ¬ q = p := fun e => h e.symm
      simp [h, h']
theorem eqv_ints : ∀ (r t : List Int), PyData.eqvAll (r.map .int) (t.map .int) = decide (r = t)
  | [], [] => by simp [PyData.eqvAll]
  | [], _ :: _ => by simp [PyData.eqvAll]
  | _ :: _, [] => by simp [PyData.eqvAll]
  | a :: r, b :: t => by
    have ih := eqv_ints r t
    simp only [List.map_cons, PyData.eqvAll, PyData.eqv, ih]
    by_cases h : a = b
    · subst h; simp
    · simp [h]
theorem eqv_row (r t : List Int) : PyData.eqv (dRow r) (dRow t) = decide (r = t) := by
  simp only [PyData.eqv]; exact eqv_ints r t
theorem eqv_rows : ∀ (S T : List (List Int)), PyData.eqvAll (S.map dRow) (T.map dRow) = decide (S = T)
  | [], [] => by simp [PyData.eqvAll]
  | [], _ :: _ => by simp [PyData.eqvAll]
  | _ :: _, [] => by simp [PyData.eqvAll]
  | a :: r, b :: t => by
    have ih := eqv_rows r t
    simp only [List.map_cons, PyData.eqvAll, ih, eqv_row]
    by_cases h : a = b
    · subst h; simp
    · simp [h]
theorem eqv_st (S T : List (List Int)) : PyData.eqv (dSt S) (dSt T) = decide (S = T) := by
  simp only [PyData.eqv]; exact eqv_rows S T
/-- no ban between neighbours -/
def rowOk (bs : List (Int × Int)) (r : List Int) : Bool := (List.range (r.length - 1)).all fun k => !decide ((r.getD (k + 1) 0, r.getD k 0) ∈ bs)
theorem rowOk_yes {bs : List (Int × Int)} {r : List Int} (h : ∀ k, k < r.length - 1 → (r.getD (k + 1) 0, r.getD k 0) ∉ bs) : rowOk bs r = true := by
  unfold rowOk
  rw [List.all_eq_true]
  intro k hk
  rw [List.mem_range] at hk
  rw [decide_eq_false (h k hk)]; rfl
theorem rowOk_no {bs : List (Int × Int)} {r : List Int} {k : Nat} (hk : k < r.length - 1) (h : (r.getD (k + 1) 0, r.getD k 0) ∈ bs) : rowOk bs r = false := by
  unfold rowOk
  rw [List.all_eq_false]
  refine ⟨k, List.mem_range.mpr hk, ?_⟩
  rw [decide_eq_true h]; decide
/-- a stack that is not too high and keeps the bans -/
def stackOk (h : Int) (bs : List (Int × Int)) (r : List Int) : Bool := decide ((r.length : Int) ≤ h) && rowOk bs r
/-- good, as the text looks at it -/
def good (m h : Int) (bs : List (Int × Int)) (S : List (List Int)) : Bool :=
  decide ((S.length : Int) = m) && decide S.flatten.Nodup && S.flatten.all (fun c => decide (0 ≤ c) && decide (c ≤ 9)) && S.all (stackOk h bs)
theorem foldl_min_le : ∀ (r : List Int) (a : Int), r.foldl min a ≤ a ∧ (∀ x ∈ r, r.foldl min a ≤ x) ∧ (r.foldl min a = a ∨ r.foldl min a ∈ r)
  | [], a => ⟨Int.le_refl _, fun x h => (nomatch h), .inl rfl⟩
  | b :: r, a => by
    obtain ⟨h1, h2, h3⟩ := foldl_min_le r (min a b)
    have e : (b :: r).foldl min a = r.foldl min (min a b) := rfl
    rw [e]
    refine ⟨by omega, fun x hx => ?_, ?_⟩
    · rcases List.mem_cons.mp hx with e | hx
      · subst e; omega
      · exact h2 x hx
    · rcases h3 with h3 | h3
      · rw [h3]
        rcases Int.le_total a b with q | q
        · left; omega
        · right; rw [List.mem_cons]; left; omega
      · exact .inr (List.mem_cons_of_mem _ h3)
theorem foldl_max_le : ∀ (r : List Int) (a : Int), a ≤ r.foldl max a ∧ (∀ x ∈ r, x ≤ r.foldl max a) ∧ (r.foldl max a = a ∨ r.foldl max a ∈ r)
  | [], a => ⟨Int.le_refl _, fun x h => (nomatch h), .inl rfl⟩
  | b :: r, a => by
    obtain ⟨h1, h2, h3⟩ := foldl_max_le r (max a b)
    have e : (b :: r).foldl max a = r.foldl max (max a b) := rfl
    rw [e]
    refine ⟨by omega, fun x hx => ?_, ?_⟩
    · rcases List.mem_cons.mp hx with e | hx
      · subst e; omega
      · exact h2 x hx
    · rcases h3 with h3 | h3
      · rw [h3]
        rcases Int.le_total a b with q | q
        · right; rw [List.mem_cons]; left; omega
        · left; omega
      · exact .inr (List.mem_cons_of_mem _ h3)
theorem minDf_neg (ns : List Int) : decide (minDf 0 ns < 0) = !ns.all (fun c => decide (0 ≤ c)) := by
  cases ns with
  | nil => rfl
  | cons a r =>
    obtain ⟨h1, h2, h3⟩ := foldl_min_le r a
    show decide (r.foldl min a < 0) = _
    by_cases h : r.foldl min a < 0
    · rw [decide_eq_true h]
      have : (a :: r).all (fun c => decide (0 ≤ c)) = false := by
        rw [List.all_eq_false]
        rcases h3 with e | e
        · exact ⟨a, List.mem_cons_self, by simp; omega⟩
        · exact ⟨_, List.mem_cons_of_mem _ e, by simp; omega⟩
      rw [this]; rfl
    · rw [decide_eq_false h]
      have : (a :: r).all (fun c => decide (0 ≤ c)) = true := by
        rw [List.all_eq_true]
        intro x hx
        rcases List.mem_cons.mp hx with e | e
        · subst e; simp; omega
        · have := h2 x e; simp; omega
      rw [this]; rfl
theorem maxDf_nine (ns : List Int) : decide (9 < maxDf 0 ns) = !ns.all (fun c => decide (c ≤ 9)) := by
  cases ns with
  | nil => rfl
  | cons a r =>
    obtain ⟨h1, h2, h3⟩ := foldl_max_le r a
    show decide (9 < r.foldl max a) = _
    by_cases h : 9 < r.foldl max a
    · rw [decide_eq_true h]
      have : (a :: r).all (fun c => decide (c ≤ 9)) = false := by
        rw [List.all_eq_false]
        rcases h3 with e | e
        · exact ⟨a, List.mem_cons_self, by simp; omega⟩
        · exact ⟨_, List.mem_cons_of_mem _ e, by simp; omega⟩
      rw [this]; rfl
    · rw [decide_eq_false h]
      have : (a :: r).all (fun c => decide (c ≤ 9)) = true := by
        rw [List.all_eq_true]
        intro x hx
        rcases List.mem_cons.mp hx with e | e
        · subst e; simp; omega
        · have := h2 x e; simp; omega
      rw [this]; rfl
theorem all_isort (p : Int → Bool) (l : List Int) : (isort l).all p = l.all p := by
  rw [Bool.eq_iff_iff, List.all_eq_true, List.all_eq_true]
  exact ⟨fun h x hx => h x ((isort_perm l).mem_iff.mpr hx), fun h x hx => h x ((isort_perm l).mem_iff.mp hx)⟩
theorem all_and2 {α : Type} (f g : α → Bool) : ∀ l : List α, l.all (fun x => f x && g x) = (l.all f && l.all g)
  | [] => rfl
  | a :: r => by
    rw [List.all_cons, List.all_cons, List.all_cons, all_and2 f g r]
    cases f a <;> cases g a <;> cases r.all f <;> cases r.all g <;> rfl
theorem of_not_false {b : Bool} (h : (!b) = false) : b = true := by cases b <;> first | rfl | cases h
theorem of_not_true {b : Bool} (h : (!b) = true) : b = false := by cases b <;> first | rfl | cases h
theorem nodup_isort (l : List Int) : (isort l).Nodup ↔ l.Nodup := (isort_perm l).nodup_iff
/-- what the class Floor is, as the top leaves it -/
structure FlT (K : PySem.W.Frag) (mg : Str → Option Value) (C : Addr) : Prop where
  cl : Cls K C
  nM : NoAttr K C "many"
  nH : NoAttr K C "high"
  nS : NoAttr K C "strong"
  nB : NoAttr K C "banned"
  mgC : mg "Floor" = some (.ref C)
theorem at_nat {xs : List PyData} {j : Nat} {d : PyData} {z : Int} (e : z = (j : Int)) (h : xs[j]? = some d) : atI xs z = some d := by
  rw [e]; exact atI_nat h
theorem row_at {r : List Int} {j : Nat} (h : j < r.length) : (r.map PyData.int)[j]? = some (.int (r.getD j 0)) := by
  rw [List.getElem?_map, List.getElem?_eq_getElem h, List.getD_eq_getElem?_getD, List.getElem?_eq_getElem h] <;> rfl
theorem PD.tp {X : Cx} {B : Bs} {e : Expr} {ss : List SD} {ds : List PyData} (h : PD X B e ss (.tuple ds)) : PIt X B e ss ds := h.itt.it
theorem PD.ls {X : Cx} {B : Bs} {e : Expr} {ss : List SD} {ds : List PyData} (h : PD X B e ss (.list ds)) : PIt X B e ss ds := h.itl.it
end G

namespace G
open PySem L2
/-! ### lifts -/
abbrev FL := Int × Int × Int × List (Int × Int)
abbrev dFl (f : FL) : PyData := flr f.1 f.2.1 f.2.2.1 (dPrs f.2.2.2)
abbrev goodF (f : FL) (S : List (List Int)) : Bool := good f.1 f.2.1 f.2.2.2 S
abbrev LF := Nat × Nat × Nat
abbrev dLf (l : LF) : PyData := .tuple [.int (l.1 : Int), .int (l.2.1 : Int), .int (l.2.2 : Int)]
abbrev L3 := Int × Int × Int
abbrev dL3 (l : L3) : PyData := .tuple [.int l.1, .int l.2.1, .int l.2.2]
def cast3 (l : LF) : L3 := (l.1, l.2.1, l.2.2)
theorem dLf_cast (l : LF) : dLf l = dL3 (cast3 l) := rfl
def behindL (S : List (List Int)) (l : LF) : List (List Int) :=
  let r := S.getD l.1 []
  (S.set l.2.1 (S.getD l.2.1 [] ++ r.drop (r.length - l.2.2))).set l.1 (r.take (r.length - l.2.2))
theorem set_perm {α : Type} : ∀ (S : List (List α)) (i : Nat) (r : List α), i < S.length → ((S.set i r).flatten ++ S.getD i []).Perm (S.flatten ++ r)
  | [], i, r, h => by simp at h
  | x :: S, 0, r, h => by
    show ((r :: S).flatten ++ x).Perm ((x :: S).flatten ++ r)
    rw [List.flatten_cons, List.flatten_cons, List.append_assoc, List.append_assoc]
    have h1 : (r ++ (S.flatten ++ x)).Perm ((S.flatten ++ x) ++ r) := List.perm_append_comm
    have h2 : ((S.flatten ++ x) ++ r).Perm ((x ++ S.flatten) ++ r) := List.perm_append_comm.append_right r
    rw [List.append_assoc, List.append_assoc] at h2
    exact (h1.trans (by rw [List.append_assoc]; exact h2))
  | x :: S, i + 1, r, h => by
    show ((x :: S.set i r).flatten ++ S.getD i []).Perm ((x :: S).flatten ++ r)
    rw [List.flatten_cons, List.flatten_cons, List.append_assoc, List.append_assoc]
    exact (set_perm S i r (by simpa using h)).append_left x
theorem getD_set_ne {α : Type} {S : List (List α)} {i j : Nat} (h : i ≠ j) (r : List α) : (S.set i r).getD j [] = S.getD j [] := by
  rw [List.getD_eq_getElem?_getD, List.getD_eq_getElem?_getD, List.getElem?_set_ne h]
theorem getD_set_eq {α : Type} {S : List (List α)} {i : Nat} (h : i < S.length) (r : List α) : (S.set i r).getD i [] = r := by
  rw [List.getD_eq_getElem?_getD, List.getElem?_set_self h]; rfl
theorem behind_length (S : List (List Int)) (l : LF) : (behindL S l).length = S.length := by
  unfold behindL; rw [List.length_set, List.length_set]
theorem behind_perm {S : List (List Int)} {l : LF} (ha : l.1 < S.length) (hb : l.2.1 < S.length) (hab : l.1 ≠ l.2.1) : (behindL S l).flatten.Perm S.flatten := by
  obtain ⟨a, b, k⟩ := l
  simp only at ha hb hab
  unfold behindL
  simp only
  generalize hr : S.getD a [] = r
  generalize hn : r.length - k = n
  have h1 := set_perm (S.set b (S.getD b [] ++ r.drop n)) a (r.take n) (by rw [List.length_set]; exact ha)
  rw [getD_set_ne (Ne.symm hab), hr] at h1
  have h2 := set_perm S b (S.getD b [] ++ r.drop n) hb
  -- X ++ r ~ Y ++ take n ; Y ++ q ~ S ++ q ++ drop n
  have h3 : ((S.set b (S.getD b [] ++ r.drop n)).flatten).Perm (S.flatten ++ r.drop n) := by
    have h4 : ((S.set b (S.getD b [] ++ r.drop n)).flatten ++ S.getD b []).Perm ((S.flatten ++ r.drop n) ++ S.getD b []) := by
      refine h2.trans ?_
      rw [List.append_assoc]
      exact List.perm_append_comm.append_left _
    exact (List.perm_append_right_iff _).mp h4
  have h5 : (((S.set b (S.getD b [] ++ r.drop n)).set a (r.take n)).flatten ++ r).Perm (S.flatten ++ r) := by
    refine h1.trans ((h3.append_right _).trans ?_)
    rw [List.append_assoc]
    refine List.Perm.append_left _ ?_
    have := (List.perm_append_comm : (r.drop n ++ r.take n).Perm (r.take n ++ r.drop n))
    rw [List.take_append_drop] at this
    exact this
  exact (List.perm_append_right_iff _).mp h5
/-- the lifts from stack a to stack b that are let -/
def liftsAB (f : FL) (S : List (List Int)) (a b n : Nat) : List LF := ((List.range n).filter fun i => decide (a ≠ b) && goodF f (behindL S (a, b, i + 1))).map fun i => (a, b, i + 1)
def topN (f : FL) (S : List (List Int)) (a : Nat) : Nat := min f.2.2.1.toNat (S.getD a []).length
def liftsOf (f : FL) (S : List (List Int)) : List LF := (List.range S.length).flatMap fun a => (List.range S.length).flatMap fun b => liftsAB f S a b (topN f S a)
theorem fm_succ {α : Type} (f : Nat → List α) (n : Nat) : (List.range (n + 1)).flatMap f = (List.range n).flatMap f ++ f n := by
  rw [List.range_succ, List.flatMap_append]; simp
theorem fm_le {α : Type} (f : Nat → List α) (c : Nat) (h : ∀ i, (f i).length ≤ c) : ∀ n, ((List.range n).flatMap f).length ≤ n * c
  | 0 => by simp
  | n + 1 => by
    rw [fm_succ, List.length_append, Nat.succ_mul]
    have := fm_le f c h n
    have := h n
    omega
theorem lab_succ (f : FL) (S : List (List Int)) (a b n : Nat) : liftsAB f S a b (n + 1) = liftsAB f S a b n ++ if (decide (a ≠ b) && goodF f (behindL S (a, b, n + 1))) = true then [(a, b, n + 1)] else [] := by
  unfold liftsAB
  rw [List.range_succ, List.filter_append, List.map_append]
  congr 1
  by_cases h : (decide (a ≠ b) && goodF f (behindL S (a, b, n + 1))) = true
  · rw [if_pos h, List.filter_cons, if_pos h]; rfl
  · rw [if_neg h, List.filter_cons, if_neg h]; rfl
theorem lab_le (f : FL) (S : List (List Int)) (a b n : Nat) : (liftsAB f S a b n).length ≤ n := by
  unfold liftsAB
  rw [List.length_map]
  exact Nat.le_trans (List.length_filter_le _ _) (by rw [List.length_range]; exact Nat.le_refl _)
theorem mem_lab {f : FL} {S : List (List Int)} {a b n : Nat} {l : LF} : l ∈ liftsAB f S a b n ↔ l.1 = a ∧ l.2.1 = b ∧ a ≠ b ∧ 1 ≤ l.2.2 ∧ l.2.2 ≤ n ∧ goodF f (behindL S l) = true := by
  unfold liftsAB
  rw [List.mem_map]
  constructor
  · rintro ⟨i, hi, rfl⟩
    rw [List.mem_filter, List.mem_range, Bool.and_eq_true] at hi
    obtain ⟨h1, h2, h3⟩ := hi
    exact ⟨rfl, rfl, of_decide_eq_true h2, by simp, by simp only; omega, h3⟩
  · obtain ⟨x, y, z⟩ := l
    rintro ⟨rfl, rfl, h1, h2, h3, h4⟩
    simp only at *
    refine ⟨z - 1, ?_, by rw [Nat.sub_add_cancel h2]⟩
    rw [List.mem_filter, List.mem_range, Bool.and_eq_true]
    refine ⟨by omega, decide_eq_true h1, ?_⟩
    rw [Nat.sub_add_cancel h2]; exact h4
theorem mem_liftsOf {f : FL} {S : List (List Int)} {l : LF} : l ∈ liftsOf f S ↔ l.1 < S.length ∧ l.2.1 < S.length ∧ l.1 ≠ l.2.1 ∧ 1 ≤ l.2.2 ∧ l.2.2 ≤ topN f S l.1 ∧ goodF f (behindL S l) = true := by
  unfold liftsOf
  rw [List.mem_flatMap]
  constructor
  · rintro ⟨a, ha, h⟩
    rw [List.mem_flatMap] at h
    obtain ⟨b, hb, h⟩ := h
    rw [List.mem_range] at ha hb
    obtain ⟨rfl, rfl, h3, h4, h5, h6⟩ := mem_lab.mp h
    exact ⟨ha, hb, h3, h4, h5, h6⟩
  · rintro ⟨h1, h2, h3, h4, h5, h6⟩
    exact ⟨l.1, List.mem_range.mpr h1, List.mem_flatMap.mpr ⟨l.2.1, List.mem_range.mpr h2, mem_lab.mpr ⟨rfl, rfl, h3, h4, h5, h6⟩⟩⟩
theorem pl_l3 (l : L3) : Pl 1 (dL3 l) := .tup fun d hd => by
  rcases List.mem_cons.mp hd with e | hd
  · subst e; exact .int
  · rcases List.mem_cons.mp hd with e | hd
    · subst e; exact .int
    · rcases List.mem_cons.mp hd with e | hd
      · subst e; exact .int
      · cases hd
theorem pl_lfs (ls : List LF) : Pl 2 (.list (ls.map dLf)) := .lst (Pl.map fun l _ => pl_l3 (cast3 l))
theorem eqv_l3 (p q : L3) : PyData.eqv (dL3 p) (dL3 q) = decide (p = q) := by
  obtain ⟨a, b, c⟩ := p
  obtain ⟨a', b', c'⟩ := q
  simp only [PyData.eqv, PyData.eqvAll]
  by_cases h1 : a = a'
  · by_cases h2 : b = b'
    · by_cases h3 : c = c'
      · subst h1 h2 h3; simp
      · simp [h1, h2, h3]
    · simp [h1, h2]
  · simp [h1]
theorem any_l3 (ls : List LF) (q : L3) : ((ls.map dLf).any fun z => PyData.eqv z (dL3 q)) = decide (q ∈ ls.map cast3) := by
  induction ls with
  | nil => simp
  | cons p r ih =>
    show (PyData.eqv (dL3 (cast3 p)) (dL3 q) || (r.map dLf).any fun z => PyData.eqv z (dL3 q)) = _
    rw [ih, eqv_l3, List.map_cons]
    by_cases h : cast3 p = q
    · simp [h]
    · have h' : ¬ q = cast3 p := fun e => h e.symm
      simp [h, h']
theorem cast3_inj {l m : LF} (h : cast3 l = cast3 m) : l = m := by
  obtain ⟨a, b, c⟩ := l
  obtain ⟨a', b', c'⟩ := m
  simp only [cast3, Prod.mk.injEq] at h
  obtain ⟨h1, h2, h3⟩ := h
  have : a = a' := by omega
  have : b = b' := by omega
  have : c = c' := by omega
  subst_vars; rfl
theorem ixN_nat {n j : Nat} (hj : j < n) : ixN n (j : Int) = some j := by
  unfold ixN
  rw [if_pos (by omega), if_pos (by omega)]
  simp
theorem cut_from {xs : List PyData} {n : Nat} (h : n ≤ xs.length) : cutD xs (some (n : Int)) none = xs.drop n := by
  unfold cutD
  rw [HT.sIx_nat, HT.sIx_none, Nat.min_eq_left h]
  rw [List.take_of_length_le (by rw [List.length_drop]; exact Nat.le_refl _)]
theorem cut_to {xs : List PyData} {n : Nat} (h : n ≤ xs.length) : cutD xs none (some (n : Int)) = xs.take n := by
  unfold cutD
  rw [HT.sIx_nat, HT.sIx_none, Nat.min_eq_left h, List.drop_zero, Nat.sub_zero]
theorem st_at {S : List (List Int)} {j : Nat} (h : j < S.length) : (S.map dRow)[j]? = some (dRow (S.getD j [])) := by
  rw [List.getElem?_map, List.getElem?_eq_getElem h, List.getD_eq_getElem?_getD, List.getElem?_eq_getElem h] <;> rfl
theorem row_le {S : List (List Int)} (j : Nat) : (S.getD j []).length ≤ S.flatten.length := by
  rw [List.getD_eq_getElem?_getD]
  cases e : S[j]? with
  | none => simp
  | some r =>
    have h := flatten_take_le S (j + 1)
    rw [flatten_take e, List.length_append] at h
    simp only [Option.getD_some]
    omega
theorem good_len {f : FL} {S : List (List Int)} (h : goodF f S = true) : (S.length : Int) = f.1 := by
  unfold goodF good at h
  simp only [Bool.and_eq_true] at h
  exact of_decide_eq_true h.1.1.1
end G

namespace G
open PySem L2
theorem set_lem (σ : St) {i j : Nat} (hij : i ≠ j) (a b : Option V) : ((((σ.set j none).set i none).set i a).set j b) = (σ.set i a).set j b := by
  rw [List.set_set, List.set_comm none a (Ne.symm hij), List.set_set]
theorem set_lem2 (σ : St) {i j : Nat} (hij : i ≠ j) (a b : Option V) : ((((σ.set i a).set j b).set j none).set i none) = (σ.set j none).set i none := by
  rw [List.set_set, List.set_comm a none hij, List.set_set]
section
variable {X : Cx} {B : Bs} {ss : List SD} {e a b c : Expr} {es : List Expr} {pos p p2 p3 p4 p5 : Pos} {d x y z : PyData} {ds ds' : List PyData} {rest body orelse : List Stmt} {st : Stmt} {D : Ends}
/-- a list of pairs that stands still -/
def PIp (X : Cx) (B : Bs) (e : Expr) (ss : List SD) (ps : List (Int × Int)) : Prop := ∀ (σ : St) (F H : Hp), Sat X.K B ss σ F H → ∀ Q : VK,
  (∀ a vs F' H', Grow F H F' H' → (∀ H2, Same F' H2 → Same B.H0 H2 → SqL X.K H2 a vs ∧ RpAll X.K B.C H2 vs (dPrs ps)) → Q (.ref a) H') → tSem X e σ H Q
theorem PD.ips {ps : List (Int × Int)} (h : PD X B e ss (.list (dPrs ps))) : PIp X B e ss ps := fun σ F H s Q q => h σ F H s Q fun v F' H' g r => by
  cases r with
  | lst h1 h2 => exact q _ _ F' H' g fun H2 e _ => ⟨SqL.of (e _ _ h1), h2.mono e⟩
/-- a borrowed name, as things stand -/
theorem pb_bor (i : Nat) {x : Str} {d : PyData} (hN : X.N[i]? = some x := by rfl) (hs : ss[i]? = some (.bor d) := by rfl) (hv : Vis X.env.scope x := by first | exact Or.inl rfl | exact Or.inr (Or.inl rfl) | exact Or.inr (Or.inr rfl)) (hd : (x == ("__debug__" : Str)) = false := by decide)
    (hcd : (x == ("__classdict__" : Str)) = false := by decide) : PB X B (.Name x p) ss d := fun σ F H s Q q => by
  obtain ⟨v, e, r⟩ := s.slot i _ hs
  exact sem_of (pe_var hN hv hd hcd) ⟨v, e, q v F H (Grow.refl s.fh) (r.mono s.g.hh)⟩
theorem pip_bor (i : Nat) {x : Str} {ps : List (Int × Int)} (hN : X.N[i]? = some x := by rfl) (hs : ss[i]? = some (.bor (.list (dPrs ps))) := by rfl) (hv : Vis X.env.scope x := by first | exact Or.inl rfl | exact Or.inr (Or.inl rfl) | exact Or.inr (Or.inr rfl)) (hd : (x == ("__debug__" : Str)) = false := by decide)
    (hcd : (x == ("__classdict__" : Str)) = false := by decide) : PIp X B (.Name x p) ss ps := fun σ F H s Q q => by
  obtain ⟨v, e, r⟩ := s.slot i _ hs
  cases r with
  | lst h1 h2 => exact sem_of (pe_var hN hv hd hcd) ⟨_, e, q _ _ F H (Grow.refl s.fh) fun H2 _ e2 => ⟨SqL.of (e2 _ _ h1), h2.mono e2⟩⟩
/-- len of a borrowed list -/
theorem pd_lenB (ha : PB X B e ss (.list ds)) (hm : X.mg "len" = none) (hg : Gl X "len" := by rfl) (hn : NSt X e := by intro _; rfl) : PD X B (.Call (.Name "len" p) [e] [] pos) ss (.int ds.length) := fun σ F H s Q q =>
  sem_of (pe_callB call_len_seq hg hm PySem.boot_len (pa_cons pe_sem pa_nil (hn [])) (by decide) (by decide) (hn []) rfl) (ha σ F H s _ fun v F1 H1 g r => by
    cases r with
    | lst h1 h2 => exact ⟨_, _, rfl, .inl (SqL.of h1), q _ F1 H1 g (by rw [h2.length]; exact .int _)⟩)
/-- the state with a pair in two slots -/
abbrev set2 (ss : List SD) (i j : Nat) (u : Int × Int) : List SD := (ss.set i (.dat (.int u.1))).set j (.dat (.int u.2))
abbrev gPair (K : PySem.W.Frag) (i j : Nat) : TG := gTup K 2 (gCons (gName i) (gCons (gName j) gNil))
theorem go_for2 {ps : List (Int × Int)} (i j : Nat) {x y : Str} {kx : Nat} (J : Nat → List SD → Prop) (cx : Cxt X) (he : PIp X B e ss ps) (h0 : J 0 ss)
    (hb : ∀ (Fp : Hp) (n : Nat) (u : Int × Int) (ss' : List SD), ps[n]? = some u → J n ss' → Go X (B.pinned Fp) body (set2 ss' i j u) (lpE X (B.pinned Fp) (J (n + 1)) rest D))
    (hd : ∀ ss', J ps.length ss' → Go X B rest ss' D)
    (hps : ∀ wi, PI X (.Tuple [.Name x p, .Name y p2] kx p3) e wi → PS X (.For (.Tuple [.Name x p, .Name y p2] kx p3) e body [] pos) (tFor wi (gPair X.K i j) (tSS X body)) := by
      intro _ hw; exact ps_for (Cxt.pass (by assumption)) (Cxt.calm (by assumption)) hw (pg_tup (Cxt.calm (by assumption)) (pgs_cons (pg_name (Cxt.nd (by assumption)) (by rfl) (by first | exact Or.inl rfl | exact Or.inr rfl)) (pgs_cons (pg_name (Cxt.nd (by assumption)) (by rfl) (by first | exact Or.inl rfl | exact Or.inr rfl)) pgs_nil))) pss_sem) :
    Go X B (.For (.Tuple [.Name x p, .Name y p2] kx p3) e body [] pos :: rest) ss D :=
  go_step (hps _ (pi_list pe_sem)) fun σ F H s => he σ F H s _ fun a vs F1 H1 g sq => by
    have s1 := s.grow g
    have pn : Same B.Fp F1 := s.pin.trans g.ff
    obtain ⟨sq1, r1⟩ := sq H1 g.fh s1.g.hh
    have ll : vs.length = ps.length := by rw [r1.length, List.length_map]
    refine ⟨a, rfl, ⟨vs, sq1⟩, for_list (K := X.K) (a := a) (xs := vs) (fun n => Mid X (B.pinned F1) (J n)) ⟨F1, ss, h0, s1.pinned⟩ (fun n σ' H' _ ⟨F', ss', j', s'⟩ => (sq H' (s'.pin.trans s'.fh) s'.g.hh).1) (fun n w σ' H' hi ⟨F', ss', j', s'⟩ => ?_) (by rw [ll]; exact fun σ' H' ⟨F', ss', j', s'⟩ => hd ss' j' σ' F' H' (s'.unpin pn))⟩
    obtain ⟨_, r2⟩ := sq H' (s'.pin.trans s'.fh) s'.g.hh
    obtain ⟨d, hd', rd⟩ := RpAll.getV r2 hi
    rw [List.getElem?_map] at hd'
    cases hu : ps[n]? with
    | none => rw [hu] at hd'; cases hd'
    | some u =>
      rw [hu] at hd'
      cases hd'
      cases rd with
      | tup h1 h2 =>
        cases h2 with
        | cons e1 t1 =>
          cases t1 with
          | cons e2 t2 =>
            cases t2
            cases e1
            cases e2
            refine ⟨_, _, rfl, h1, rfl, _, _, rfl, _, _, rfl, rfl, ?_⟩
            exact hb F1 n u ss' hu j' _ F' H' ((s'.set_dat (.int _)).set_dat (.int _))
/-- [e for x, y in a] -/
theorem pl_lc2 {ps : List (Int × Int)} {g : Int × Int → PyData} (i j : Nat) {x y : Str} {kx : Nat} {scope : Scope} (cx : Cxt X) (he : PIp X B a ss ps)
    (hel : ∀ (Fp : Hp) (u : Int × Int), u ∈ ps → ∀ (s : Shared) (H' : Hp) (C : Addr) (cl : List (Str × Addr)) (fp : List Addr), PD (Blk X scope s H' C cl fp) (B.pinned Fp) e (set2 ss i j u) (g u))
    (hz : ps.length < sizeLine) (hij : i ≠ j) (nr : noRaw ss = true := by rfl)
    (hok : BlkOk X.N X.env.scope scope [(x, i), (y, j)] := by exact blkOk_by (by kernel_rfl))
    (hpg : X.calm = true → X.N.Nodup → ∀ (s : Shared) (H' : Hp) (C : Addr) (cl : List (Str × Addr)) (fp : List Addr), PG (Blk X scope s H' C cl fp) (.Tuple [.Name x p, .Name y p2] kx p3) (gPair X.K i j) := by
      intro hcl hnd _ _ _ _ _; exact pg_tup hcl (pgs_cons (pg_name hnd (by rfl) (Or.inl rfl)) (pgs_cons (pg_name hnd (by rfl) (Or.inl rfl)) pgs_nil)))
    (hs : ∀ x, foldedSetIterable a X.env x = pure x := by intro _; rfl) :
    PLc X B (.ListComp e [⟨.Tuple [.Name x p, .Name y p2] kx p3, a, [], 0⟩] scope pos) ss (ps.map g) :=
  ⟨_, _, _, _, _, _, _, _, _, _, [(x, i), (y, j)], rfl, pi_list pe_sem, hok, hpg cx.calm cx.nd, fun _ _ _ _ _ => pts_nil, fun s H' C cl fp => (⟨fun pins s1 σ H Q I h => h s H' C cl fp pins s1 I⟩ : PE _ e (tBlk X scope e)), hs, fun σ F H s Q q => he σ F H s _ fun l vs F1 H1 g1 sq => by
    have s1 := s.grow g1
    obtain ⟨sq1, r1⟩ := sq H1 g1.fh s1.g.hh
    have ll : vs.length = ps.length := by rw [r1.length, List.length_map]
    refine ⟨l, rfl, ⟨vs, sq1⟩, fun Dl hD => ?_⟩
    have ap : ∀ (i : Nat) (es : List PyData), ss[i]? = some (.own es) → σ[i]? ≠ some (some (.ref Dl)) := fun i es e1 e2 => by
      obtain ⟨a', ws, ea, _, _, h2, _⟩ := s1.slot i _ e1
      rw [e2] at ea
      injection ea with ea
      injection ea with ea
      injection ea with ea
      subst ea
      rw [hD] at h2; cases h2
    have hF1 : F1 Dl = none := g1.fh.free hD
    have hB0 : B.H0 Dl = none := s1.g.hh.free hD
    have hH : H Dl = none := g1.hh.free hD
    refine lc_list (K := X.K) (a := l) (xs := vs) (fun i H' => ∃ F' acc, Sat X.K (B.pinned F1) ss σ F' H' ∧ Grow F H F' H' ∧ F' Dl = none ∧ H' Dl = some (.lst acc) ∧ RpAll X.K B.C F' acc ((ps.take i).map g))
      ⟨F1, [], s1.pinned.upd hB0 hF1 nr ap, g1.trans (Grow.newO g1.fh hD), hF1, upd_same, ?_⟩ ?_ ?_ ?_
    · rw [List.take_zero]; exact .nil
    · rintro i H' _ ⟨F', acc, s', _, _⟩
      exact (sq H' (s'.pin.trans s'.fh) s'.g.hh).1
    · rintro n w H' hi ⟨F', acc, s', g', n', h', r'⟩
      obtain ⟨_, r2⟩ := sq H' (s'.pin.trans s'.fh) s'.g.hh
      obtain ⟨d, hd', rd⟩ := RpAll.getV r2 hi
      rw [List.getElem?_map] at hd'
      cases hu : ps[n]? with
      | none => rw [hu] at hd'; cases hd'
      | some u =>
        rw [hu] at hd'
        cases hd'
        have hil : n < ps.length := (List.getElem?_eq_some_iff.mp hu).1
        have tk : ps.take (n + 1) = ps.take n ++ [u] := by rw [List.take_add_one, hu]; rfl
        have al : acc.length ≤ n := by rw [r'.length, List.length_map, List.length_take]; omega
        cases rd with
        | tup h1 h2 =>
          cases h2 with
          | cons e1 t1 =>
            cases t1 with
            | cons e2 t2 =>
              cases t2
              cases e1
              cases e2
              have wset : ((wipe σ [i, j]).set i (some (V.int u.1))).set j (some (V.int u.2)) = (σ.set i (some (V.int u.1))).set j (some (V.int u.2)) := set_lem σ hij _ _
              refine ⟨_, _, rfl, h1, rfl, _, _, rfl, _, _, rfl, rfl, ?_⟩
              simp only [gName, List.map_cons, List.map_nil]
              show wipe (((wipe σ [i, j]).set i (some (V.int u.1))).set j (some (V.int u.2))) [i, j] = wipe σ [i, j] ∧ _
              rw [wset]
              refine ⟨?_, ?_⟩
              · exact set_lem2 σ hij _ _
              · simp only [tYes, ↓reduceIte]
                intro s5 H5 C5 cl5 fp5
                refine hel F1 u (List.mem_of_getElem? hu) s5 H5 C5 cl5 fp5 _ F' H' ((s'.set_dat (.int _)).set_dat (.int _)) _ fun z F4 H4 g4 r4 => ?_
                have n4 := g4.own _ _ h' n'
                refine ⟨acc, g4.hh _ _ h', Nat.lt_of_le_of_lt al (Nat.lt_trans hil hz), F4, acc ++ [z], (s'.grow g4).upd hB0 n4 nr ap (nx_lst (g4.hh _ _ h')), ?_, n4, upd_same, ?_⟩
                · exact ⟨fun b o e => by rw [upd_ne (ne_of_none e hH)]; exact (g'.trans g4).hh b o e, (g'.trans g4).ff, fun b o e => by rw [upd_ne (ne_of_none e n4)]; exact g4.fh b o e, (g'.trans g4).own⟩
                · rw [tk, List.map_append]
                  exact (r'.mono g4.ff).app (.one r4)
    · rintro H' ⟨F', acc, s', g', n', h', r'⟩
      rw [ll, List.take_length] at r'
      exact q Dl acc F' H' g' hH n' h' r'⟩
end
end G

namespace G
open PySem L2
/-! ### sorted(set(pairs)) -/
def ltP2 (p q : Int × Int) : Prop := p.1 < q.1 ∨ (p.1 = q.1 ∧ p.2 < q.2)
instance (p q : Int × Int) : Decidable (ltP2 p q) := inferInstanceAs (Decidable (_ ∨ _))
def insP (a : Int × Int) : List (Int × Int) → List (Int × Int)
  | [] => [a]
  | b :: r => if ltP2 a b then a :: b :: r else if a = b then b :: r else b :: insP a r
def sdedup : List (Int × Int) → List (Int × Int)
  | [] => []
  | a :: r => insP a (sdedup r)
theorem mem_insP (a x : Int × Int) : ∀ l, x ∈ insP a l ↔ x = a ∨ x ∈ l
  | [] => by simp [insP]
  | b :: r => by
    unfold insP
    split
    · simp
    · split
      · rename_i h
        subst h
        simp
      · rw [List.mem_cons, mem_insP a x r, List.mem_cons]
        constructor
        · rintro (h | h | h)
          · exact .inr (.inl h)
          · exact .inl h
          · exact .inr (.inr h)
        · rintro (h | h | h)
          · exact .inr (.inl h)
          · exact .inl h
          · exact .inr (.inr h)
theorem mem_sdedup (x : Int × Int) : ∀ l, x ∈ sdedup l ↔ x ∈ l
  | [] => Iff.rfl
  | a :: r => by unfold sdedup; rw [mem_insP, mem_sdedup x r, List.mem_cons]
theorem ltP2_trans {a b c : Int × Int} (h : ltP2 a b) (k : ltP2 b c) : ltP2 a c := by
  unfold ltP2 at *
  omega
theorem ltP2_irr {a : Int × Int} : ¬ ltP2 a a := by unfold ltP2; omega
theorem ltP2_tri (a b : Int × Int) : ltP2 a b ∨ a = b ∨ ltP2 b a := by
  obtain ⟨x, y⟩ := a
  obtain ⟨z, w⟩ := b
  unfold ltP2
  simp only [Prod.mk.injEq]
  omega
theorem insP_sorted (a : Int × Int) : ∀ l : List (Int × Int), l.Pairwise ltP2 → (insP a l).Pairwise ltP2
  | [], _ => by unfold insP; exact List.pairwise_singleton _ _
  | b :: r, h => by
    unfold insP
    have h' := List.pairwise_cons.mp h
    split
    · rename_i hab
      refine List.pairwise_cons.mpr ⟨fun x hx => ?_, h⟩
      rcases List.mem_cons.mp hx with e | hx
      · subst e; exact hab
      · exact ltP2_trans hab (h'.1 x hx)
    · split
      · exact h
      · rename_i h1 h2
        refine List.pairwise_cons.mpr ⟨fun x hx => ?_, insP_sorted a r h'.2⟩
        rcases (mem_insP a x r).mp hx with e | hx
        · subst e
          rcases ltP2_tri x b with q | q | q
          · exact absurd q h1
          · exact absurd q h2
          · exact q
        · exact h'.1 x hx
theorem sdedup_sorted : ∀ l, (sdedup l).Pairwise ltP2
  | [] => List.Pairwise.nil
  | a :: r => insP_sorted a _ (sdedup_sorted r)
theorem srtP_one : ∀ {l m : List (Int × Int)}, l.Pairwise ltP2 → m.Pairwise ltP2 → (∀ x, x ∈ l ↔ x ∈ m) → l = m
  | [], [], _, _, _ => rfl
  | [], b :: m, _, _, h => by have := (h b).mpr List.mem_cons_self; cases this
  | a :: l, [], _, _, h => by have := (h a).mp List.mem_cons_self; cases this
  | a :: l, b :: m, h1, h2, h => by
    rw [List.pairwise_cons] at h1 h2
    have hab : a = b := by
      rcases List.mem_cons.mp ((h a).mp List.mem_cons_self) with e | ha
      · exact e
      · rcases List.mem_cons.mp ((h b).mpr List.mem_cons_self) with e | hb
        · exact e.symm
        · exact absurd (ltP2_trans (h1.1 b hb) (h2.1 a ha)) ltP2_irr
    subst hab
    rw [srtP_one h1.2 h2.2 fun x => ⟨fun hx => ?_, fun hx => ?_⟩]
    · rcases List.mem_cons.mp ((h x).mp (List.mem_cons_of_mem _ hx)) with e | k
      · subst e; exact absurd (h1.1 _ hx) ltP2_irr
      · exact k
    · rcases List.mem_cons.mp ((h x).mpr (List.mem_cons_of_mem _ hx)) with e | k
      · subst e; exact absurd (h2.1 _ hx) ltP2_irr
      · exact k
theorem sdedup_is {l m : List (Int × Int)} (h : l.Pairwise ltP2) (k : ∀ x, x ∈ l ↔ x ∈ m) : l = sdedup m :=
  srtP_one h (sdedup_sorted m) fun x => (k x).trans (mem_sdedup x m).symm
theorem insP_len (a : Int × Int) : ∀ l, (insP a l).length ≤ l.length + 1
  | [] => Nat.le_refl _
  | b :: r => by
    unfold insP
    split
    · exact Nat.le_refl _
    · split
      · exact Nat.le_succ _
      · rw [List.length_cons, List.length_cons]; have := insP_len a r; omega
theorem sdedup_len : ∀ l, (sdedup l).length ≤ l.length
  | [] => Nat.le_refl _
  | a :: r => Nat.le_trans (insP_len a _) (Nat.succ_le_succ (sdedup_len r))
def pl2 (p : Int × Int) : List Int := [p.1, p.2]
theorem pl2_inj {p q : Int × Int} (h : pl2 p = pl2 q) : p = q := by
  obtain ⟨a, b⟩ := p
  obtain ⟨c, d⟩ := q
  simp only [pl2, List.cons.injEq, and_true] at h
  exact Prod.ext h.1 h.2
/-- the pairs of a list, as the library's rules name them -/
theorem rp_pairs {K : PySem.W.Frag} {C : Addr} {H : Hp} : ∀ {vs : List V} {ps : List (Int × Int)}, RpAll K C H vs (dPrs ps) →
    ∃ ks : List (Addr × List Int), vs = ks.map (fun p => V.ref p.1) ∧ ks.map (·.2) = ps.map pl2 ∧ ∀ p ∈ ks, SqT K H p.1 (p.2.map V.int)
  | _, [], .nil => ⟨[], rfl, rfl, fun _ h => nomatch h⟩
  | _, p :: ps, .cons h t => by
    obtain ⟨ks, e1, e2, e3⟩ := rp_pairs t
    cases h with
    | tup h1 h2 =>
      rename_i a _
      cases h2 with
      | cons r1 t1 =>
        cases t1 with
        | cons r2 t2 =>
          cases t2
          cases r1
          cases r2
          refine ⟨(a, pl2 p) :: ks, by rw [e1]; rfl, by rw [List.map_cons, e2]; rfl, fun q hq => ?_⟩
          rcases List.mem_cons.mp hq with e | hq
          · subst e; exact h1
          · exact e3 q hq
theorem pairs_rp {K : PySem.W.Frag} {C : Addr} {H : Hp} : ∀ {ks : List (Addr × List Int)} {ps : List (Int × Int)}, ks.map (·.2) = ps.map pl2 → (∀ p ∈ ks, SqT K H p.1 (p.2.map V.int)) → RpAll K C H (ks.map fun p => V.ref p.1) (dPrs ps)
  | [], [], _, _ => .nil
  | [], _ :: _, e, _ => by cases e
  | _ :: _, [], e, _ => by cases e
  | k :: ks, p :: ps, e, h => by
    rw [List.map_cons, List.map_cons] at e
    injection e with e1 e2
    refine .cons ?_ (pairs_rp e2 fun q hq => h q (List.mem_cons_of_mem _ hq))
    have h1 := h k List.mem_cons_self
    rw [show k.2 = pl2 p from e1] at h1
    exact .tup h1 (.cons (.int _) (.cons (.int _) .nil))
theorem of_pl2 : ∀ {l : List (List Int)} {ps : List (Int × Int)}, (∀ x ∈ l, x ∈ ps.map pl2) → ∃ qs : List (Int × Int), l = qs.map pl2 ∧ ∀ q ∈ qs, q ∈ ps
  | [], _, _ => ⟨[], rfl, fun _ h => nomatch h⟩
  | x :: l, ps, h => by
    obtain ⟨qs, e, k⟩ := of_pl2 (l := l) fun y hy => h y (List.mem_cons_of_mem _ hy)
    obtain ⟨q, hq, eq⟩ := List.mem_map.mp (h x List.mem_cons_self)
    refine ⟨q :: qs, by rw [List.map_cons, e, eq], fun y hy => ?_⟩
    rcases List.mem_cons.mp hy with z | hy
    · subst z; exact hq
    · exact k y hy
section
variable {X : Cx} {B : Bs} {ss : List SD} {e a b c : Expr} {pos p p2 p3 p4 p5 : Pos}
theorem pn_sortedSet {ps : List (Int × Int)} {q : Pos} (cx : Cxt X) (ha : PLi X B a ss (dPrs ps)) (hz : ps.length < 64) (hb : ∀ u ∈ ps, (0 ≤ u.1 ∧ u.1 < 64) ∧ 0 ≤ u.2 ∧ u.2 < 64) (hm : X.mg "sorted" = none) (hm2 : X.mg "set" = none)
    (hv : bootBuiltins "sorted" = some (.builtin "sorted") := by decide +kernel) (hv2 : bootBuiltins "set" = some (.type "set") := by decide +kernel) (hg : Gl X "sorted" := by rfl) (hg2 : Gl X "set" := by rfl)
    (na : NSt X a := by intro _; rfl) (na2 : NSt X (.Call (.Name "set" p2) [a] [] q) := by intro _; rfl) : PN X B (.Call (.Name "sorted" p) [.Call (.Name "set" p2) [a] [] q] [] pos) ss (dPrs (sdedup ps)) := fun σ F H s Q k => by
  have hset : PE X (.Call (.Name "set" p2) [a] [] q) (tCB (rSetOfT X.K X.prog X.w) (tCons (tSem X a) tNil)) :=
    pe_callTy (cr_setOfT cx.calm (by have := cx.units; omega)) hg2 hm2 hv2 (pa_cons pe_sem pa_nil (na [])) (by decide) (by decide) (na []) rfl
  refine sem_of (pe_callB (cr_sortedT cx.calm) hg hm hv (pa_cons hset pa_nil (na2 [])) (by decide) (by decide) (na2 []) rfl) (ha σ F H s _ fun l vs F1 H1 g1 sq r1 => ?_)
  obtain ⟨ks, e1, e2, e3⟩ := rp_pairs (r1.mono g1.fh)
  obtain ⟨ks', e1', e2', e3'⟩ := rp_pairs r1
  have hkk : ks = ks' := by
    have h1 : ks.map (fun p => V.ref p.1) = ks'.map (fun p => V.ref p.1) := e1.symm.trans e1'
    have h2 : ks.map (·.2) = ks'.map (·.2) := e2.trans e2'.symm
    clear e1 e2 e3 e1' e2' e3'
    induction ks generalizing ks' with
    | nil => cases ks' with
      | nil => rfl
      | cons _ _ => cases h1
    | cons x r ih => cases ks' with
      | nil => cases h1
      | cons y t =>
        rw [List.map_cons, List.map_cons] at h1 h2
        injection h1 with h1 h1'
        injection h2 with h2 h2'
        injection h1 with h1
        rw [ih t h1' h2', Prod.ext h1 h2]
  subst hkk
  have hkl : ks.length = ps.length := by
    have := congrArg List.length e2
    rwa [List.length_map, List.length_map] at this
  have hks : ∀ q ∈ ks, ∃ u ∈ ps, q.2 = pl2 u := fun q hq => by
    have : q.2 ∈ ps.map pl2 := by rw [← e2]; exact List.mem_map_of_mem hq
    obtain ⟨u, hu, e⟩ := List.mem_map.mp this
    exact ⟨u, hu, e.symm⟩
  refine ⟨l, ks, rfl, by rw [← e1]; exact sq, e3, by omega, fun t L ht hL1 hL2 => ?_⟩
  have gt : Grow F1 H1 F1 (upd H1 t (SetTO X.prog X.w t L)) := Grow.newO g1.fh ht
  refine ⟨t, L, 2, 64, rfl, upd_same, fun p hp => Same.sqt gt.hh (e3 p (hL1 p hp)), by decide, fun p hp => ?_, fun L' t' hperm hnd hl64 hpw ht' => ?_⟩
  · obtain ⟨u, hu, e⟩ := hks p (hL1 p hp)
    rw [e]
    obtain ⟨h1, h2⟩ := hb u hu
    refine ⟨rfl, ?_⟩
    intro x hx
    rcases List.mem_cons.mp hx with z | hx
    · subst z; exact h1
    · rcases List.mem_cons.mp hx with z | hx
      · subst z; exact h2
      · cases hx
  · have hL'ks : ∀ p ∈ L', p ∈ ks := fun p hp => hL1 p (hperm.mem_iff.mp hp)
    obtain ⟨qs, eq1, eq2⟩ := of_pl2 (l := L'.map (·.2)) (ps := ps) fun x hx => by
      obtain ⟨p, hp, e⟩ := List.mem_map.mp hx
      obtain ⟨u, hu, e'⟩ := hks p (hL'ks p hp)
      rw [← e, e']; exact List.mem_map_of_mem hu
    have hqs : qs = sdedup ps := by
      refine sdedup_is ?_ fun x => ⟨fun hx => eq2 x hx, fun hx => ?_⟩
      · have nd2 : (qs.map pl2).Nodup := eq1 ▸ hnd
        have pw2 : (L'.map (·.2)).Pairwise (fun q r => TS.code 64 q ≤ TS.code 64 r) := List.pairwise_map.mpr hpw
        rw [eq1] at pw2
        have both := (List.pairwise_map.mp pw2).and (List.pairwise_map.mp nd2)
        refine List.Pairwise.imp_of_mem (fun {a b} ha hb' h => ?_) both
        have b1 := hb a (eq2 a ha)
        have b2 := hb b (eq2 b hb')
        exact pair_lt h.1 h.2 b1.1 b1.2 b2.1 b2.2
      · have hx' : pl2 x ∈ ks.map (·.2) := by rw [e2]; exact List.mem_map_of_mem hx
        obtain ⟨p, hp, e⟩ := List.mem_map.mp hx'
        have h3 := hL2 p hp
        obtain ⟨p', hp', e'⟩ := List.mem_map.mp h3
        have h4 : p'.2 ∈ L'.map (·.2) := List.mem_map_of_mem (hperm.mem_iff.mpr hp')
        rw [e', e, eq1] at h4
        obtain ⟨y, hy, ey⟩ := List.mem_map.mp h4
        rw [← pl2_inj ey]; exact hy
    subst hqs
    exact k t' _ F1 _ ((g1.trans gt).trans (Grow.newO gt.fh ht')) (g1.hh.free (gt.hh.free ht')) (g1.fh.free (gt.hh.free ht')) upd_same (pairs_rp eq1 fun p hp => e3' p (hL'ks p hp))
end
end G

namespace G
open PySem L2
/-! ### defs whose arguments are borrowed -/
inductive ArgsOk (K : PySem.W.Frag) (C : Addr) (F H : Hp) : List V → List SD → Prop
  | nil : ArgsOk K C F H [] []
  | dat {v : V} {vs : List V} {d : PyData} {ss : List SD} : Rp K C F v d → ArgsOk K C F H vs ss → ArgsOk K C F H (v :: vs) (.dat d :: ss)
  | bor {v : V} {vs : List V} {d : PyData} {ss : List SD} : Rp K C H v d → ArgsOk K C F H vs ss → ArgsOk K C F H (v :: vs) (.bor d :: ss)
theorem ArgsOk.length {K : PySem.W.Frag} {C : Addr} {F H : Hp} {vs : List V} {ss : List SD} (h : ArgsOk K C F H vs ss) : vs.length = ss.length := by
  induction h with
  | nil => rfl
  | dat _ _ ih => exact congrArg (· + 1) ih
  | bor _ _ ih => exact congrArg (· + 1) ih
theorem ArgsOk.noOwn {K : PySem.W.Frag} {C : Addr} {F H : Hp} {vs : List V} {ss : List SD} (h : ArgsOk K C F H vs ss) : ∀ (i : Nat) (ds : List PyData), ss[i]? ≠ some (.own ds) := by
  induction h with
  | nil => intro i ds e; simp at e
  | dat _ _ ih =>
    intro i ds e
    cases i with
    | zero => simp at e
    | succ i => exact ih i ds (by simpa using e)
  | bor _ _ ih =>
    intro i ds e
    cases i with
    | zero => simp at e
    | succ i => exact ih i ds (by simpa using e)
theorem ArgsOk.get {K : PySem.W.Frag} {C : Addr} {F H : Hp} {vs : List V} {ss : List SD} (h : ArgsOk K C F H vs ss) : ∀ (i : Nat) (sd : SD), ss[i]? = some sd → ∃ v, vs[i]? = some v ∧ SlotOk K ⟨C, F, H, F⟩ F H sd (some (some v)) := by
  induction h with
  | nil => intro i sd e; simp at e
  | @dat v vs d ss r _ ih =>
    intro i sd e
    cases i with
    | zero => cases Option.some.inj (by simpa using e); exact ⟨v, rfl, v, rfl, r⟩
    | succ i =>
      obtain ⟨v, h1, h2⟩ := ih i sd (by simpa using e)
      exact ⟨v, by simpa using h1, h2⟩
  | @bor v vs d ss r _ ih =>
    intro i sd e
    cases i with
    | zero => cases Option.some.inj (by simpa using e); exact ⟨v, rfl, v, rfl, r⟩
    | succ i =>
      obtain ⟨v, h1, h2⟩ := ih i sd (by simpa using e)
      exact ⟨v, by simpa using h1, h2⟩
def spG {α : Type} (K : PySem.W.Frag) (C : Addr) (args : α → List SD) (pre : α → Prop) (out : α → Out) : Sp := fun vs H Q E =>
  ∃ (x : α) (F : Hp), pre x ∧ Same F H ∧ ArgsOk K C F H vs (args x) ∧ OutK K C F H Q E (out x)
theorem sat_startG {K : PySem.W.Frag} {C : Addr} {F H : Hp} {vs : List V} {as : List SD} {N : List Str} (hf : Same F H) (r : ArgsOk K C F H vs as) (hl : as.length ≤ N.length) :
    Sat K ⟨C, F, H, F⟩ (as ++ List.replicate (N.length - as.length) SD.un) (L2.start N vs) F H where
  g := Grow.refl hf
  pin := Same.refl _
  len := by
    unfold L2.start
    rw [List.length_append, List.length_append, List.length_map, List.length_replicate, List.length_replicate, r.length]
  slot := fun i sd e => by
    by_cases hi : i < as.length
    · rw [List.getElem?_append_left hi] at e
      obtain ⟨v, hv, rv⟩ := r.get i sd e
      rw [start_get hv]
      exact rv
    · rw [List.getElem?_append_right (by omega), List.getElem?_replicate] at e
      split at e
      · cases e; trivial
      · cases e
  ne := fun i j xs ys hij e1 e2 => by
    exfalso
    by_cases hi : i < as.length
    · rw [List.getElem?_append_left hi] at e1
      exact r.noOwn i xs e1
    · rw [List.getElem?_append_right (by omega), List.getElem?_replicate] at e1
      split at e1
      · cases e1
      · cases e1
section
variable {P : Program} {w : World} {K : PySem.W.Frag} {mg : Str → Option Value} {base : Heap}
theorem ok_fnG {x qual : Str} {st : Stmt} {f : Addr} {fd : FuncData} {N ps : List Str} {k : Nat} {C : Addr} {α : Type} {args : α → List SD} {pre : α → Prop} {out : α → Out} (F : L2.Fun K x qual st f fd) (S : FnScope N ps (defScope st)) (hl : ∀ a, (args a).length = ps.length)
    (body : ∀ (cdv : Value) (A : Around) (outer : List Env) (s : Shared) (H F0 : Hp) (u : α) (Q : VK) (E : XK) (X : Cx) (hX : X = cxOf (L2.CX P w) P w K mg base N qual (defScope st) f cdv A outer s H E), Cxt X → Room k X.A → Takes X (dW E) → pre u → OutK K C F0 H Q E (out u) →
      Go X ⟨C, F0, H, F0⟩ (defBody st) (args u ++ List.replicate (N.length - (args u).length) SD.un) (dE Q)) :
    FnOk P w K mg base (L2.CX P w) (k + 1) f fd ps (spG K C args pre out) := by
  have hNl : ps.length ≤ N.length := by have := congrArg List.length S.pre; rw [List.length_take] at this; omega
  refine F.okX S (fun vs H Q E h => ?_) (fun cdv A outer s H vs Q E hr h => ?_)
  · obtain ⟨u, F0, _, _, r, _⟩ := h
    rw [r.length, hl]
  · obtain ⟨u, F0, hp, hf, r, ho⟩ := h
    refine ⟨_, pss_sem, ?_⟩
    have cx : Cxt (cxOf (L2.CX P w) P w K mg base N qual (defScope st) f cdv A outer s H E) := ⟨rfl, S.nd, passes_of rfl, by have := hr.un; show (A.deeper _).units + 65 < cLine; omega⟩
    exact body cdv A outer s H F0 u Q E _ rfl cx hr (takes_of rfl rfl rfl rfl) hp ho _ F0 H (sat_startG hf r (by rw [hl]; exact hNl))
end
section
variable {X : Cx} {B : Bs} {ss : List SD} {e a b c : Expr} {es : List Expr} {pos p p2 p3 p4 : Pos} {d x y z : PyData} {ds ds' : List PyData} {rest body orelse : List Stmt} {st : Stmt} {D : Ends}
  {α : Type} {args : α → List SD} {pre : α → Prop} {out : α → Out} {fn : Str} {k : Nat}
def PGa (X : Cx) (B : Bs) (es : List Expr) (ss : List SD) (as : List SD) : Prop := ∀ (σ : St) (F H : Hp), Sat X.K B ss σ F H → ∀ Q : List V → Hp → Prop, (∀ vs F' H', Grow F H F' H' → ArgsOk X.K B.C F' H' vs as → Q vs H') → tSemA X es σ H Q
theorem ArgsOk.mono {K : PySem.W.Frag} {C : Addr} {F H F' H' : Hp} {vs : List V} {as : List SD} (h : ArgsOk K C F H vs as) (g : Grow F H F' H') : ArgsOk K C F' H' vs as := by
  induction h with
  | nil => exact .nil
  | dat r _ ih => exact .dat (r.mono g.ff) ih
  | bor r _ ih => exact .bor (r.mono g.hh) ih
theorem pga_nil : PGa X B [] ss [] := fun σ F H s Q q => semA_of pa_nil (q [] F H (Grow.refl s.fh) .nil)
theorem pga_dat {as : List SD} (h : PD X B e ss d) (t : PGa X B es ss as) (hn : NSt X e := by intro _; rfl) : PGa X B (e :: es) ss (.dat d :: as) := fun σ F H s Q q =>
  semA_of (pa_cons pe_sem pa_sem (hn es)) (h σ F H s _ fun v F1 H1 g1 r1 => t σ F1 H1 (s.grow g1) _ fun vs F2 H2 g2 r2 => q (v :: vs) F2 H2 (g1.trans g2) (.dat (r1.mono g2.ff) r2))
theorem pga_bor {as : List SD} (h : PB X B e ss d) (t : PGa X B es ss as) (hn : NSt X e := by intro _; rfl) : PGa X B (e :: es) ss (.bor d :: as) := fun σ F H s Q q =>
  semA_of (pa_cons pe_sem pa_sem (hn es)) (h σ F H s _ fun v F1 H1 g1 r1 => t σ F1 H1 (s.grow g1) _ fun vs F2 H2 g2 r2 => q (v :: vs) F2 H2 (g1.trans g2) (.bor (r1.mono g2.hh) r2))
theorem pd_callG (cf : Cal X.prog X.w X.K X.mg X.base fn k (spG X.K B.C args pre out)) (hr : Room k X.A) (u : α) (ha : PGa X B (e :: es) ss (args u)) (ho : out u = .val d) (hp : pre u)  (hg : Gl X fn := by rfl)
    (hdb : (fn == ("__debug__" : Str)) = false := by decide) (he : starEach (e :: es) X.env = (false, eval e X.env) :: starEach es X.env := by rfl) (hpl : (backTo pos (starEach es X.env)).any (·.1) = false := by rfl) :
    PD X B (.Call (.Name fn p) (e :: es) [] pos) ss d := fun σ F H s Q q => by
  obtain ⟨f, fd, ps, F0, hm, hk, hb⟩ := cf
  refine sem_of (pe_call (dvs := []) (ds := []) F0 hr hg hm hk hb .nil passL pa_sem hdb he hpl) (ha σ F H s _ fun vs F1 H1 g r => ?_)
  refine ⟨u, F1, hp, g.fh, by rw [List.append_nil]; exact r, ?_⟩
  rw [ho]
  exact fun v F2 H2 g2 r2 => q v F2 H2 (g.trans g2) r2
theorem px_callG {W : WX} {cc : Addr} (tk : Takes X W) (cf : Cal X.prog X.w X.K X.mg X.base fn k (spG X.K B.C args pre out)) (hr : Room k X.A) (u : α) (ha : PGa X B (e :: es) ss (args u)) (ho : out u = .exc cc) (hp : pre u) (hg : Gl X fn := by rfl)
    (hdb : (fn == ("__debug__" : Str)) = false := by decide) (he : starEach (e :: es) X.env = (false, eval e X.env) :: starEach es X.env := by rfl) (hpl : (backTo pos (starEach es X.env)).any (·.1) = false := by rfl) :
    PX X B W (.Call (.Name fn p) (e :: es) [] pos) ss cc := fun σ F H s hW Q => by
  obtain ⟨f, fd, ps, F0, hm, hk, hb⟩ := cf
  refine sem_of (pe_callS (E := WE W) F0 hr hg hm hk hb (fun σ => passAt tk σ) pa_sem hdb he hpl) (ha σ F H s _ fun vs F1 H1 g r => ?_)
  refine ⟨u, F1, hp, g.fh, r, ?_⟩
  rw [ho]
  exact fun H' h => hW H' (g.hh.trans h)

/-! ### a floor is made -/
/-- the numbers, the bans: is it a floor -/
def okPair (u : Int × Int) : Bool := (decide (0 ≤ u.1) && decide (u.1 ≤ 9)) && (decide (0 ≤ u.2) && decide (u.2 ≤ 9)) && decide (u.1 ≠ u.2)
def bansOk (bs : List (Int × Int)) : Bool := decide (bs.length ≤ 20) && bs.all okPair
def numsOk (m h t : Int) : Bool := (decide (2 ≤ m) && decide (m ≤ 4)) && (decide (1 ≤ h) && decide (h ≤ 6)) && (decide (1 ≤ t) && decide (t ≤ 3))
def floorOk (f : FL) : Bool := numsOk f.1 f.2.1 f.2.2.1 && bansOk f.2.2.2
/-- the floor as it holds its bans -/
def normF (f : FL) : FL := (f.1, f.2.1, f.2.2.1, sdedup f.2.2.2)
/-- __init__ of a new floor at p: from the heap H1 ahead of it -/
def spInit (K : PySem.W.Frag) (C cNF : Addr) : Sp := fun vs H Q E => ∃ (f : FL) (p dx : Addr) (v : V) (F H1 : Hp), vs = [.ref p, .int f.1, .int f.2.1, .int f.2.2.1, v] ∧ H = upd (upd H1 dx (.own p)) p (.ins C dx []) ∧ H1 p = none ∧ H1 dx = none ∧ dx ≠ p ∧ Same F H1 ∧
  Rp K C H1 v (.list (dPrs f.2.2.2)) ∧ (floorOk f = true → ∀ F' H', Grow F H1 F' H' → Rp K C F' (.ref p) (dFl (normF f)) → Q .non H') ∧ (floorOk f = false → ∀ H', Same H1 H' → E (.ref cNF) none H')
/-- the class can be made by a call -/
def CalI (P : Program) (w : World) (K : PySem.W.Frag) (mg : Str → Option Value) (base : Heap) (x : Str) (k : Nat) (sp : Sp) (C : Addr) : Prop :=
  ∃ (f : Addr) (fd : FuncData) (ps : List Str), Mk K C f ∧ FnOk P w K mg base (L2.CX P w) k f fd ps sp ∧ mg x = some (.ref C) ∧ Binds K fd ps []
theorem run_makeS {CX : CXT} {C f : Addr} {fd : FuncData} {ps : List Str} {sp : Sp} {E : St → XK} {pins : List (Addr × Obj)} {σ : St} {H : Hp} {s : Shared} {Q : VK} {us : List Value} {vs : List V} (M : Mk X.K C f) (F : FnOk X.prog X.w X.K X.mg X.base CX k f fd ps sp) (hr : Room (k + 1) X.A) (hb : Binds X.K fd ps [])
    (hx : PassesAt CX X σ (E σ)) (I : Inv X pins σ H s) (r : Vals vs us)
    (h : ∀ x dx, H x = none → H dx = none → dx ≠ x → sp (.ref x :: vs) (upd (upd H dx (.own x)) x (.ins C dx [])) (fun v H2 => v = .non ∧ Q (.ref x) H2) (E σ)) :
    wpAny (model X.prog X.w) X.A (call (.ref C) us) (EP X pins σ Q) X.xe s := by
  have hq := h (s.heap.objs.size + 1) s.heap.objs.size (I.hok.fresh (Nat.le_succ _)) (I.hok.fresh (Nat.le_refl _)) (Nat.ne_of_lt (Nat.lt_succ_self _))
  have I2 := Inv.made (C := C) I
  have r2 : Vals (V.ref (s.heap.objs.size + 1) :: vs) (Value.ref (s.heap.objs.size + 1) :: us) := .cons rfl r
  have hl : (Value.ref (s.heap.objs.size + 1) :: us).length = ps.length := by
    have e := r2.length
    rw [F.len _ _ _ _ hq] at e
    exact e.symm
  have b := hb _ (Value.ref (s.heap.objs.size + 1) :: us) I2.kIn (by rw [List.append_nil]; exact hl)
  rw [List.append_nil] at b
  refine wpAny_call (make_map (f := f) I.kIn M.makes M.init (beq_iff_eq.mp M.fn) (codeAny_mono (F.run _ X.stack _ _ ⟨Value.ref (s.heap.objs.size + 1) :: us, []⟩ (Value.ref (s.heap.objs.size + 1) :: us) _ _ (E σ) (hr.make C us [])
    (I2.env0.make C us []) b r2 hq) fun r s' hq' => ?_))
  cases r with
  | error e => exact hx pins _ _ e s' I2 hq'
  | ok fl =>
    cases fl with
    | ret u =>
      obtain ⟨v, H', I3, rv, ev, q3⟩ := I2.after hq'
      subst ev
      exact ⟨rv, ⟨V.ref (s.heap.objs.size + 1), H', I3, rfl, q3⟩⟩
    | next => exact False.elim hq'
    | brk => exact False.elim hq'
    | cont => exact False.elim hq'
def tMakeS (C : Addr) (sp : Sp) (E : St → XK) (t : TA) : TE := fun σ H Q => t σ H fun vs H1 => ∀ x dx, H1 x = none → H1 dx = none → dx ≠ x →
  sp (.ref x :: vs) (upd (upd H1 dx (.own x)) x (.ins C dx [])) (fun v H2 => v = .non ∧ Q (.ref x) H2) (E σ)
theorem pe_makeS {CX : CXT} {C f : Addr} {fd : FuncData} {ps : List Str} {sp : Sp} {E : St → XK} {t : TA} (M : Mk X.K C f) (F : FnOk X.prog X.w X.K X.mg X.base CX k f fd ps sp) (hr : Room (k + 1) X.A) (hg : Gl X fn) (hm : X.mg fn = some (.ref C)) (hb : Binds X.K fd ps []) (hx : ∀ σ, PassesAt CX X σ (E σ))
    (ha : PA X (e :: es) t) (hdb : (fn == ("__debug__" : Str)) = false := by decide) (he : starEach (e :: es) X.env = (false, eval e X.env) :: starEach es X.env := by rfl) (hpl : (backTo pos (starEach es X.env)).any (·.1) = false := by rfl) :
    PE X (.Call (.Name fn p) (e :: es) [] pos) (tMakeS C sp E t) := by
  refine ⟨fun pins s σ H Q I h => ?_⟩
  refine wpAny_Call_Name_kw (ld_glob I hg hm ?_ hdb)
  refine PySem.W.callWith_K (h₀ := X.base) I.ok.mod.kin M.kp (thn (ha.run pos pins s σ H _ I h) fun us s1 ⟨vs, H1, I1, r, q⟩ => ⟨I1.kIn, ?_⟩) he hpl
  exact run_makeS M F hr hb (hx σ) I1 r q
theorem args5 {K : PySem.W.Frag} {C : Addr} {F H : Hp} {f : FL} {vs : List V} (r : ArgsOk K C F H vs [.dat (.int f.1), .dat (.int f.2.1), .dat (.int f.2.2.1), .bor (.list (dPrs f.2.2.2))]) : ∃ v, vs = [.int f.1, .int f.2.1, .int f.2.2.1, v] ∧ Rp K C H v (.list (dPrs f.2.2.2)) := by
  cases r with
  | dat r1 t1 => cases t1 with
    | dat r2 t2 => cases t2 with
      | dat r3 t3 => cases t3 with
        | bor r4 t4 =>
          cases t4
          cases r1; cases r2; cases r3
          exact ⟨_, rfl, r4⟩
/-- Floor(a, b, c, bans) -/
theorem pd_make {cNF : Addr} (cf : CalI X.prog X.w X.K X.mg X.base fn k (spInit X.K B.C cNF) B.C) (hr : Room (k + 1) X.A) (f : FL) (ha : PGa X B (e :: es) ss [.dat (.int f.1), .dat (.int f.2.1), .dat (.int f.2.2.1), .bor (.list (dPrs f.2.2.2))]) (ho : floorOk f = true) (hg : Gl X fn := by rfl)
    (hdb : (fn == ("__debug__" : Str)) = false := by decide) (he : starEach (e :: es) X.env = (false, eval e X.env) :: starEach es X.env := by rfl) (hpl : (backTo pos (starEach es X.env)).any (·.1) = false := by rfl) :
    PD X B (.Call (.Name fn p) (e :: es) [] pos) ss (dFl (normF f)) := fun σ F H s Q q => by
  obtain ⟨f0, fd, ps, M, F0, hm, hb⟩ := cf
  refine sem_of (pe_make (dvs := []) (ds := []) (E := E0) M F0 hr hg hm hb .nil passL pa_sem hdb he hpl) (ha σ F H s _ fun vs F1 H1 g r => ?_)
  obtain ⟨v, rfl, r4⟩ := args5 r
  intro x dx hx hdx hne
  refine ⟨f, x, dx, v, F1, H1, rfl, rfl, hx, hdx, hne, g.fh, r4, fun _ F2 H2 g2 r2 => ⟨rfl, q _ F2 H2 (g.trans g2) r2⟩, fun z => by rw [ho] at z; cases z⟩
theorem px_make {W : WX} {cNF : Addr} (tk : Takes X W) (cf : CalI X.prog X.w X.K X.mg X.base fn k (spInit X.K B.C cNF) B.C) (hr : Room (k + 1) X.A) (f : FL) (ha : PGa X B (e :: es) ss [.dat (.int f.1), .dat (.int f.2.1), .dat (.int f.2.2.1), .bor (.list (dPrs f.2.2.2))]) (ho : floorOk f = false) (hg : Gl X fn := by rfl)
    (hdb : (fn == ("__debug__" : Str)) = false := by decide) (he : starEach (e :: es) X.env = (false, eval e X.env) :: starEach es X.env := by rfl) (hpl : (backTo pos (starEach es X.env)).any (·.1) = false := by rfl) :
    PX X B W (.Call (.Name fn p) (e :: es) [] pos) ss cNF := fun σ F H s hW Q => by
  obtain ⟨f0, fd, ps, M, F0, hm, hb⟩ := cf
  refine sem_of (pe_makeS (E := WE W) M F0 hr hg hm hb (fun σ => passAt tk σ) pa_sem hdb he hpl) (ha σ F H s _ fun vs F1 H1 g r => ?_)
  obtain ⟨v, rfl, r4⟩ := args5 r
  intro x dx hx hdx hne
  exact ⟨f, x, dx, v, F1, H1, rfl, rfl, hx, hdx, hne, g.fh, r4, fun z => (by rw [ho] at z; cases z), fun _ H2 h2 => hW H2 (g.hh.trans h2)⟩
end
end G

namespace G
open PySem L2
section
variable {X : Cx} {B : Bs} {ss : List SD} {e a b c : Expr} {es : List Expr} {pos p p2 p3 p4 p5 : Pos} {d x y z : PyData} {ds ds' : List PyData} {rest body orelse : List Stmt} {st : Stmt} {D : Ends}
/-- [e for y in range(a)] -/
theorem pl_lcR {g : Nat → PyData} {n : Int} (j : Nat) {y : Str} {scope : Scope} (cx : Cxt X) (he : PD X B a ss (.int n)) (hn : 0 ≤ n ∧ n < 1000000)
    (hel : ∀ (i : Nat), (i : Int) < n → ∀ (s : Shared) (H' : Hp) (C : Addr) (cl : List (Str × Addr)) (fp : List Addr), PD (Blk X scope s H' C cl fp) B e (ss.set j (.dat (.int (i : Int)))) (g i))
    (hm : X.mg "range" = none) (nr : noRaw ss = true := by rfl) (hg : Gl X "range" := by rfl) (hn1 : NSt X a := by intro _; rfl)
    (hok : BlkOk X.N X.env.scope scope [(y, j)] := by exact blkOk_by (by kernel_rfl))
    (hpg : X.N.Nodup → ∀ (s : Shared) (H' : Hp) (C : Addr) (cl : List (Str × Addr)) (fp : List Addr), PG (Blk X scope s H' C cl fp) (.Name y p) (gName j) := by intro hnd _ _ _ _ _; exact pg_name hnd (by rfl) (Or.inl rfl))
    (hs : ∀ x, foldedSetIterable (.Call (.Name "range" p2) [a] [] p3) X.env x = pure x := by intro _; rfl) :
    PLc X B (.ListComp e [⟨.Name y p, .Call (.Name "range" p2) [a] [] p3, [], 0⟩] scope pos) ss ((List.range n.toNat).map g) :=
  ⟨_, _, _, _, _, _, _, _, _, _, [(y, j)], rfl, pi_range1 hg hm (pa_cons pe_sem pa_nil (hn1 [])) (hn1 []), hok, hpg cx.nd, fun _ _ _ _ _ => pts_nil, fun s H' C cl fp => (⟨fun pins s1 σ H Q I h => h s H' C cl fp pins s1 I⟩ : PE _ e (tBlk X scope e)), hs, fun σ F H s Q q => he σ F H s _ fun v F1 H1 g1 r1 => by
    cases r1
    have s1 := s.grow g1
    have hbig := sizeLine_eq
    refine ⟨n, rfl, by omega, by omega, fun Dl hD => ?_⟩
    have ap : ∀ (i : Nat) (es : List PyData), ss[i]? = some (.own es) → σ[i]? ≠ some (some (.ref Dl)) := fun i es e1 e2 => by
      obtain ⟨a', ws, ea, _, _, h2, _⟩ := s1.slot i _ e1
      rw [e2] at ea
      injection ea with ea
      injection ea with ea
      injection ea with ea
      subst ea
      rw [hD] at h2; cases h2
    have hF1 : F1 Dl = none := g1.fh.free hD
    have hB0 : B.H0 Dl = none := s1.g.hh.free hD
    have hH : H Dl = none := g1.hh.free hD
    refine lc_range (lo := 0) (n := n.toNat) (fun i H' => ∃ F' acc, Sat X.K B ss σ F' H' ∧ Grow F H F' H' ∧ F' Dl = none ∧ H' Dl = some (.lst acc) ∧ RpAll X.K B.C F' acc ((List.range i).map g))
      ⟨F1, [], s1.upd hB0 hF1 nr ap, g1.trans (Grow.newO g1.fh hD), hF1, upd_same, ?_⟩ ?_ ?_
    · rw [List.range_zero]; exact .nil
    · rintro i H' hi ⟨F', acc, s', g', n', h', r'⟩
      have e0 : (0 : Int) + (i : Int) = (i : Int) := Int.zero_add _
      rw [e0]
      have al : acc.length = i := by rw [r'.length, List.length_map, List.length_range]
      have wset' : ∀ v, (wipe σ (List.map (fun x => x.2) [(y, j)])).set j v = σ.set j v := fun v => by
        show ((wipe σ []).set j none).set j v = _
        rw [List.set_set]; rfl
      unfold gName
      rw [wset']
      have wset2 : wipe (σ.set j (some (V.int (i : Int)))) [j] = wipe σ [j] := by
        show (σ.set j _).set j none = σ.set j none
        rw [List.set_set]
      refine ⟨wset2, ?_⟩
      simp only [tYes, ↓reduceIte]
      intro s5 H5 C5 cl5 fp5
      refine hel i (by omega) s5 H5 C5 cl5 fp5 _ F' H' (s'.set_dat (.int _)) _ fun z F4 H4 g4 r4 => ?_
      have n4 := g4.own _ _ h' n'
      refine ⟨acc, g4.hh _ _ h', by rw [al]; omega, F4, acc ++ [z], (s'.grow g4).upd hB0 n4 nr ap (nx_lst (g4.hh _ _ h')), ?_, n4, upd_same, ?_⟩
      · exact ⟨fun b o e => by rw [upd_ne (ne_of_none e hH)]; exact (g'.trans g4).hh b o e, (g'.trans g4).ff, fun b o e => by rw [upd_ne (ne_of_none e n4)]; exact g4.fh b o e, (g'.trans g4).own⟩
      · rw [List.range_succ, List.map_append]
        exact (r'.mono g4.ff).app (.one r4)
    · rintro H' ⟨F', acc, s', g', n', h', r'⟩
      exact q Dl acc F' H' g' hH n' h' r'⟩
end
/-! ### a list or a tuple -/
/-- a row: a tuple or a list of numbers -/
abbrev dSq (tp : Bool) (r : List Int) : PyData := cond tp (.tuple (r.map .int)) (.list (r.map .int))
abbrev dSqs (tp : Bool) (S : List (List Int)) : PyData := cond tp (.tuple (S.map (dSq tp))) (.list (S.map (dSq tp)))
theorem PD.isq {X : Cx} {B : Bs} {e : Expr} {ss : List SD} {tp : Bool} {r : List Int} (h : PD X B e ss (dSq tp r)) : PIs X B e ss (r.map .int) := by
  cases tp
  · exact PD.itl h
  · exact PD.itt h
theorem PD.isqs {X : Cx} {B : Bs} {e : Expr} {ss : List SD} {tp : Bool} {S : List (List Int)} (h : PD X B e ss (dSqs tp S)) : PIs X B e ss (S.map (dSq tp)) := by
  cases tp
  · exact PD.itl h
  · exact PD.itt h
/-- the law's floor -/
abbrev dF4 (f : FL) : PyData := .tuple [.int f.1, .int f.2.1, .int f.2.2.1, .list (dPrs f.2.2.2)]
def cellAt (ns : List Int) (k : Int) : Int := (ns[k.toNat]?).getD 0
def lawBans (ns : List Int) (first most : Int) (n : Nat) : List (Int × Int) := (List.range n).flatMap fun (k : Nat) =>
  let p := cellAt ns (first + 1 + (k : Int))
  if p % most = p / most % most then [] else [(p % most, p / most % most)]
def lawFl (ns : List Int) (first most : Int) : FL :=
  let c := cellAt ns first
  (2 + c % 3, 1 + c / 3 % 6, 1 + c / 18 % 3, lawBans ns first most (c / 72 % 5).toNat)
theorem lawBans_succ (ns : List Int) (first most : Int) (n : Nat) : lawBans ns first most (n + 1) = lawBans ns first most n ++ (
  let p := cellAt ns (first + 1 + (n : Int))
  if p % most = p / most % most then [] else [(p % most, p / most % most)]) := fm_succ _ _
theorem lawBans_len (ns : List Int) (first most : Int) (n : Nat) : (lawBans ns first most n).length ≤ n := by
  have := fm_le (fun (k : Nat) => (let p := cellAt ns (first + 1 + (k : Int))
    if p % most = p / most % most then [] else [(p % most, p / most % most)] : List (Int × Int))) 1 (fun i => by dsimp only; split <;> simp) n
  unfold lawBans
  omega
theorem lawFl_nums (ns : List Int) (first most : Int) : (2 ≤ (lawFl ns first most).1 ∧ (lawFl ns first most).1 ≤ 4) ∧ (1 ≤ (lawFl ns first most).2.1 ∧ (lawFl ns first most).2.1 ≤ 6) ∧ (1 ≤ (lawFl ns first most).2.2.1 ∧ (lawFl ns first most).2.2.1 ≤ 3) ∧ (lawFl ns first most).2.2.2.length ≤ 4 := by
  have l := lawBans_len ns first most (cellAt ns first / 72 % 5).toNat
  unfold lawFl
  dsimp only
  omega
theorem lawBans_ok {ns : List Int} {first most : Int} {n : Nat} (h1 : 0 < most) (h2 : most ≤ 10) {u : Int × Int} (h : u ∈ lawBans ns first most n) : okPair u = true := by
  unfold lawBans at h
  obtain ⟨k, _, hk⟩ := List.mem_flatMap.mp h
  dsimp only at hk
  split at hk
  · cases hk
  · rename_i hne
    rw [List.mem_singleton] at hk
    subst hk
    have a1 := Int.emod_nonneg (cellAt ns (first + 1 + (k : Int))) (show most ≠ 0 by omega)
    have a2 := Int.emod_lt_of_pos (cellAt ns (first + 1 + (k : Int))) h1
    have b1 := Int.emod_nonneg (cellAt ns (first + 1 + (k : Int)) / most) (show most ≠ 0 by omega)
    have b2 := Int.emod_lt_of_pos (cellAt ns (first + 1 + (k : Int)) / most) h1
    unfold okPair
    simp only [Bool.and_eq_true, decide_eq_true_eq, ne_eq]
    omega
theorem lawFl_ok (ns : List Int) (first : Int) {most : Int} (h1 : 0 < most) (h2 : most ≤ 10) : floorOk (lawFl ns first most) = true := by
  obtain ⟨n1, n2, n3, n4⟩ := lawFl_nums ns first most
  unfold floorOk numsOk bansOk
  rw [decide_eq_true n1.1, decide_eq_true n1.2, decide_eq_true n2.1, decide_eq_true n2.2, decide_eq_true n3.1, decide_eq_true n3.2, decide_eq_true (by omega)]
  have : (lawFl ns first most).2.2.2.all okPair = true := List.all_eq_true.mpr fun u hu => lawBans_ok h1 h2 hu
  rw [this]; rfl
theorem prs_app (q : List (Int × Int)) (x y : Int) : dPrs q ++ [.tuple [.int x, .int y]] = dPrs (q ++ [(x, y)]) := by
  unfold dPrs
  rw [List.map_append]; rfl
theorem rowOk_norm (bs : List (Int × Int)) (r : List Int) : rowOk (sdedup bs) r = rowOk bs r := by
  unfold rowOk
  congr 1
  funext k
  rw [decide_eq_decide.mpr (mem_sdedup _ bs)]
theorem good_norm (f : FL) (S : List (List Int)) : goodF (normF f) S = goodF f S := by
  obtain ⟨m, h, t, bs⟩ := f
  have : stackOk h (sdedup bs) = stackOk h bs := by
    funext r
    unfold stackOk
    rw [rowOk_norm]
  show good m h (sdedup bs) S = good m h bs S
  unfold good
  rw [this]
theorem behind_norm (f : FL) (S : List (List Int)) : liftsOf (normF f) S = liftsOf f S := by
  unfold liftsOf liftsAB topN
  simp only [good_norm]
  rfl
end G

namespace G
open PySem L2
section
variable {X : Cx} {B : Bs} {ss : List SD} {e a b c : Expr} {es : List Expr} {pos p p2 p3 p4 p5 : Pos} {d x y z : PyData} {ds ds' : List PyData} {rest body orelse : List Stmt} {st : Stmt} {D : Ends}
/-- the script, read as a list -/
theorem PD.scl {ns : List Int} (h : PD X B e ss (scr ns)) : PLi X B e ss (ns.map .int) := fun σ F H s Q q => h σ F H s Q fun v F' H' g r => by
  generalize hd : scr ns = dd at r
  cases r with
  | non => cases hd
  | bl => cases hd
  | int => cases hd
  | str => cases hd
  | lst => cases hd
  | tup => cases hd
  | flr => cases hd
  | @scr a ms h1 =>
    have e1 : ns.map PyData.int = ms.map PyData.int := by
      injection hd with h2
      injection h2 with h3 _
      injection h3 with h4 _
      injection h4
    have e2 : ns = ms := by
      have inj : ∀ {l m : List Int}, l.map PyData.int = m.map PyData.int → l = m := by
        intro l
        induction l with
        | nil => intro m q; cases m with
          | nil => rfl
          | cons _ _ => cases q
        | cons i l ih => intro m q; cases m with
          | nil => cases q
          | cons j m =>
            rw [List.map_cons, List.map_cons] at q
            injection q with q1 q2
            injection q1 with q1
            rw [q1, ih q2]
      exact inj e1
    subst e2
    exact q _ _ F' H' g (g.fh.seq h1) (RpAll.ints ns)
/-- for k in range(n - 1, -1, -1) -/
theorem go_rngD {n : Int} (j : Nat) {x : Str} (J : Nat → List SD → Prop) (cx : Cxt X) (he : PDs X B [a, b, c] ss [.int (n - 1), .int (-1), .int (-1)]) (hn : 0 ≤ n ∧ n < 2 ^ 60) (h0 : J 0 ss)
    (hb : ∀ (i : Nat) (ss' : List SD), (i : Int) < n → J i ss' → Go X B body (ss'.set j (.dat (.int (n - 1 - (i : Int))))) (lpE X B (J (i + 1)) rest D))
    (hd : ∀ ss', J n.toNat ss' → Go X B rest ss' D) (hm : X.mg "range" = none) (hg : Gl X "range" := by rfl)
    (hs : starEach [a, b, c] X.env = (false, eval a X.env) :: starEach [b, c] X.env := by rfl) (hpl : (backTo p3 (starEach [b, c] X.env)).any (·.1) = false := by rfl)
    (hps : ∀ wi, PI X (.Name x p) (.Call (.Name "range" p2) [a, b, c] [] p3) wi → PS X (.For (.Name x p) (.Call (.Name "range" p2) [a, b, c] [] p3) body [] pos) (tFor wi (gName j) (tSS X body)) := by intro _ hw; exact ps_for (Cxt.pass (by assumption)) (Cxt.calm (by assumption)) hw (pg_name (Cxt.nd (by assumption)) (by rfl) (by first | exact Or.inl rfl | exact Or.inr rfl)) pss_sem) :
    Go X B (.For (.Name x p) (.Call (.Name "range" p2) [a, b, c] [] p3) body [] pos :: rest) ss D :=
  go_step (hps _ (pi_range3 hg hm pa_sem hs hpl)) fun σ F H s => he σ F H s _ fun vs F1 H1 g r => by
    cases r with
    | cons r1 t1 => cases t1 with
      | cons r2 t2 => cases t2 with
        | cons r3 t3 =>
          cases t3; cases r1; cases r2; cases r3
          have e1 : (n - 1 - (-1) : Int).toNat = n.toNat := by omega
          have rg := RgC.neg (i := n - 1) (j := -1) (by omega) (by omega) (by omega) (by omega)
          rw [e1] at rg
          refine ⟨n - 1, -1, -1, n.toNat, rfl, rg, for_rangeC (lo := n - 1) (c := -1) (n := n.toNat) (fun i => Mid X B (J i)) ⟨F1, ss, h0, s.grow g⟩ (fun i σ' H' hi ⟨F', ss', j', s'⟩ => ?_) fun σ' H' ⟨F', ss', j', s'⟩ => hd ss' j' σ' F' H' s'⟩
          have e0 : n - 1 + ((i : Nat) : Int) * -1 = n - 1 - (i : Int) := by omega
          show tSS X body (lpE X B (J (i + 1)) rest D) (σ'.set j (some (.int (n - 1 + ((i : Nat) : Int) * -1)))) H'
          rw [e0]
          exact hb i ss' (by omega) j' _ F' H' (s'.set_dat (.int _))
end
def rgI (a b : Int) : List Int := (List.range (b - a).toNat).map fun i => a + (i : Nat)
theorem rgD_I (a b : Int) : rgD a b = dIs (rgI a b) := by
  unfold rgD rgI dIs
  rw [List.map_map]; rfl
theorem rgI_len (a b : Int) : (rgI a b).length = (b - a).toNat := by unfold rgI; rw [List.length_map, List.length_range]
/-! ### a lift goes back -/
def backL (l : LF) : LF := (l.2.1, l.1, l.2.2)
theorem set_getD_self {α : Type} (S : List (List α)) {i : Nat} (h : i < S.length) : S.set i (S.getD i []) = S := by
  apply List.ext_getElem?
  intro k
  by_cases e : i = k
  · subst e
    rw [List.getElem?_set_self h, List.getD_eq_getElem?_getD, List.getElem?_eq_getElem h] <;> rfl
  · rw [List.getElem?_set_ne e]
theorem behind_back {S : List (List Int)} {l : LF} (ha : l.1 < S.length) (hb : l.2.1 < S.length) (hab : l.1 ≠ l.2.1) (hk : l.2.2 ≤ (S.getD l.1 []).length) : behindL (behindL S l) (backL l) = S := by
  obtain ⟨a, b, k⟩ := l
  simp only at ha hb hab hk
  have hT : behindL S (a, b, k) = (S.set b (S.getD b [] ++ (S.getD a []).drop ((S.getD a []).length - k))).set a ((S.getD a []).take ((S.getD a []).length - k)) := rfl
  generalize hr : S.getD a [] = r at hT hk
  generalize hq : S.getD b [] = q at hT
  have hTb : (behindL S (a, b, k)).getD b [] = q ++ r.drop (r.length - k) := by
    rw [hT, getD_set_ne hab, getD_set_eq hb]
  have hTa : (behindL S (a, b, k)).getD a [] = r.take (r.length - k) := by
    rw [hT, getD_set_eq (by rw [List.length_set]; exact ha)]
  show (((behindL S (a, b, k)).set a ((behindL S (a, b, k)).getD a [] ++ ((behindL S (a, b, k)).getD b []).drop (((behindL S (a, b, k)).getD b []).length - k))).set b (((behindL S (a, b, k)).getD b []).take (((behindL S (a, b, k)).getD b []).length - k))) = S
  rw [hTa, hTb]
  have e1 : (q ++ r.drop (r.length - k)).length - k = q.length := by
    rw [List.length_append, List.length_drop]; omega
  rw [e1, List.drop_left, List.take_left, List.take_append_drop, hT, List.set_set, List.set_comm _ _ hab, List.set_set, ← hr, ← hq]
  have e2 : (S.set b (S.getD b [])).set a (S.getD a []) = S := by
    rw [set_getD_self S hb, set_getD_self S ha]
  rw [List.set_comm _ _ (Ne.symm hab)] at e2 ⊢
  first
    | exact e2
    | (rw [List.set_comm _ _ hab]; exact e2)
theorem back_in {f : FL} {S : List (List Int)} {l : LF} (h : l ∈ liftsOf f S) (hg : goodF f S = true) : backL l ∈ liftsOf f (behindL S l) ∧ behindL (behindL S l) (backL l) = S ∧ goodF f (behindL S l) = true ∧ (behindL S l).flatten.Perm S.flatten := by
  obtain ⟨h1, h2, h3, h4, h5, h6⟩ := mem_liftsOf.mp h
  have hk : l.2.2 ≤ (S.getD l.1 []).length := Nat.le_trans h5 (Nat.min_le_right _ _)
  have hbk := behind_back h1 h2 h3 hk
  refine ⟨mem_liftsOf.mpr ⟨by rw [behind_length]; exact h2, by rw [behind_length]; exact h1, Ne.symm h3, h4, ?_, by rw [hbk]; exact hg⟩, hbk, h6, behind_perm h1 h2 h3⟩
  have hTb : ((behindL S l).getD l.2.1 []).length = (S.getD l.2.1 []).length + l.2.2 := by
    unfold behindL
    dsimp only
    rw [getD_set_ne h3, getD_set_eq h2, List.length_append, List.length_drop]
    omega
  show l.2.2 ≤ min f.2.2.1.toNat ((behindL S l).getD l.2.1 []).length
  rw [hTb]
  have : l.2.2 ≤ f.2.2.1.toNat := Nat.le_trans h5 (Nat.min_le_left _ _)
  omega
/-! ### the law as the end wants it -/
def spLaw (K : PySem.W.Frag) : Sp := fun vs H Q _ => ∃ (a : Addr) (ns : List Int), vs = [.ref a] ∧ SqL K H a (ns.map V.int) ∧ ns.length ≤ 63 ∧ ∀ H', Q (.bl true) H'
abbrev sp_law (K : PySem.W.Frag) (C : Addr) : Sp := spO K C (fun ns : List Int => [scr ns]) (fun ns => ns.length ≤ 63) (fun _ => .val (.bool true))
theorem law_imp {P : Program} {w : World} {K : PySem.W.Frag} {mg : Str → Option Value} {base : Heap} {CX : CXT} {k : Nat} {f C : Addr} {fd : FuncData} {ps : List Str} (F : FnOk P w K mg base CX k f fd ps (sp_law K C)) : FnOk P w K mg base CX k f fd ps (spLaw K) :=
  F.imp fun vs H Q E ⟨a, ns, hv, hs, hl, hq⟩ => ⟨ns, H, hl, fun _ _ h => h, by rw [hv]; exact .cons (.scr hs) .nil, fun v F' H' _ r => by cases r; exact hq H'⟩
end G

namespace G
open PySem L2
/-! ### a def that is called while an error is held: p is that error -/
abbrev SpE := Addr × Obj → Sp
structure FnE (P : Program) (w : World) (K : PySem.W.Frag) (mg : Str → Option Value) (base : Heap) (k : Nat) (f : Addr) (fd : FuncData) (ps : List Str) (sp : SpE) : Prop where
  ln : ∀ (p : Addr × Obj) (vs : List V) (H : Hp) (Q : VK) (E : XK), sp p vs H Q E → vs.length = ps.length
  go : ∀ (p : Addr × Obj) (A : Around) (outer : List Env) (s : Shared) (H : Hp) (gs : Args) (us : List Value) (vs : List V) (Q : VK) (E : XK), L2H.RoomH k A → L2H.PinOk outer H s p → Env0 P w K mg base A outer s H →
    BindsTo s fd gs (ps.zip us) → Vals vs us → sp p vs H Q E → codeAny (model P w) A (.call (.ref f) gs) (CR (L2.CX P w) outer P w H s Q E) s
section
variable {P : Program} {w : World} {K : PySem.W.Frag} {mg : Str → Option Value} {base : Heap}
theorem fnE_of {x qual : Str} {st : Stmt} {f : Addr} {fd : FuncData} {N ps : List Str} {k : Nat} {sp : SpE} (F : L2.Fun K x qual st f fd) (S : FnScope N ps (defScope st)) (hln : ∀ (p : Addr × Obj) (vs : List V) (H : Hp) (Q : VK) (E : XK), sp p vs H Q E → vs.length = ps.length)
    (body : ∀ (p : Addr × Obj) (cdv : Value) (A : Around) (outer : List Env) (s : Shared) (H : Hp) (vs : List V) (Q : VK) (E : XK) (X : Cx), X = L2H.cxH (L2.CX P w) P w K mg base N qual (defScope st) f cdv A outer s H E p → sp p vs H Q E → tSS X (defBody st) { nx := fun _ H' => Q .non H', rt := Q } (L2.start N vs) H) :
    FnE P w K mg base (k + 1) f fd ps sp := by
  obtain ⟨oc, od, kV, doc, pm, an, cdv, ct, osl, rfl, lk, hcd⟩ := F.ex
  refine ⟨hln, fun p A outer s H gs us vs Q E room pin env bind vals hsp => ?_⟩
  have kin : K.In s.heap := env.mod.kin.keeps fun b o q => (env.bs b o q).1
  have hlim : s.heap.NoLimit := env.mod.nolimit.keeps fun b o q => (env.bs b o q).1
  have kinds : ∀ y ∈ ps.zip us, (defScope st).names.lookup y.1 = some .local ∨ ((defScope st).names.lookup y.1 = some .cell ∧ ((cellsFrom (s.heap.objs.size + 1) (defScope st).names []).lookup y.1).isSome = true) := by
    rintro ⟨m, v⟩ hy
    rcases S.par m (List.of_mem_zip hy).1 with q | q
    · exact Or.inl q
    · exact Or.inr ⟨q, PySem.W.cellsFrom_some _ _ _ (Or.inl q)⟩
  refine codeAny_call_function room.depth (kin _ _ lk) rfl S.co S.gen rfl (PySem.W.codeRec_of kin hcd) (bind _ _ _ _ ?_)
  refine wpAny_newFunctionEnv_cells S.kind kinds fun ev hev s1 c1 => ?_
  subst hev
  refine ⟨hlim.keeps c1.toInCall.keep, codeAny_func ?_⟩
  have J := L2H.inv_startH (CX := L2.CX P w) (E := E) S pin env (hln p vs H Q E hsp) vals c1
  refine wpAny_mono (body p cdv A outer s H vs Q E _ rfl hsp [] s1 J) (fun fl s' hs => ?_) fun _ _ z => z
  cases fl with
  | next =>
    obtain ⟨σ', H', J', q⟩ := hs
    exact ⟨V.non, H', J'.os, J'.bare, J'.base, J'.hok, rfl, q⟩
  | ret u =>
    obtain ⟨v, σ', H', J', rv, q⟩ := hs
    exact ⟨v, H', J'.os, J'.bare, J'.base, J'.hok, rv, q⟩
  | brk => obtain ⟨_, _, _, q⟩ := hs; exact q.elim
  | cont => obtain ⟨_, _, _, q⟩ := hs; exact q.elim
end
section
variable {X : Cx} {B : Bs} {ss : List SD} {e a b c : Expr} {es : List Expr} {pos p p2 p3 p4 p5 : Pos} {d x y z : PyData} {ds ds' : List PyData} {rest body orelse : List Stmt} {st : Stmt} {D : Ends}
/-- the same call, an expression of the suite -/
theorem pe_callE {fn : Str} {k : Nat} {f : Addr} {fd : FuncData} {ps : List Str} {sp : SpE} {t : TA} {q : Addr × Obj} (F : FnE X.prog X.w X.K X.mg X.base k f fd ps sp) (hr : L2H.RoomH k X.A) (hq : q ∈ X.pn) (hg : Gl X fn) (hm : X.mg fn = some (.ref f)) (hk : PySem.W.keepIn X.K (.ref f) = true) (hb : Binds X.K fd ps [])
    (ha : PA X (e :: es) t) (hdb : (fn == ("__debug__" : Str)) = false := by decide) (he : starEach (e :: es) X.env = (false, eval e X.env) :: starEach es X.env := by rfl) (hpl : (backTo pos (starEach es X.env)).any (·.1) = false := by rfl) :
    PE X (.Call (.Name fn p) (e :: es) [] pos) (fun σ H Q => t σ H fun vs H1 => sp q vs H1 Q E0) := by
  refine ⟨fun pins s σ H Q I h => wpAny_Call_Name_kw (ld_glob I hg hm ?_ hdb)⟩
  refine PySem.W.callWith_K (h₀ := X.base) I.ok.mod.kin hk (thn (ha.run pos pins s σ H _ I h) fun us s1 ⟨vs, H1, I1, r, hs⟩ => ⟨I1.kIn, ?_⟩) he hpl
  have hl : us.length = ps.length := by rw [← r.length]; exact F.ln _ _ _ _ _ hs
  have bd := hb s1 us I1.kIn (by rw [List.append_nil]; exact hl)
  rw [List.append_nil] at bd
  obtain ⟨g1, g2, g3, g4, g5⟩ := I1.pin q (List.mem_append_left _ hq)
  have pin : L2H.PinOk X.stack H1 s1 q := ⟨g1, g2, fun z => (List.mem_cons.mp (I1.stkSub q.1 z)).elim g3 g4, g5⟩
  refine wpAny_call (codeAny_mono (F.go q X.A X.stack s1 H1 ⟨us, []⟩ us vs Q E0 hr pin I1.env0 bd r hs) fun r' s' z => ?_)
  cases r' with
  | error u => exact passL pins σ H1 s1 u s' I1 z
  | ok fl =>
    cases fl with
    | ret u => exact I1.after z
    | next => exact z.elim
    | brk => exact z.elim
    | cont => exact z.elim
/-- isinstance of an error at hand -/
theorem call_isP {q : Addr × Obj} {E : Addr} (cE : ExcC X.K E) (hq : q ∈ X.pn) (hz : Zc (.ref E) none q.2) (hf : ∃ us, q.2.data = .fields us) : CallR X (.builtin "isinstance") (rIsE X.K E q.1) := by
  obtain ⟨qa, ⟨oc, od, oda, osl⟩⟩ := q
  rintro pins s σ H xs us Q I r ⟨cl, cv, b, rfl, only, kit, k⟩
  match us, r with
  | [u1, u2], .cons r1 (.cons r2 .nil) =>
    obtain rfl : u1 = Value.ref qa := r1
    obtain rfl := only _ r2
    obtain ⟨here, _⟩ := I.pin _ (List.mem_append_left _ hq)
    obtain ⟨vs, hv⟩ := hf
    obtain ⟨hc, hd⟩ := hz
    dsimp only at hv hc hd
    subst hc hd hv
    have at_ : PySem.W.InstAt s.heap qa ⟨.ref E, none, .fields vs, osl⟩ E none := ⟨here, rfl, rfl, trivial⟩
    exact PySem.W.kia_one (PySem.W.handS_kitx_exc cE.hg cE.hk cE.hs cE.hd cE.ha cE.hn cE.ht cE.hm) I.kIn at_ kit (fun z => nomatch z) fun tk => ⟨.bl b, H, I.kept (t' := tk) fun _ _ z => z, rfl, k⟩
theorem pd_isE {n : Str} {q : Addr × Obj} {E : Addr} {cl : V} {cv : Value} {bb : Bool} (i : Nat) (cE : ExcC X.K E) (hq : q ∈ X.pn) (hz : Zc (.ref E) none q.2) (hf : ∃ us, q.2.data = .fields us) (hs : ss[i]? = some (.val (.ref q.1))) (ht : PE X c (tC cl)) (only : ∀ u, RelV cl u → u = cv) (kit : PySem.W.kitOne X.K (.ref E) cv = some bb)
    (hm : X.mg "isinstance" = none) (hN : X.N[i]? = some n := by rfl) (hv : Vis X.env.scope n := by first | exact Or.inl rfl | exact Or.inr (Or.inl rfl) | exact Or.inr (Or.inr rfl)) (hd : (n == ("__debug__" : Str)) = false := by decide) (hcd : (n == ("__classdict__" : Str)) = false := by decide)
    (hg : Gl X "isinstance" := by rfl) (hb : bootBuiltins "isinstance" = some (.builtin "isinstance") := by decide +kernel) (n1 : NSt X (.Name n p2) := by intro _; rfl) (n2 : NSt X c := by intro _; rfl) (hpl : (backTo pos (starEach [c] X.env)).any (·.1) = false := by rfl) :
    PD X B (.Call (.Name "isinstance" p) [.Name n p2, c] [] pos) ss (.bool bb) := fun σ F H s Q k =>
  sem_of (pe_callB (call_isP cE hq hz hf) hg hm hb (pa_cons (pe_var hN hv hd hcd) (pa_cons ht pa_nil (n2 [])) (n1 [c])) (by decide) (by decide) (n1 [c]) hpl) ⟨.ref q.1, s.slot i _ hs, ⟨cl, cv, bb, rfl, only, kit, k _ F H (Grow.refl s.fh) (.bl bb)⟩⟩
theorem pd_isOwn {n x : Str} {q : Addr × Obj} {E cl : Addr} {bb : Bool} (i : Nat) (cE : ExcC X.K E) (hq : q ∈ X.pn) (hz : Zc (.ref E) none q.2) (hf : ∃ us, q.2.data = .fields us) (hs : ss[i]? = some (.val (.ref q.1))) (hcl : X.mg x = some (.ref cl)) (kit : PySem.W.kitOne X.K (.ref E) (.ref cl) = some bb)
    (hm : X.mg "isinstance" = none) (hN : X.N[i]? = some n := by rfl) (hv : Vis X.env.scope n := by first | exact Or.inl rfl | exact Or.inr (Or.inl rfl) | exact Or.inr (Or.inr rfl)) (hd : (n == ("__debug__" : Str)) = false := by decide) (hcd : (n == ("__classdict__" : Str)) = false := by decide)
    (hg : Gl X "isinstance" := by rfl) (hg2 : Gl X x := by rfl) (hdb : (x == ("__debug__" : Str)) = false := by decide) (n1 : NSt X (.Name n p2) := by intro _; rfl) (n2 : NSt X (.Name x p3) := by intro _; rfl) (hpl : (backTo pos (starEach [.Name x p3] X.env)).any (·.1) = false := by rfl) :
    PD X B (.Call (.Name "isinstance" p) [.Name n p2, .Name x p3] [] pos) ss (.bool bb) :=
  pd_isE (cl := .ref cl) (cv := .ref cl) i cE hq hz hf hs (pe_glob hg2 hcl rfl hdb) (fun _ r => r) kit hm hN hv hd hcd hg (by decide +kernel) n1 n2 hpl
/-- weaker ends -/
theorem ss_mono {l : List Stmt} {D1 D2 : Ends} {σ : St} {H : Hp} (h : tSS X l D1 σ H) (n : ∀ σ' H', D1.nx σ' H' → D2.nx σ' H') (r : ∀ v H', D1.rt v H' → D2.rt v H') (b : ∀ σ' H', D1.bk σ' H' → D2.bk σ' H') (c : ∀ σ' H', D1.ct σ' H' → D2.ct σ' H') : tSS X l D2 σ H := fun pins s I =>
  thn (h pins s I) fun f s1 q => by
    cases f with
    | next => obtain ⟨σ', H', J, z⟩ := q; exact ⟨σ', H', J, n _ _ z⟩
    | brk => obtain ⟨σ', H', J, z⟩ := q; exact ⟨σ', H', J, b _ _ z⟩
    | cont => obtain ⟨σ', H', J, z⟩ := q; exact ⟨σ', H', J, c _ _ z⟩
    | ret u => obtain ⟨v, σ', H', J, rv, z⟩ := q; exact ⟨v, σ', H', J, rv, r _ _ z⟩
theorem Sat.over {K : PySem.W.Frag} {σ : St} {F H H' : Hp} (h : Sat K B ss σ F H) (e : Same H H') : Sat K B ss σ F H' := h.grow ⟨e, Same.refl _, h.fh.trans e, fun _ _ _ n => n⟩
/-- try: body, except x as n: suite; Pc tells the classes that the body may raise -/
theorem go_try {n x : Str} {cc : Addr} {b0 : Stmt} {suite : List Stmt} (i : Nat) (Pc : Addr → Prop) (J Js : List SD → Prop) (cx : Cxt X) (hm : X.mg x = some (.ref cc)) (hpc : ∀ E, Pc E → PySem.W.exmOne X.K (.ref E) (.ref cc) = some true)
    (hb : ∀ (pn : List (Addr × Obj)) (xe : Value → Shared → Prop) (W : WX), Takes (X.tr pn xe) W → (∀ (E : Addr) (σ : St) (F H : Hp), Pc E → Sat X.K B ss σ F H → ∀ H', Same H H' → W (.ref E) none σ H') → Cxt (X.tr pn xe) → Go (X.tr pn xe) B body ss { D with nx := Mid X B J })
    (hsu : ∀ (E a : Addr) (oe : Obj) (pn : List (Addr × Obj)), Pc E → Zc (.ref E) none oe → (∃ us, oe.data = .fields us) → Go (X.suite a ((a, oe) :: pn)) B (b0 :: suite) (ss.set i (.val (.ref a))) { nx := Mid X B Js, rt := fun _ _ => False, bk := fun _ _ => False, ct := fun _ _ => False })
    (hj : ∀ ss', Js ss' → J (ss'.set i .un)) (h3 : ∀ ss', J ss' → Go X B rest ss' D)
    (hi : X.N[i]? = some n := by rfl) (hst : X.stack = X.env :: X.outer := by rfl) (hfr : X.env.frame = some X.env.locals := by rfl) (hln : X.env.kindOf n = some .local := by rfl) (hg : Gl X x := by rfl) (hdb : (x == ("__debug__" : Str)) = false := by decide) :
    Go X B (.Try body [.ExceptHandler (some (.Name x p)) (some n) (b0 :: suite) p2] [] [] p3 :: rest) ss D := by
  refine go_stepC (ps_try_as (c := .ref cc) (i := i) (Wout := fun _ _ _ _ => False)
    (tb := fun W D' σ H => ∀ pn xe, Takes (X.tr pn xe) W → PassesOwn (model X.prog X.w) X.A X.env xe → tSS (X.tr pn xe) body D' σ H)
    (ts := fun a cls dd D' σ H => ∀ oe pn, Zc cls dd oe → (∃ us, oe.data = .fields us) → tSS (X.suite a ((a, oe) :: pn)) (b0 :: suite) D' σ H)
    hst hfr cx.nd hi hln ⟨hg, hdb, Or.inl hm⟩ takes0
    (fun W pn xe tk po => ⟨fun pins s σ H D' I h => h pn xe tk po pins s I⟩)
    (fun a oe cls dd pn hz hf => ⟨fun pins s σ H D' I h => h oe pn hz hf pins s I⟩)) J (fun σ F H s => ?_) h3
  intro pn xe tk po
  refine hb pn xe _ tk (fun E σ' F' H' hE s' H2 e2 => ?_) ⟨cx.calm, cx.nd, po, cx.units⟩ σ F H s
  refine ⟨true, hpc E hE, fun _ a ha oe pn2 hz hf => ?_, fun z => nomatch z⟩
  refine ss_mono (hsu E a oe pn2 hE hz hf _ F' H2 ((s'.over e2).set_val)) (fun σ3 H3 ⟨F3, ss3, j3, s3⟩ => ⟨F3, _, hj _ j3, s3.swap⟩) (fun _ _ z => z.elim) (fun _ _ z => z.elim) fun _ _ z => z.elim
end
/-! ### the law's kinds -/
/-- the eight error classes of the module, told by number -/
structure KindT (mg : Str → Option Value) (c : Nat → Addr) : Prop where
  g0 : mg "NoFloor" = some (.ref (c 0))
  g1 : mg "NoStanding" = some (.ref (c 1))
  g2 : mg "NoLift" = some (.ref (c 2))
  g3 : mg "OtherCrates" = some (.ref (c 3))
  g4 : mg "TooMany" = some (.ref (c 4))
  g5 : mg "NoNames" = some (.ref (c 5))
  g6 : mg "NoOrder" = some (.ref (c 6))
  g7 : mg "BadText" = some (.ref (c 7))
  vE : mg "ValueError" = none
/-- E is the class of number k, and no other's child -/
structure KindOf (K : PySem.W.Frag) (c : Nat → Addr) (k : Nat) (E : Addr) : Prop where
  ex : ExcC K E
  is : ∀ j, j < 8 → PySem.W.kitOne K (.ref E) (.ref (c j)) = some (decide (k = j))
  vE : PySem.W.kitOne K (.ref E) (.type "ValueError") = some true
def oneD (k : Nat) : List PyData := (List.range 8).map (fun j => PyData.bool (decide (k = j))) ++ [.bool true]
def spKind (K : PySem.W.Frag) (C : Addr) (c : Nat → Addr) : SpE := fun p vs H Q E => ∃ (k : Nat) (D : Addr) (F : Hp), vs = [.ref p.1] ∧ Same F H ∧ Zc (.ref D) none p.2 ∧ (∃ us, p.2.data = .fields us) ∧ KindOf K c k D ∧ OutK K C F H Q E (.new (oneD k))
def CalE (P : Program) (w : World) (K : PySem.W.Frag) (mg : Str → Option Value) (base : Heap) (x : Str) (k : Nat) (sp : SpE) : Prop :=
  ∃ (f : Addr) (fd : FuncData) (ps : List Str), FnE P w K mg base k f fd ps sp ∧ mg x = some (.ref f) ∧ PySem.W.keepIn K (.ref f) = true ∧ Binds K fd ps []
theorem calE_mk {P : Program} {w : World} {K : PySem.W.Frag} {mg : Str → Option Value} {base : Heap} {x : Str} {st : Stmt} {f : Addr} {fd : FuncData} {ps : List Str} {k : Nat} {sp : SpE} (F : L2.Fun K x x st f fd) (g : mg x = some (.ref f)) (b : Binds K fd ps []) (h : FnE P w K mg base k f fd ps sp) : CalE P w K mg base x k sp := ⟨f, fd, ps, h, g, F.kp, b⟩
section
variable {X : Cx} {B : Bs} {ss : List SD} {pos p p2 : Pos}
theorem pn_kind {fn n : Str} {k m : Nat} {E : Addr} {c : Nat → Addr} {q : Addr × Obj} (i : Nat) (cf : CalE X.prog X.w X.K X.mg X.base fn k (spKind X.K B.C c)) (hr : L2H.RoomH k X.A) (hq : q ∈ X.pn) (hz : Zc (.ref E) none q.2) (hf : ∃ us, q.2.data = .fields us) (kd : KindOf X.K c m E) (hs : ss[i]? = some (.val (.ref q.1)))
    (hN : X.N[i]? = some n := by rfl) (hv : Vis X.env.scope n := by first | exact Or.inl rfl | exact Or.inr (Or.inl rfl) | exact Or.inr (Or.inr rfl)) (hd : (n == ("__debug__" : Str)) = false := by decide) (hcd : (n == ("__classdict__" : Str)) = false := by decide)
    (hg : Gl X fn := by rfl) (hdb : (fn == ("__debug__" : Str)) = false := by decide) (n1 : NSt X (.Name n p2) := by intro _; rfl) (hpl : (backTo pos (starEach [] X.env)).any (·.1) = false := by rfl) :
    PN X B (.Call (.Name fn p) [.Name n p2] [] pos) ss (oneD m) := fun σ F H s Q h => by
  obtain ⟨f, fd, ps, FE, hm, hk, hb⟩ := cf
  refine sem_of (pe_callE (q := q) FE hr hq hg hm hk hb (pa_cons (pe_var hN hv hd hcd) pa_nil (n1 [])) hdb (n1 []) hpl) ⟨.ref q.1, s.slot i _ hs, m, E, F, rfl, s.fh, hz, hf, kd, ?_⟩
  exact fun l vs F2 H2 g2 nn nf h2 r2 => h l vs F2 H2 g2 nn nf h2 r2
end
end G

namespace G
open PySem L2
/-! ### isinstance of data -/
def tyD : PyData → Option String
  | .none => some "NoneType"
  | .bool _ => some "bool"
  | .int _ => some "int"
  | .str _ => some "str"
  | .list _ => some "list"
  | .tuple _ => some "tuple"
  | _ => none
theorem sqt_ty {K : PySem.W.Frag} {H : Hp} {a : Addr} {xs : List V} (h : SqT K H a xs) : TyX K H (.ref a) (.type "tuple") := by
  rcases h with (h | ⟨o, h⟩) | ⟨o, its, n, h1, h2, _⟩
  · exact .base (.tup h)
  · exact .fTuple h
  · exact .kTuple h1 h2
theorem rp_ty {K : PySem.W.Frag} {C : Addr} {H : Hp} {v : V} {d : PyData} {t : String} (r : Rp K C H v d) (h : tyD d = some t) : TyX K H v (.type t) := by
  cases r with
  | non => cases h; exact .base .non
  | bl b => cases h; exact .base (.bl b)
  | int i => cases h; exact .base (.int i)
  | str x => cases h; exact .base (.str x)
  | lst h1 _ => cases h; exact .base (.lst h1)
  | tup h1 _ => cases h; exact sqt_ty h1
  | flr _ _ _ => cases h
  | scr _ => cases h
section
variable {X : Cx} {B : Bs} {ss : List SD} {e a b c : Expr} {es : List Expr} {pos p p2 p3 p4 p5 : Pos} {d x y z : PyData} {ds ds' : List PyData} {rest body orelse : List Stmt} {st : Stmt} {D : Ends}
theorem pd_isi {n : Str} {t : String} {k : Bool} (T : String) (ha : PB X B e ss d) (hty : tyD d = some t) (hk : kitB t T = some k) (hm : X.mg "isinstance" = none) (hmT : X.mg n = none) (hv : bootBuiltins n = some (.type T) := by decide +kernel) (hg : Gl X "isinstance" := by rfl) (hg2 : Gl X n := by rfl) (hnn : n ≠ "__name__" := by decide) (hdb : (n == ("__debug__" : Str)) = false := by decide)
    (hb : bootBuiltins "isinstance" = some (.builtin "isinstance") := by decide +kernel) (n1 : NSt X e := by intro _; rfl) (n2 : NSt X (.Name n p2) := by intro _; rfl) (hpl : (backTo pos (starEach [.Name n p2] X.env)).any (·.1) = false := by rfl) :
    PD X B (.Call (.Name "isinstance" p) [e, .Name n p2] [] pos) ss (.bool k) := fun σ F H s Q q =>
  sem_of (pe_callB call_isi hg hm hb (pa_cons pe_sem (pa_cons (pe_bltn (v := .ty T) hg2 hmT hv rfl hnn hdb) pa_nil (n2 [])) (n1 [.Name n p2])) (by decide) (by decide) (n1 [.Name n p2]) hpl)
    (ha σ F H s _ fun v F1 H1 g r => ⟨v, .ty T, .type t, .type T, k, rfl, .ty T, rp_ty r hty, kit_ty hk, q _ F1 H1 g (.bl k)⟩)
end
theorem eqv_refl {n : Nat} {d : PyData} (h : Pl n d) : PyData.eqv d d = true := by
  have all : ∀ {n : Nat} {ds : List PyData}, (∀ d ∈ ds, PyData.eqv d d = true) → PyData.eqvAll ds ds = true := by
    intro n ds
    induction ds with
    | nil => intro _; simp [PyData.eqvAll]
    | cons d r ih =>
      intro q
      simp only [PyData.eqvAll, Bool.and_eq_true]
      exact ⟨q d List.mem_cons_self, ih fun e he => q e (List.mem_cons_of_mem _ he)⟩
  induction h with
  | non => simp [PyData.eqv]
  | bl => simp [PyData.eqv]
  | int => simp [PyData.eqv]
  | str _ => simp [PyData.eqv]
  | @lst n ds _ ih => simp only [PyData.eqv]; exact all (n := n) ih
  | @tup n ds _ ih => simp only [PyData.eqv]; exact all (n := n) ih
end G

namespace G
open PySem L2
/-! ### a tuple with a list that may change within -/
def tolP (K : PySem.W.Frag) (C : Addr) (n i j : Nat) (ds : List PyData) (d2 : PyData) : Hp → V → Hp → Hp → Prop := fun H v F' H' =>
  ∃ (t l : Addr) (us vs : List V) (w : V), v = .ref t ∧ SqT K F' t us ∧ us.length = n ∧ us[i]? = some (.ref l) ∧ us[j]? = some w ∧ H l = none ∧ F' l = none ∧ H' l = some (.lst vs) ∧ RpAll K C F' vs ds ∧ Rp K C F' w d2
theorem tolP_grow {K : PySem.W.Frag} {C : Addr} {n i j : Nat} {ds : List PyData} {d2 : PyData} {H0 F H F' H' : Hp} {v : V} (h : tolP K C n i j ds d2 H0 v F H) (g : Grow F H F' H') : tolP K C n i j ds d2 H0 v F' H' := by
  obtain ⟨t, l, us, vs, w, e, h1, hl, h2, h3, h4, h5, h6, h7, h8⟩ := h
  exact ⟨t, l, us, vs, w, e, Same.sqt g.ff h1, hl, h2, h3, h4, g.own l _ h6 h5, g.hh l _ h6, h7.mono g.ff, h8.mono g.ff⟩
theorem tolP_from {K : PySem.W.Frag} {C : Addr} {n i j : Nat} {ds : List PyData} {d2 : PyData} {H0 H1 F' H' : Hp} {v : V} (e : Same H0 H1) (h : tolP K C n i j ds d2 H1 v F' H') : tolP K C n i j ds d2 H0 v F' H' := by
  obtain ⟨t, l, us, vs, w, e1, h1, hl, h2, h3, h4, h⟩ := h
  exact ⟨t, l, us, vs, w, e1, h1, hl, h2, h3, e.free h4, h⟩
def noOwn : List SD → Bool
  | [] => true
  | .own _ :: _ => false
  | _ :: r => noOwn r
theorem noOwn_at : ∀ {ss : List SD} {j : Nat} {es : List PyData}, noOwn ss = true → ss[j]? ≠ some (.own es)
  | [], j, es, _ => by simp
  | x :: r, 0, es, n => fun e => by
    have e' : x = .own es := Option.some.inj (by simpa using e)
    subst e'
    simp [noOwn] at n
  | x :: r, j + 1, es, n => fun e => by
    refine noOwn_at (ss := r) (j := j) (es := es) ?_ (by simpa using e)
    cases x with
    | own ds => simp [noOwn] at n
    | un => exact n
    | dat d => exact n
    | bor d => exact n
    | val v => exact n
    | fro P => exact n
    | dic w kvs => exact n
    | raw P => exact n
section
variable {X : Cx} {B : Bs} {ss : List SD} {e a b c : Expr} {es : List Expr} {pos p p2 p3 p4 p5 : Pos} {d x y z : PyData} {ds ds' : List PyData} {rest body orelse : List Stmt} {st : Stmt} {D : Ends}
  {α : Type} {args : α → List PyData} {pre : α → Prop} {out : α → Out} {fn : Str} {k : Nat}
def PRw (X : Cx) (B : Bs) (e : Expr) (ss : List SD) (P : Hp → V → Hp → Hp → Prop) : Prop := ∀ (σ : St) (F H : Hp), Sat X.K B ss σ F H → ∀ Q : VK, (∀ v F' H', Grow F H F' H' → P H v F' H' → Q v H') → tSem X e σ H Q
theorem pr_call {P : Hp → V → Hp → Hp → Prop} (cf : Cal X.prog X.w X.K X.mg X.base fn k (spO X.K B.C args pre out)) (hr : Room k X.A) (u : α) (ha : PDs X B (e :: es) ss (args u)) (ho : out u = .raw P) (hp : pre u) (hP : ∀ {H0 H1 F' H' : Hp} {v : V}, Same H0 H1 → P H1 v F' H' → P H0 v F' H') (hg : Gl X fn := by rfl)
    (hdb : (fn == ("__debug__" : Str)) = false := by decide) (he : starEach (e :: es) X.env = (false, eval e X.env) :: starEach es X.env := by rfl) (hpl : (backTo pos (starEach es X.env)).any (·.1) = false := by rfl) :
    PRw X B (.Call (.Name fn p) (e :: es) [] pos) ss P := fun σ F H s Q q => by
  obtain ⟨f, fd, ps, F0, hm, hk, hb⟩ := cf
  refine sem_of (pe_call (dvs := []) (ds := []) F0 hr hg hm hk hb .nil passL pa_sem hdb he hpl) (ha σ F H s _ fun vs F1 H1 g r => ?_)
  refine ⟨u, F1, hp, g.fh, by rw [List.append_nil]; exact r, ?_⟩
  rw [ho]
  exact fun v F2 H2 g2 r2 => q v F2 H2 (g.trans g2) (hP g.hh r2)
/-- x = .. -/
theorem go_asgT {n i' j' : Nat} (i : Nat) {x : Str} (hN : X.N.Nodup) (he : PRw X B e ss (tolP X.K B.C n i' j' ds d)) (h : Go X B rest (ss.set i (.raw fun v F' H' => tolP X.K B.C n i' j' ds d B.H0 v F' H')) D) (hi : X.N[i]? = some x := by rfl) (hx : Loc X.env.scope x := by first | exact Or.inl rfl | exact Or.inr rfl) (hs : swapsWith e (some (.Name x p)) pos.line X.env = pure false := by rfl)
    (hf : X.fn x = true ∨ X.env.scope.names.lookup x = some .local := by first | exact .inl rfl | exact .inr rfl) : Go X B (.Assign [.Name x p] e pos :: rest) ss D :=
  go_step (ps_set hN hi hx pe_sem hs hf) fun σ F H s => he σ F H s _ fun v F1 H1 g r => h _ F1 H1 ((s.grow g).set_raw fun F2 H2 g2 => tolP_grow (tolP_from s.g.hh r) g2)
/-- x[k], the list within -/
theorem pl_tol {n i' j' : Nat} {kk : Int} {x : Str} {jj : Nat} (i : Nat) (hs : ss[i]? = some (.raw fun v F' H' => tolP X.K B.C n i' j' ds d B.H0 v F' H')) (hk : ixN n kk = some i') (hN : X.N[i]? = some x := by rfl) (hv : Vis X.env.scope x := by first | exact Or.inl rfl | exact Or.inr (Or.inl rfl) | exact Or.inr (Or.inr rfl)) (hd : (x == ("__debug__" : Str)) = false := by decide)
    (hcd : (x == ("__classdict__" : Str)) = false := by decide) (hx : PlainIx (.Constant (.int kk) jj p2) := by intro _ _; rfl) : PLi X B (.Subscript (.Name x p) (.Constant (.int kk) jj p2) pos) ss ds := fun σ F H s Q q => by
  obtain ⟨v, ev, hP⟩ := s.slot i _ hs
  obtain ⟨t, l, us, vs, w, rfl, h1, hl, h2, h3, h4, h5, h6, h7, h8⟩ := hP F H (Grow.refl s.fh)
  exact sem_of (pe_ix ix_seq (pe_var hN hv hd hcd) pe_int hx) ⟨.ref t, ev, .inr (.inl ⟨t, us, kk, .ref l, rfl, rfl, Same.sqt s.fh h1, by unfold atI; rw [hl, hk]; exact h2, q l vs F H (Grow.refl s.fh) (SqL.of h6) h7⟩)⟩
theorem pd_tol {n i' j' : Nat} {kk : Int} {x : Str} {jj : Nat} (i : Nat) (hs : ss[i]? = some (.raw fun v F' H' => tolP X.K B.C n i' j' ds d B.H0 v F' H')) (hk : ixN n kk = some j') (hN : X.N[i]? = some x := by rfl) (hv : Vis X.env.scope x := by first | exact Or.inl rfl | exact Or.inr (Or.inl rfl) | exact Or.inr (Or.inr rfl)) (hd : (x == ("__debug__" : Str)) = false := by decide)
    (hcd : (x == ("__classdict__" : Str)) = false := by decide) (hx : PlainIx (.Constant (.int kk) jj p2) := by intro _ _; rfl) : PD X B (.Subscript (.Name x p) (.Constant (.int kk) jj p2) pos) ss d := fun σ F H s Q q => by
  obtain ⟨v, ev, hP⟩ := s.slot i _ hs
  obtain ⟨t, l, us, vs, w, rfl, h1, hl, h2, h3, h4, h5, h6, h7, h8⟩ := hP F H (Grow.refl s.fh)
  exact sem_of (pe_ix ix_seq (pe_var hN hv hd hcd) pe_int hx) ⟨.ref t, ev, .inr (.inl ⟨t, us, kk, w, rfl, rfl, Same.sqt s.fh h1, by unfold atI; rw [hl, hk]; exact h3, q w F H (Grow.refl s.fh) h8⟩)⟩
/-- isinstance(e, list) -/
theorem sql_ty {K : PySem.W.Frag} {H : Hp} {a : Addr} {xs : List V} (h : SqL K H a xs) : TyX K H (.ref a) (.type "list") := by
  rcases h with (h | ⟨o, h⟩) | ⟨o, its, n, h1, h2, _⟩
  · exact .base (.lst h)
  · exact .base (.frz h)
  · exact .kList h1 h2
theorem pd_isiL {n : Str} (ha : PLi X B e ss ds) (hm : X.mg "isinstance" = none) (hmT : X.mg n = none) (hn : n = ("list" : Str) := by rfl) (hv : bootBuiltins n = some (.type "list") := by decide +kernel) (hg : Gl X "isinstance" := by rfl) (hg2 : Gl X n := by rfl) (hnn : n ≠ "__name__" := by decide) (hdb : (n == ("__debug__" : Str)) = false := by decide)
    (hb : bootBuiltins "isinstance" = some (.builtin "isinstance") := by decide +kernel) (n1 : NSt X e := by intro _; rfl) (n2 : NSt X (.Name n p2) := by intro _; rfl) (hpl : (backTo pos (starEach [.Name n p2] X.env)).any (·.1) = false := by rfl) :
    PD X B (.Call (.Name "isinstance" p) [e, .Name n p2] [] pos) ss (.bool true) := fun σ F H s Q q =>
  sem_of (pe_callB call_isi hg hm hb (pa_cons pe_sem (pa_cons (pe_bltn (v := .ty "list") hg2 hmT hv rfl hnn hdb) pa_nil (n2 [])) (n1 [.Name n p2])) (by decide) (by decide) (n1 [.Name n p2]) hpl)
    (ha σ F H s _ fun l vs F1 H1 g sq r => ⟨.ref l, .ty "list", .type "list", .type "list", true, rfl, .ty "list", sql_ty sq, kit_ty (by decide +kernel), q _ F1 H1 g (.bl true)⟩)
/-- return (x, y), x a list of its own -/
theorem go_retT (i j : Nat) {x y : Str} {kx : Nat} (hs : ss[i]? = some (.own ds)) (hs2 : ss[j]? = some (.dat d)) (k : ∀ v F H, Grow B.F0 B.H0 F H → tolP X.K B.C 2 0 1 ds d B.H0 v F H → D.rt v H)
    (hN : X.N[i]? = some x := by rfl) (hv : Vis X.env.scope x := by first | exact Or.inl rfl | exact Or.inr (Or.inl rfl) | exact Or.inr (Or.inr rfl)) (hd : (x == ("__debug__" : Str)) = false := by decide) (hcd : (x == ("__classdict__" : Str)) = false := by decide)
    (hN2 : X.N[j]? = some y := by rfl) (hv2 : Vis X.env.scope y := by first | exact Or.inl rfl | exact Or.inr (Or.inl rfl) | exact Or.inr (Or.inr rfl)) (hd2 : (y == ("__debug__" : Str)) = false := by decide) (hcd2 : (y == ("__classdict__" : Str)) = false := by decide)
    (n1 : NSt X (.Name x p) := by intro _; rfl) (n2 : NSt X (.Name y p2) := by intro _; rfl) : Go X B (.Return (some (.Tuple [.Name x p, .Name y p2] kx p3)) pos :: rest) ss D :=
  go_step (ps_ret (pe_tup (pa_cons (pe_var hN hv hd hcd) (pa_cons (pe_var hN2 hv2 hd2 hcd2) pa_nil (n2 [])) (n1 [.Name y p2])))) fun σ F H s => by
    obtain ⟨l, vs, el, h0, n, hl, r⟩ := s.slot i _ hs
    obtain ⟨w, ew, rw_⟩ := s.slot j _ hs2
    refine ⟨_, el, _, ew, Nat.le_of_ble_eq_true rfl, fun t ht => ?_⟩
    have nl : F l = none := n
    have g := Grow.new (o := .tup [.ref l, w]) s.fh ht
    refine k _ (upd F t (.tup [.ref l, w])) _ (s.g.trans g) ⟨t, l, [.ref l, w], vs, w, rfl, SqT.of upd_same, rfl, rfl, rfl, h0, g.own l _ hl nl, g.hh l _ hl, r.mono g.ff, rw_.mono g.ff⟩
/-- x[k].append(e): what stood within has changed, x is let go -/
theorem go_tolApp {n i' j' : Nat} {kk : Int} {x : Str} {jj : Nat} {p6 : Pos} (i : Nat) (hs : ss[i]? = some (.raw fun v F' H' => tolP X.K B.C n i' j' ds d B.H0 v F' H')) (hk : ixN n kk = some i') (he : PD X B e ss y) (h : Go X B rest (ss.set i .un) D) (hz : ds.length < sizeLine)
    (nr : noRaw (ss.set i .un) = true := by rfl) (no : ∀ (j : Nat) (es : List PyData), (ss.set i .un)[j]? ≠ some (.own es))
    (hN : X.N[i]? = some x := by rfl) (hv : Vis X.env.scope x := by first | exact Or.inl rfl | exact Or.inr (Or.inl rfl) | exact Or.inr (Or.inr rfl)) (hd : (x == ("__debug__" : Str)) = false := by decide) (hcd : (x == ("__classdict__" : Str)) = false := by decide) (hx : PlainIx (.Constant (.int kk) jj p2) := by intro _ _; rfl)
    (hpe : ∀ {t : TE}, PE X (.Subscript (.Name x p) (.Constant (.int kk) jj p2) p3) t → PE X (.Call (.Attribute (.Subscript (.Name x p) (.Constant (.int kk) jj p2) p3) "append" p4) [e] [] p5) (tBM X.K "list" rAppend t (tCons (tSem X e) tNil)) := by
      intro _ ht; exact pe_bm PySem.F.plainAttrs_list PySem.F.slot_list_append PySem.F.type_list_append mt_append ht (pa_cons pe_sem pa_nil))
    (hsw : swapsWith (.Call (.Attribute (.Subscript (.Name x p) (.Constant (.int kk) jj p2) p3) "append" p4) [e] [] p5) none p6.line X.env = pure false := by rfl) :
    Go X B (.Expr (.Call (.Attribute (.Subscript (.Name x p) (.Constant (.int kk) jj p2) p3) "append" p4) [e] [] p5) p6 :: rest) ss D :=
  go_step (ps_expr (hpe (pe_ix ix_seq (pe_var hN hv hd hcd) pe_int hx)) hsw) fun σ F H s => by
    obtain ⟨v, ev, hP⟩ := s.slot i _ hs
    obtain ⟨t, l, us, vs, w, rfl, h1, hl, h2, h3, h4, h5, h6, h7, h8⟩ := hP F H (Grow.refl s.fh)
    refine ⟨.ref t, ev, .inr (.inl ⟨t, us, kk, .ref l, rfl, rfl, Same.sqt s.fh h1, by unfold atI; rw [hl, hk]; exact h2, ?_⟩)⟩
    refine .inl ⟨rfl, vs, SqL.of h6⟩ |> fun z => ⟨z, he σ F H s _ fun u F1 H1 g r1 => ⟨l, vs, u, rfl, rfl, g.hh _ _ h6, by rw [h7.length]; exact hz, ?_⟩⟩
    have wk : Sat X.K B (ss.set i .un) σ F1 H1 := by
      have s1 := s.grow g
      refine ⟨s1.g, s1.pin, by rw [List.length_set]; exact s1.len, fun j sd q => ?_, fun a' b' es1 es2 _ q1 _ => (no a' es1 q1).elim⟩
      by_cases hj : i = j
      · subst hj
        have hi : i < ss.length := by
          have := (List.getElem?_eq_some_iff.mp q).1
          rwa [List.length_set] at this
        rw [List.getElem?_set_self hi] at q
        cases q; trivial
      · rw [List.getElem?_set_ne hj] at q
        exact s1.slot j sd q
    exact h σ F1 _ (wk.upd h4 (g.own l _ h6 h5) nr (fun j es q => (no j es q).elim) (nx_lst (g.hh _ _ h6)))
end
end G

namespace G
open PySem L2 PySem.Spec PyProof.Rows
theorem tuple_mul1 (l : Addr) (items : Array Value) (n : Nat) (dd : Option Addr) (sl : Array (Option Value)) (u : Tok) :
    Meets (Builtin.«tuple.__mul__» ⟨[.ref l, .int 1 u], []⟩) (fun _ R s => s.heap.get? l = some { cls := .type "tuple", dict := dd, data := .seq items n, slots := sl } ∧ R (.ok (.ret (Value.ref l))) s) :=
  .of_wp fun prog w A R s h => by
    obtain ⟨hp, g, d, tk, os⟩ := s
    obtain ⟨hl, k⟩ := h
    have f1 := AutoSeq1.idx_int
    have c1 : (items.isEmpty || (1 : Int) == 1) = true := by simp
    wp_walk using wpAny_loadPart' hl
    repeat (first
      | (refine wpAny_ite_true (decide_eq_true (by rw [c1])) ?_; wp_walk using wpAny_loadPart' hl)
      | (refine wpAny_ite_true c1 ?_; wp_walk using wpAny_loadPart' hl))
    exact ⟨_, rfl, k⟩
def rRep1 (K : PySem.W.Frag) : R2 := fun x y H Q => ∃ (l : Addr) (xs : List V), x = .ref l ∧ y = .int 1 ∧ SqT K H l xs ∧ Q (.ref l) H
theorem op_rep1 {X : Cx} : OpR X (binaryOp .Mult) (rRep1 X.K) := by
  rintro pins s σ H x y v u Q I rx ry ⟨l, xs, rfl, rfl, hT, q⟩
  cases rx
  obtain ⟨t, rfl⟩ := ry
  obtain ⟨its, r, ⟨⟨cls, dd, data, sl⟩, here, hc, n, hd⟩, hs⟩ := I.tuple hT
  simp only at hc hd
  subst hc hd
  refine wpAny_binaryOp_repeat_ref (T := "tuple") (U := "int") (by decide) ⟨_, here, rfl⟩ (fun s' => typeIs_int s' 1 t) noFill_tuple_mul F.fills_int_mul F.slot_int_rmul repeat_tuple F.slot_int_index.lookup ?_
  refine call_meets F.slot_int_rmul (typeIs_int s 1 t) F.entry_int_rmul (F.args_int_rmul_2 _ _) (int_rmul_tuple 1 t l its.toArray n dd sl) ⟨here, rfl, ⟨_, here, rfl⟩, ?_⟩
  exact call_meets F.slot_tuple_mul ⟨_, here, rfl⟩ F.entry_tuple_mul (F.args_tuple_mul_2 _ _) (tuple_mul1 l its.toArray n dd sl t) ⟨here, .ref l, H, I, rfl, q⟩
section
variable {X : Cx} {B : Bs} {ss : List SD} {a b : Expr} {pos : Pos} {ds : List PyData}
theorem pd_rep1 (ha : PD X B a ss (.tuple ds)) (hb : PD X B b ss (.int 1)) : PD X B (.BinOp a .Mult b pos) ss (.tuple ds) := pd_op op_rep1 ha hb fun F H v w f r1 r2 Q q => by
  cases r2
  cases r1 with
  | tup h1 q1 => exact ⟨_, _, rfl, rfl, Same.sqt f h1, q _ F H (Grow.refl f) (.tup h1 q1)⟩
/-- chained comparison, as a value -/
theorem pd_chain {op op' : CmpOp} {f f' : Int → Int → Bool} {c : Expr} {i j k : Int} (ho : OpR X (compareOp op) (rI0 fun i j => .bl (f i j))) (ho' : OpR X (compareOp op') (rI0 fun i j => .bl (f' i j))) (ha : PD X B a ss (.int i)) (hb : PD X B b ss (.int j)) (hc : PD X B c ss (.int k))
    (hm : lastMarks [op, op'] [b, c] = false := by with_unfolding_all rfl) : PD X B (.Compare a [op, op'] [b, c] pos) ss (.bool (f i j && f' j k)) := fun σ F H s Q q =>
  sem_of (pe_chain ho ho' pe_sem pe_sem pe_sem hm) (ha σ F H s _ fun v F1 H1 g1 r1 => hb σ F1 H1 (s.grow g1) _ fun w F2 H2 g2 r2 => by
    cases r1; cases r2
    refine ⟨i, j, rfl, rfl, f i j, rfl, ?_⟩
    cases hf : f i j with
    | false =>
      refine iteF ?_
      rw [hf] at q
      exact q _ F2 H2 (g1.trans g2) (.bl _)
    | true =>
      refine iteT ?_
      rw [hf, Bool.true_and] at q
      exact hc σ F2 H2 (s.grow (g1.trans g2)) _ fun u F3 H3 g3 r3 => by
        cases r3
        exact ⟨j, k, rfl, rfl, q _ F3 H3 ((g1.trans g2).trans g3) (.bl _)⟩)
end
end G

namespace G
open PySem L2
/-! ### a list of one's own is lent to a def, which may change it; behind the call it is let go -/
def hole (H : Hp) (a : Addr) : Hp := fun b => if b = a then none else H b
theorem hole_at (H : Hp) (a : Addr) : hole H a a = none := if_pos rfl
theorem hole_ne {H : Hp} {a b : Addr} (h : b ≠ a) : hole H a b = H b := if_neg h
theorem hole_to {H G : Hp} {a : Addr} (e : Same G H) (n : G a = none) : Same G (hole H a) := fun b o q => by
  rw [hole_ne (ne_of_none q n)]; exact e b o q
theorem Sat.unset {K : PySem.W.Frag} {B : Bs} {ss : List SD} {σ : St} {F H : Hp} (h : Sat K B ss σ F H) (i : Nat) : Sat K B (ss.set i .un) σ F H := by
  refine ⟨h.g, h.pin, by rw [List.length_set]; exact h.len, fun j sd q => ?_, fun j k xs ys hjk q1 q2 => ?_⟩
  · by_cases hj : i = j
    · subst hj
      have hi : i < ss.length := by
        have := (List.getElem?_eq_some_iff.mp q).1
        rwa [List.length_set] at this
      rw [List.getElem?_set_self hi] at q
      cases q; trivial
    · rw [List.getElem?_set_ne hj] at q
      exact h.slot j sd q
  · have f : ∀ {k : Nat} {xs : List PyData}, (ss.set i .un)[k]? = some (.own xs) → ss[k]? = some (.own xs) := fun {k xs} q => by
      by_cases hk : i = k
      · subst hk
        have hi : i < ss.length := by
          have := (List.getElem?_eq_some_iff.mp q).1
          rwa [List.length_set] at this
        rw [List.getElem?_set_self hi] at q; cases q
      · rw [List.getElem?_set_ne hk] at q; exact q
    exact h.ne j k xs ys hjk (f q1) (f q2)
theorem Sat.hole {K : PySem.W.Frag} {B : Bs} {ss : List SD} {σ : St} {F H : Hp} {i : Nat} {a : Addr} {ds : List PyData} (h : Sat K B ss σ F H) (hs : ss[i]? = some (.own ds)) (ea : σ[i]? = some (some (.ref a))) (nr : noRaw ss = true) : Sat K B (ss.set i .un) σ F (hole H a) := by
  obtain ⟨a', vs, ea', a0, n, ha, r⟩ := h.slot i _ hs
  rw [ea] at ea'
  cases ea'
  have hi : i < ss.length := (List.getElem?_eq_some_iff.mp hs).1
  have u := h.unset i
  refine ⟨⟨hole_to u.g.hh a0, u.g.ff, hole_to u.g.fh n, u.g.own⟩, u.pin, u.len, fun j sd q => ?_, u.ne⟩
  by_cases hj : i = j
  · subst hj
    rw [List.getElem?_set_self hi] at q
    cases q; trivial
  · have z := u.slot j sd q
    rw [List.getElem?_set_ne hj] at q
    cases sd with
    | un => trivial
    | dat d => exact z
    | bor d => exact z
    | val v => exact z
    | fro P => exact z
    | dic w kvs =>
      obtain ⟨b, e1, b0, nb, hb⟩ := z
      exact ⟨b, e1, b0, nb, hb.mono (Same.refl _) (.inl (hole_ne (hb.ne (nx_lst ha))).symm)⟩
    | raw P => exact (noRaw_at nr q).elim
    | own es =>
      obtain ⟨b, ws, eb, b0, nb, hb, rb⟩ := z
      have nab : b ≠ a := fun y => h.ne i j ds es hj hs q (by rw [ea, eb, y])
      exact ⟨b, ws, eb, b0, nb, by rw [hole_ne nab]; exact hb, rb⟩
section
variable {X : Cx} {B : Bs} {ss ss' : List SD} {e a b c : Expr} {es : List Expr} {pos p p2 p3 : Pos} {d x y z : PyData} {ds ds' : List PyData} {rest body orelse : List Stmt} {st : Stmt} {D : Ends}
  {α : Type} {args ow : α → List PyData} {pre : α → Prop} {out : α → PyData} {fn : Str} {k : Nat}
def PDS (X : Cx) (B : Bs) (e : Expr) (ss : List SD) (d : PyData) (ss' : List SD) : Prop := ∀ (σ : St) (F H : Hp), Sat X.K B ss σ F H → ∀ Q : VK, (∀ v F' H', Sat X.K B ss' σ F' H' → Rp X.K B.C F' v d → Q v H') → tSem X e σ H Q
def TDS (X : Cx) (B : Bs) (e : Expr) (ss : List SD) (u : Bool) (ss' : List SD) : Prop := ∀ (σ : St) (F H : Hp), Sat X.K B ss σ F H → ∀ Q : Bool → Hp → Prop, (∀ F' H', Sat X.K B ss' σ F' H' → Q u H') → tSemT X e σ H Q
def TWS (X : Cx) (B : Bs) (e : Expr) (ss : List SD) (u : Bool) (ss' : List SD) : Prop := ∀ (σ : St) (F H : Hp), Sat X.K B ss σ F H → ∀ Q : Bool → Hp → Prop, (∀ F' H', Sat X.K B ss' σ F' H' → Q u H') → tSemW X e σ H Q
theorem TWS.t {u : Bool} (h : TWS X B e ss u ss') : TDS X B e ss u ss' := fun σ F H s Q q => semT_of (PW.pt pw_sem) (h σ F H s Q q)
theorem tws_or1 {u : Bool} (ha : TDS X B a ss u ss') : TWS X B (.BoolOp .Or [a] pos) ss u ss' := fun σ F H s Q q => semW_of (pw_or1 pt_sem) (ha σ F H s Q q)
theorem tws_or {u v : Bool} (ha : TD X B a ss u) (hu : u = false) (hb : TWS X B (.BoolOp .Or (b :: es) pos) ss v ss') : TWS X B (.BoolOp .Or (a :: b :: es) pos) ss v ss' := fun σ F H s Q q =>
  semW_of (pw_or pt_sem pw_sem) (ha σ F H s _ fun F1 H1 g1 => by
    subst hu
    exact iteF (hb σ F1 H1 (s.grow g1) Q q))
theorem tds_not {u : Bool} (ha : TDS X B a ss u ss') : TDS X B (.UnaryOp .Not a pos) ss (!u) ss' := fun σ F H s Q q => semT_of (pt_not pt_sem) (ha σ F H s _ fun F1 H1 g1 => q F1 H1 g1)
theorem tds_val {u : Bool} (ha : PDS X B e ss (.bool u) ss') (he : ∀ whole, isTrue e X.env whole = (do let v ← whole; standAt e.pos; holding [v] (truthy v)) := by intro _; rfl) : TDS X B e ss u ss' := fun σ F H s Q q =>
  semT_of (pt_val pe_sem he) (ha σ F H s _ fun v F1 H1 s1 r => by cases r; exact ⟨u, rfl, q F1 H1 s1⟩)
theorem go_ifS {u : Bool} (hc : TDS X B c ss u ss') (h1 : u = true → Go X B body ss' { D with nx := tSS X rest D }) (h2 : u = false → Go X B orelse ss' { D with nx := tSS X rest D }) : Go X B (.If c body orelse pos :: rest) ss D :=
  go_step (ps_if pt_sem pss_sem pss_sem) fun σ F H s => hc σ F H s _ fun F1 H1 s1 => by
    cases u with
    | true => exact iteT (h1 rfl σ F1 H1 s1)
    | false => exact iteF (h2 rfl σ F1 H1 s1)
theorem go_ifU {u : Bool} (i : Nat) (hc : TDS X B c ss u (ss.set i .un)) (h1 : u = true → Go X B body (ss.set i .un) { D with nx := tSS X rest D }) (h2 : u = false → Go X B orelse (ss.set i .un) { D with nx := tSS X rest D }) : Go X B (.If c body orelse pos :: rest) ss D := go_ifS hc h1 h2
/-- arguments, the last one a list of one's own -/
def PAL (X : Cx) (B : Bs) (es : List Expr) (ss : List SD) (ds : List PyData) (i : Nat) : Prop := ∀ (σ : St) (F H : Hp), Sat X.K B ss σ F H → ∀ Q : List V → Hp → Prop, (∀ us v F' H', Grow F H F' H' → σ[i]? = some (some v) → RpAll X.K B.C F' us ds → Q (us ++ [v]) H') → tSemA X es σ H Q
theorem pal_last (i : Nat) {x : Str} (hs : ss[i]? = some (.own ds')) (hN : X.N[i]? = some x := by rfl) (hv : Vis X.env.scope x := by first | exact Or.inl rfl | exact Or.inr (Or.inl rfl) | exact Or.inr (Or.inr rfl)) (hd : (x == ("__debug__" : Str)) = false := by decide)
    (hcd : (x == ("__classdict__" : Str)) = false := by decide) (hn : NSt X (.Name x p) := by intro _; rfl) : PAL X B [.Name x p] ss [] i := fun σ F H s Q q => by
  obtain ⟨a, vs, e, _⟩ := s.slot i _ hs
  exact semA_of (pa_cons (pe_var hN hv hd hcd) pa_nil (hn [])) ⟨_, e, q [] _ F H (Grow.refl s.fh) e .nil⟩
theorem pal_cons {i : Nat} (h : PD X B e ss d) (t : PAL X B es ss ds i) (hn : NSt X e := by intro _; rfl) : PAL X B (e :: es) ss (d :: ds) i := fun σ F H s Q q =>
  semA_of (pa_cons pe_sem pa_sem (hn es)) (h σ F H s _ fun v F1 H1 g1 r1 => t σ F1 H1 (s.grow g1) _ fun us w F2 H2 g2 ew r2 => q (v :: us) w F2 H2 (g1.trans g2) ew (.cons (r1.mono g2.ff) r2))
def spL (K : PySem.W.Frag) (C : Addr) (args ow : α → List PyData) (pre : α → Prop) (out : α → PyData) : Sp := fun vs H Q E =>
  ∃ (u : α) (F : Hp) (l : Addr) (ws us : List V), pre u ∧ vs = us ++ [.ref l] ∧ H l = some (.lst ws) ∧ F l = none ∧ Same F H ∧ RpAll K C F us (args u) ∧ RpAll K C F ws (ow u) ∧ ∀ v F' H', Grow F (hole H l) F' H' → Rp K C F' v (out u) → Q v H'
theorem pd_callL (i : Nat) (cf : Cal X.prog X.w X.K X.mg X.base fn k (spL X.K B.C args ow pre out)) (hr : Room k X.A) (u : α) (hs : ss[i]? = some (.own (ow u))) (ha : PAL X B (e :: es) ss (args u) i) (ho : out u = d) (hp : pre u) (nr : noRaw ss = true := by rfl) (hg : Gl X fn := by rfl)
    (hdb : (fn == ("__debug__" : Str)) = false := by decide) (he : starEach (e :: es) X.env = (false, eval e X.env) :: starEach es X.env := by rfl) (hpl : (backTo pos (starEach es X.env)).any (·.1) = false := by rfl) :
    PDS X B (.Call (.Name fn p) (e :: es) [] pos) ss d (ss.set i .un) := fun σ F H s Q q => by
  subst ho
  obtain ⟨f, fd, ps, F0, hm, hk, hb⟩ := cf
  refine sem_of (pe_call (dvs := []) (ds := []) F0 hr hg hm hk hb .nil passL pa_sem hdb he hpl) (ha σ F H s _ fun us v F1 H1 g ev r => ?_)
  have s1 := s.grow g
  obtain ⟨l, ws, el, l0, n, hl, rl⟩ := s1.slot i _ hs
  rw [ev] at el
  cases el
  refine ⟨u, F1, l, ws, us, hp, by rw [List.append_nil], hl, n, g.fh, r, rl, fun v' F2 H2 g2 r2 => q v' F2 H2 ((s1.hole hs ev nr).grow g2) r2⟩
end
section
variable {P : Program} {w : World} {K : PySem.W.Frag} {mg : Str → Option Value} {base : Heap}
theorem ok_fnL {x qual : Str} {st : Stmt} {f : Addr} {fd : FuncData} {N ps : List Str} {k : Nat} {C : Addr} {α : Type} {args ow : α → List PyData} {pre : α → Prop} {out : α → PyData} (F : L2.Fun K x qual st f fd) (S : FnScope N ps (defScope st)) (hl : ∀ a, (args a).length + 1 = ps.length)
    (body : ∀ (cdv : Value) (A : Around) (outer : List Env) (s : Shared) (H H1 F0 : Hp) (u : α) (Q : VK) (E : XK) (X : Cx) (hX : X = cxOf (L2.CX P w) P w K mg base N qual (defScope st) f cdv A outer s H E), Cxt X → Room k X.A → pre u → (∀ v F' H', Grow F0 H1 F' H' → Rp K C F' v (out u) → Q v H') →
      Go X ⟨C, F0, H1, F0⟩ (defBody st) ((args u).map SD.dat ++ [.own (ow u)] ++ List.replicate (N.length - ps.length) SD.un) (dE Q)) :
    FnOk P w K mg base (L2.CX P w) (k + 1) f fd ps (spL K C args ow pre out) := by
  have hNl : ps.length ≤ N.length := by have := congrArg List.length S.pre; rw [List.length_take] at this; omega
  refine F.okX S (fun vs H Q E h => ?_) (fun cdv A outer s H vs Q E hr h => ?_)
  · obtain ⟨u, F0, l, ws, us, _, rfl, _, _, _, r, _⟩ := h
    rw [List.length_append, r.length]; exact hl u
  · obtain ⟨u, F0, l, ws, us, hp, rfl, hH, hn, hf, r, rl, ho⟩ := h
    refine ⟨_, pss_sem, ?_⟩
    have cx : Cxt (cxOf (L2.CX P w) P w K mg base N qual (defScope st) f cdv A outer s H E) := ⟨rfl, S.nd, passes_of rfl, by have := hr.un; show (A.deeper _).units + 65 < cLine; omega⟩
    refine body cdv A outer s H (hole H l) F0 u Q E _ rfl cx hr hp ho _ F0 H ?_
    have ll := r.length
    have la := hl u
    have h1 : Same (hole H l) H := fun b o e => by
      by_cases hb : b = l
      · subst hb; rw [hole_at] at e; cases e
      · rw [hole_ne hb] at e; exact e
    refine ⟨⟨h1, Same.refl _, hf, fun _ _ _ z => z⟩, Same.refl _, ?_, fun i sd e => ?_, fun i j xs ys hij e1 e2 => ?_⟩
    · unfold L2.start
      simp only [List.length_append, List.length_map, List.length_replicate, List.length_singleton]
      omega
    · by_cases hi : i < (args u).length
      · rw [List.append_assoc, List.getElem?_append_left (by rw [List.length_map]; exact hi), List.getElem?_map, List.getElem?_eq_getElem hi] at e
        cases e
        obtain ⟨v, hv, rv⟩ := RpAll.get r (List.getElem?_eq_getElem hi)
        exact ⟨v, start_get (by rw [List.getElem?_append_left (by rw [ll]; exact hi)]; exact hv), rv⟩
      · by_cases h2 : i = (args u).length
        · subst h2
          rw [List.append_assoc, List.getElem?_append_right (by rw [List.length_map]; exact Nat.le_refl _), List.length_map, Nat.sub_self] at e
          cases e
          exact ⟨l, ws, start_get (by rw [← ll, List.getElem?_append_right (Nat.le_refl _), Nat.sub_self]; rfl), hole_at _ _, hn, hH, rl⟩
        · rw [List.getElem?_append_right (by rw [List.length_append, List.length_map, List.length_singleton]; omega), List.getElem?_replicate] at e
          split at e
          · cases e; trivial
          · cases e
    · have only : ∀ {i : Nat} {xs : List PyData}, ((args u).map SD.dat ++ [.own (ow u)] ++ List.replicate (N.length - ps.length) SD.un)[i]? = some (.own xs) → i = (args u).length := fun {i xs} e => by
        by_cases hi : i < (args u).length
        · rw [List.append_assoc, List.getElem?_append_left (by rw [List.length_map]; exact hi), List.getElem?_map, List.getElem?_eq_getElem hi] at e
          cases e
        · by_cases h2 : i = (args u).length
          · exact h2
          · rw [List.getElem?_append_right (by rw [List.length_append, List.length_map, List.length_singleton]; omega), List.getElem?_replicate] at e
            split at e
            · cases e
            · cases e
      exact (hij ((only e1).trans (only e2).symm)).elim
end
end G

namespace G
open PySem L2
/-! ### more of lists -/
theorem RpAll.bls {K : PySem.W.Frag} {C : Addr} {H : Hp} : ∀ {bs : List Bool} {vs : List V}, RpAll K C H vs (bs.map PyData.bool) → vs = bs.map V.bl
  | [], _, .nil => rfl
  | b :: r, _, .cons h t => by
    cases h
    rw [RpAll.bls t] <;> rfl
section
variable {X : Cx} {B : Bs} {ss ss' : List SD} {e a b c : Expr} {es : List Expr} {pos p p2 p3 p4 p5 p6 p7 : Pos} {d x y z : PyData} {ds ds' : List PyData} {rest body orelse : List Stmt} {st : Stmt} {D : Ends}
theorem pd_all {bs : List Bool} (hc : X.calm = true) (ha : PLi X B e ss (bs.map .bool)) (hm : X.mg "all" = none) (hv : bootBuiltins "all" = some (.builtin "all") := by decide +kernel) (hg : Gl X "all" := by rfl) (hn : NSt X e := by intro _; rfl) : PD X B (.Call (.Name "all" p) [e] [] pos) ss (.bool (bs.all id)) := fun σ F H s Q q =>
  sem_of (pe_callB (cr_all hc) hg hm hv (pa_cons pe_sem pa_nil (hn [])) (by decide) (by decide) (hn []) rfl) (ha σ F H s _ fun l vs F1 H1 g sq r => by
    have e := RpAll.bls r
    subst e
    exact ⟨l, bs, rfl, sq, q _ F1 H1 g (.bl _)⟩)
theorem eqV_int (i j : Int) : eqV (.int i) (.int j) = (i == j) := rfl
/-- x.index(e), numbers -/
theorem pd_index {ns : List Int} {k : Int} {j : Nat} (ha : PLi X B a ss (ns.map .int)) (hb : PD X B e ss (.int k)) (hj : ns[j]? = some k) (hno : ∀ m z, m < j → ns[m]? = some z → z ≠ k)
    (hpe : PE X (.Call (.Attribute a "index" p2) [e] [] p3) (tBM X.K "list" (rIndex X.K) (tSem X a) (tCons (tSem X e) tNil)) := by exact pe_bm PySem.F.plainAttrs_list PySem.F.slot_list_index PySem.F.type_list_index mt_index pe_sem (pa_cons pe_sem pa_nil)) : PD X B (.Call (.Attribute a "index" p2) [e] [] p3) ss (.int (j : Int)) := fun σ F H s Q q =>
  sem_of hpe (ha σ F H s _ fun l vs F1 H1 g1 sq r1 => ⟨.inl ⟨rfl, vs, sq⟩, hb σ F1 H1 (s.grow g1) _ fun w F2 H2 g2 r2 => by
    cases r2
    have e := RpAll.intsV r1
    subst e
    refine ⟨l, ns.map V.int, .int k, j, .int k, rfl, rfl, g2.hh.seq sq, rfl, ?_, by rw [List.getElem?_map, hj]; rfl, by rw [eqV_int]; exact beq_self_eq_true k, fun m z' hm hz => ?_, q _ F2 H2 (g1.trans g2) (.int _)⟩
    · rw [List.all_eq_true]
      intro v hv
      obtain ⟨n, _, rfl⟩ := List.mem_map.mp hv
      rfl
    · rw [List.getElem?_map] at hz
      cases hn : ns[m]? with
      | none => rw [hn] at hz; cases hz
      | some n =>
        rw [hn] at hz
        cases hz
        rw [eqV_int]
        exact beq_eq_false_iff_ne.mpr (hno m n hm hn)⟩)
/-- x.append(y.pop(e)) -/
theorem go_appPop (i j : Nat) {x y : Str} {k : Int} {m : Nat} (hij : i ≠ j) (hs0 : ss[i]? = some (.own ds)) (hs1 : ss[j]? = some (.own ds')) (hk : PD X B a ss (.int k)) (hm : ixN ds'.length k = some m) (hd : ds'[m]? = some d) (hz : ds.length < sizeLine) (hz' : ds'.length < 2 ^ 62)
    (h : Go X B rest ((ss.set j (.own (ds'.eraseIdx m))).set i (.own (ds ++ [d]))) D) (nr : noRaw ss = true := by rfl) (nr2 : noRaw (ss.set j (.own (ds'.eraseIdx m))) = true := by rfl)
    (hpe : PE X (.Call (.Attribute (.Name x p) "append" p2) [.Call (.Attribute (.Name y p4) "pop" p5) [a] [] p6] [] p3) (tBM X.K "list" rAppend (tVar i) (tCons (tBM X.K "list" rPopAt (tVar j) (tCons (tSem X a) tNil)) tNil)) := by
      exact pe_bm PySem.F.plainAttrs_list PySem.F.slot_list_append PySem.F.type_list_append mt_append (pe_var (by rfl) (by first | exact Or.inl rfl | exact Or.inr (Or.inl rfl) | exact Or.inr (Or.inr rfl)) (by decide) (by decide)) (pa_cons (pe_bm PySem.F.plainAttrs_list PySem.F.slot_list_pop PySem.F.type_list_pop mt_popAt (pe_var (by rfl) (by first | exact Or.inl rfl | exact Or.inr (Or.inl rfl) | exact Or.inr (Or.inr rfl)) (by decide) (by decide)) (pa_cons pe_sem pa_nil)) pa_nil))
    (hs : swapsWith (.Call (.Attribute (.Name x p) "append" p2) [.Call (.Attribute (.Name y p4) "pop" p5) [a] [] p6] [] p3) none p7.line X.env = pure false := by rfl) : Go X B (.Expr (.Call (.Attribute (.Name x p) "append" p2) [.Call (.Attribute (.Name y p4) "pop" p5) [a] [] p6] [] p3) p7 :: rest) ss D :=
  go_step (ps_expr hpe hs) fun σ F H s => by
    obtain ⟨q, vs, ea, a0, n, ha, r⟩ := s.slot i _ hs0
    refine ⟨_, ea, .inl ⟨rfl, vs, SqL.of ha⟩, ?_⟩
    obtain ⟨q', vs', ea', a0', n', ha', r'⟩ := s.slot j _ hs1
    refine ⟨_, ea', .inl ⟨rfl, vs', SqL.of ha'⟩, hk σ F H s _ fun w F1 H1 g r1 => ?_⟩
    cases r1
    obtain ⟨v, hv, rv⟩ := RpAll.get r' hd
    obtain ⟨q1, q2, q3, q4⟩ := ixN_seq hm
    have ll := r'.length
    have s1 := (s.grow g).mut hs1 ea' nr ((r'.mono g.ff).erase m)
    have hs0' : (ss.set j (.own (ds'.eraseIdx m)))[i]? = some (.own ds) := by rw [List.getElem?_set_ne (Ne.symm hij)]; exact hs0
    obtain ⟨q2', vs2, ea2, b0, n2, ha2, r2⟩ := s1.slot i _ hs0'
    rw [ea] at ea2
    cases ea2
    refine ⟨q', vs', k, m, v, rfl, rfl, g.hh _ _ ha', by omega, by omega, by rw [ll]; exact q1, hv, ?_⟩
    refine ⟨q, vs2, v, rfl, rfl, ha2, by rw [r2.length]; exact hz, ?_⟩
    exact h σ F1 _ (s1.mut hs0' ea nr2 (r2.app (.one (rv.mono g.ff))))
theorem RpAll.drl {K : PySem.W.Frag} {C : Addr} {H : Hp} {vs : List V} {ds : List PyData} (h : RpAll K C H vs ds) : RpAll K C H vs.dropLast ds.dropLast := by
  rw [List.dropLast_eq_take, List.dropLast_eq_take, h.length]
  exact h.take _
/-- x.pop() -/
theorem go_popL (i : Nat) {x : Str} (hs0 : ss[i]? = some (.own ds)) (hne : ds ≠ []) (h : Go X B rest (ss.set i (.own ds.dropLast)) D) (nr : noRaw ss = true := by rfl)
    (hpe : PE X (.Call (.Attribute (.Name x p) "pop" p2) [] [] p3) (tBM0 X.K "list" rPop (tVar i)) := by exact pe_bm0 PySem.F.plainAttrs_list PySem.F.slot_list_pop PySem.F.type_list_pop mt_pop (pe_var (by rfl) (by first | exact Or.inl rfl | exact Or.inr (Or.inl rfl) | exact Or.inr (Or.inr rfl)) (by decide) (by decide)))
    (hs : swapsWith (.Call (.Attribute (.Name x p) "pop" p2) [] [] p3) none p4.line X.env = pure false := by rfl) : Go X B (.Expr (.Call (.Attribute (.Name x p) "pop" p2) [] [] p3) p4 :: rest) ss D :=
  go_step (ps_expr hpe hs) fun σ F H s => by
    obtain ⟨q, vs, ea, a0, n, ha, r⟩ := s.slot i _ hs0
    have hl : 0 < vs.length := by
      rw [r.length]
      exact List.length_pos_iff.mpr hne
    refine ⟨_, ea, .inl ⟨rfl, vs, SqL.of ha⟩, ⟨q, vs, vs[vs.length - 1], rfl, rfl, ha, List.getElem?_eq_getElem (by omega), ?_⟩⟩
    exact h σ F _ (s.mut hs0 ea nr r.drl)
end
end G

namespace G
open PySem L2
/-! ### texts -/
abbrev sL (l : List Nat) : Str := ⟨l.toArray⟩
theorem RpAll.strs {K : PySem.W.Frag} {C : Addr} {H : Hp} : ∀ {ys : List Str} {vs : List V}, RpAll K C H vs (ys.map PyData.str) → vs = ys.map V.str
  | [], _, .nil => rfl
  | b :: r, _, .cons h t => by
    cases h
    rw [RpAll.strs t] <;> rfl
theorem strs_rp {K : PySem.W.Frag} {C : Addr} {H : Hp} : ∀ (ys : List Str), RpAll K C H (ys.map V.str) (ys.map PyData.str)
  | [] => .nil
  | y :: r => .cons (.str y) (strs_rp r)
theorem ob_eqS {K : PySem.W.Frag} {C : Addr} {i j : Str} : OpB K C rEq (.str i) (.str j) (decide (i = j)) := fun H v w r1 r2 Q q => by
  cases r1; cases r2
  refine ⟨rfl, ?_⟩
  have e : decide (V.str i = V.str j) = decide (i = j) := decide_eq_decide.mpr ⟨fun h => V.str.inj h, fun h => by rw [h]⟩
  rw [e]; exact q
theorem ob_neS {K : PySem.W.Frag} {C : Addr} {i j : Str} : OpB K C rNe (.str i) (.str j) (!decide (i = j)) := fun H v w r1 r2 Q q => by
  cases r1; cases r2
  refine ⟨rfl, ?_⟩
  have e : decide (V.str i = V.str j) = decide (i = j) := decide_eq_decide.mpr ⟨fun h => V.str.inj h, fun h => by rw [h]⟩
  rw [e]; exact q
theorem ob_inS {K : PySem.W.Frag} {C : Addr} {c : Nat} {z : Str} : OpB K C (fun x y H Q => ∃ (c : Nat) (z : Str), x = .str ⟨#[c]⟩ ∧ y = .str z ∧ Q (.bl (decide (c ∈ z.cps.toList))) H) (.str (sL [c])) (.str z) (decide (c ∈ z.cps.toList)) := fun H v w r1 r2 Q q => by
  cases r1; cases r2; exact ⟨c, z, rfl, rfl, q⟩
theorem ob_notInS {K : PySem.W.Frag} {C : Addr} {c : Nat} {z : Str} : OpB K C (fun x y H Q => ∃ (c : Nat) (z : Str), x = .str ⟨#[c]⟩ ∧ y = .str z ∧ Q (.bl (!decide (c ∈ z.cps.toList))) H) (.str (sL [c])) (.str z) (!decide (c ∈ z.cps.toList)) := fun H v w r1 r2 Q q => by
  cases r1; cases r2; exact ⟨c, z, rfl, rfl, q⟩
theorem str_app (a b : List Nat) : sL a ++ sL b = sL (a ++ b) := by
  show (⟨a.toArray ++ b.toArray⟩ : Str) = ⟨(a ++ b).toArray⟩
  rw [List.append_toArray]
theorem str_len (l : List Nat) : (sL l).length = l.length := by
  show l.toArray.size = l.length
  rw [List.size_toArray]
theorem digit_str {i : Int} (h0 : 0 ≤ i) (h1 : i ≤ 9) : (Str.ofString (toString i)) = sL [48 + i.toNat] := by
  have : i = 0 ∨ i = 1 ∨ i = 2 ∨ i = 3 ∨ i = 4 ∨ i = 5 ∨ i = 6 ∨ i = 7 ∨ i = 8 ∨ i = 9 := by omega
  rcases this with e | e | e | e | e | e | e | e | e | e <;> subst e <;> decide +kernel
theorem digit_int {c : Nat} (h0 : 48 ≤ c) (h1 : c ≤ 57) : PySem.intText? (sL [c]) = some ((c : Int) - 48) := by
  have : c = 48 ∨ c = 49 ∨ c = 50 ∨ c = 51 ∨ c = 52 ∨ c = 53 ∨ c = 54 ∨ c = 55 ∨ c = 56 ∨ c = 57 := by omega
  rcases this with e | e | e | e | e | e | e | e | e | e <;> subst e <;> decide +kernel
section
variable {X : Cx} {B : Bs} {ss ss' : List SD} {e a b c : Expr} {es : List Expr} {pos p p2 p3 p4 p5 p6 p7 : Pos} {d x y z : PyData} {ds ds' : List PyData} {rest body orelse : List Stmt} {st : Stmt} {D : Ends}
theorem pd_strI {i : Int} (h0 : 0 ≤ i) (h1 : i ≤ 9) (ha : PD X B e ss (.int i)) (hm : X.mg "str" = none) (hv : bootBuiltins "str" = some (.type "str") := by decide +kernel) (hg : Gl X "str" := by rfl) (hn : NSt X e := by intro _; rfl) : PD X B (.Call (.Name "str" p) [e] [] pos) ss (.str (sL [48 + i.toNat])) := fun σ F H s Q q =>
  sem_of (pe_callTy call_str_int hg hm hv (pa_cons pe_sem pa_nil (hn [])) (by decide) (by decide) (hn []) rfl) (ha σ F H s _ fun v F1 H1 g r => by
    cases r
    refine ⟨i, rfl, Nat.lt_of_le_of_lt (m := 4) ?_ (by decide), ?_⟩
    · have : i.natAbs < 2 ^ 4 := by omega
      by_cases z : i.natAbs = 0
      · rw [z]; decide
      · exact Nat.le_of_lt ((Nat.log2_lt z).mpr this)
    · show Q (.str (Str.ofString (toString i))) H1
      rw [digit_str h0 h1]
      exact q _ F1 H1 g (.str _))
theorem pd_intS {ch : Nat} (h0 : 48 ≤ ch) (h1 : ch ≤ 57) (ha : PD X B e ss (.str (sL [ch]))) (hm : X.mg "int" = none) (hv : bootBuiltins "int" = some (.type "int") := by decide +kernel) (hg : Gl X "int" := by rfl) (hn : NSt X e := by intro _; rfl) : PD X B (.Call (.Name "int" p) [e] [] pos) ss (.int ((ch : Int) - 48)) := fun σ F H s Q q =>
  sem_of (pe_callTy call_int_str hg hm hv (pa_cons pe_sem pa_nil (hn [])) (by decide) (by decide) (hn []) rfl) (ha σ F H s _ fun v F1 H1 g r => by
    cases r
    exact ⟨_, _, rfl, digit_int h0 h1, by rw [str_len]; exact Nat.le_of_ble_eq_true rfl, q _ F1 H1 g (.int _)⟩)
theorem pn_split {u v : Str} (ha : PD X B a ss (.str u)) (hb : PD X B b ss (.str v)) (h1 : (v.length == 0) = false) (h2 : u.length + 2 ≤ sizeLine) (hs : starEach [b] X.env = [(false, eval b X.env)] := by rfl) (hbase : attributeBase a "split" X.env (eval a X.env) = eval a X.env := by rfl) (hline : (p.endLine == pos.line) = true := by rfl) :
    PN X B (.Call (.Attribute a "split" p) [b] [] pos) ss ((Txt.split u v).map .str) := fun σ F H s Q q =>
  sem_of (pe_split pe_sem pe_sem hs hbase hline) (ha σ F H s _ fun v1 F1 H1 g1 r1 => ⟨(by cases r1; exact ⟨u, rfl⟩), hb σ F1 H1 (s.grow g1) _ fun v2 F2 H2 g2 r2 => by
    cases r1; cases r2
    have g := g1.trans g2
    exact ⟨u, v, rfl, rfl, h1, h2, fun t ht => q t _ F2 _ (g.trans (Grow.newO g.fh ht)) (g.hh.free ht) (g.fh.free ht) upd_same (strs_rp _)⟩⟩)
theorem pd_join {u : Str} {ys : List Str} (ha : PD X B a ss (.str u)) (hb : PLi X B b ss (ys.map .str)) (h1 : (ys.map (·.length)).sum + ys.length * u.length ≤ 16777216) (hs : starEach [b] X.env = [(false, eval b X.env)] := by rfl) (hbase : attributeBase a "join" X.env (eval a X.env) = eval a X.env := by rfl) (hline : (p.endLine == pos.line) = true := by rfl) :
    PD X B (.Call (.Attribute a "join" p) [b] [] pos) ss (.str (Txt.join u ys)) := fun σ F H s Q q =>
  sem_of (pe_join pe_sem pe_sem hs hbase hline) (ha σ F H s _ fun v1 F1 H1 g1 r1 => ⟨(by cases r1; exact ⟨u, rfl⟩), hb σ F1 H1 (s.grow g1) _ fun l vs F2 H2 g2 sq r2 => by
    cases r1
    have e := RpAll.strs r2
    subst e
    exact ⟨u, l, ys, rfl, rfl, .inl sq, h1, q _ F2 H2 (g1.trans g2) (.str _)⟩⟩)
/-- for sign in text -/
theorem go_forS {l : List Nat} (j : Nat) {x : Str} (J : Nat → List SD → Prop) (cx : Cxt X) (he : PD X B e ss (.str (sL l))) (h0 : J 0 ss)
    (hb : ∀ (i : Nat) (ch : Nat) (ss' : List SD), l[i]? = some ch → J i ss' → Go X B body (ss'.set j (.dat (.str (sL [ch])))) (lpE X B (J (i + 1)) rest D))
    (hd : ∀ ss', J l.length ss' → Go X B rest ss' D)
    (hps : ∀ wi, PI X (.Name x p) e wi → PS X (.For (.Name x p) e body [] pos) (tFor wi (gName j) (tSS X body)) := by intro _ hw; exact ps_for (Cxt.pass (by assumption)) (Cxt.calm (by assumption)) hw (pg_name (Cxt.nd (by assumption)) (by rfl) (by first | exact Or.inl rfl | exact Or.inr rfl)) pss_sem) :
    Go X B (.For (.Name x p) e body [] pos :: rest) ss D :=
  go_step (hps _ (pi_str pe_sem)) fun σ F H s => he σ F H s _ fun v F1 H1 g r => by
    cases r
    have hsz : (sL l).cps.size = l.length := List.size_toArray
    refine ⟨sL l, rfl, for_it (walk_str (z := sL l)) (fun i => Mid X B (J i)) ⟨F1, ss, h0, s.grow g⟩ (fun _ _ _ _ _ => trivial) (fun i w σ' H' H2 hi ⟨F', ss', j', s'⟩ ⟨e1, ch, hc, e2⟩ => ?_) (by rw [hsz]; exact fun σ' H' ⟨F', ss', j', s'⟩ => hd ss' j' σ' F' H' s')⟩
    subst e1 e2
    have hc' : l[i]? = some ch := by
      have : (sL l).cps[i]? = l[i]? := List.getElem?_toArray
      rw [← this]; exact hc
    exact hb i ch ss' hc' j' _ F' _ (s'.set_dat (.str _))
/-- [e for y in text] -/
theorem pl_lcS {l : List Nat} {g : Nat → PyData} (j : Nat) {y : Str} {scope : Scope} (cx : Cxt X) (he : PD X B a ss (.str (sL l)))
    (hel : ∀ (ch : Nat), ch ∈ l → ∀ (s : Shared) (H' : Hp) (C : Addr) (cl : List (Str × Addr)) (fp : List Addr), PD (Blk X scope s H' C cl fp) B e (ss.set j (.dat (.str (sL [ch])))) (g ch))
    (hz : l.length < sizeLine) (nr : noRaw ss = true := by rfl)
    (hok : BlkOk X.N X.env.scope scope [(y, j)] := by exact blkOk_by (by kernel_rfl))
    (hpg : X.N.Nodup → ∀ (s : Shared) (H' : Hp) (C : Addr) (cl : List (Str × Addr)) (fp : List Addr), PG (Blk X scope s H' C cl fp) (.Name y p) (gName j) := by intro hnd _ _ _ _ _; exact pg_name hnd (by rfl) (Or.inl rfl))
    (hs : ∀ x, foldedSetIterable a X.env x = pure x := by intro _; rfl) :
    PLc X B (.ListComp e [⟨.Name y p, a, [], 0⟩] scope pos) ss (l.map g) :=
  ⟨_, _, _, _, _, _, _, _, _, _, [(y, j)], rfl, pi_str pe_sem, hok, hpg cx.nd, fun _ _ _ _ _ => pts_nil, fun s H' C cl fp => (⟨fun pins s1 σ H Q I h => h s H' C cl fp pins s1 I⟩ : PE _ e (tBlk X scope e)), hs, fun σ F H s Q q => he σ F H s _ fun v F1 H1 g1 r1 => by
    cases r1
    have s1 := s.grow g1
    have hsz : (sL l).cps.size = l.length := List.size_toArray
    refine ⟨sL l, rfl, fun Dl hD => ?_⟩
    have ap : ∀ (i : Nat) (es : List PyData), ss[i]? = some (.own es) → σ[i]? ≠ some (some (.ref Dl)) := fun i es e1 e2 => by
      obtain ⟨a', ws, ea, _, _, h2, _⟩ := s1.slot i _ e1
      rw [e2] at ea
      injection ea with ea
      injection ea with ea
      injection ea with ea
      subst ea
      rw [hD] at h2; cases h2
    have hF1 : F1 Dl = none := g1.fh.free hD
    have hB0 : B.H0 Dl = none := s1.g.hh.free hD
    have hH : H Dl = none := g1.hh.free hD
    refine lc_it (walk_str (z := sL l)) (fun i H' => ∃ F' acc, Sat X.K B ss σ F' H' ∧ Grow F H F' H' ∧ F' Dl = none ∧ H' Dl = some (.lst acc) ∧ RpAll X.K B.C F' acc ((l.take i).map g))
      ⟨F1, [], s1.upd hB0 hF1 nr ap, g1.trans (Grow.newO g1.fh hD), hF1, upd_same, ?_⟩ (fun _ _ _ _ => trivial) ?_ ?_
    · rw [List.take_zero]; exact .nil
    · rintro i w H' H2 hi ⟨F', acc, s', g', n', h', r'⟩ ⟨e1, ch, hc, e2⟩
      subst e1 e2
      have hc' : l[i]? = some ch := by
        have : (sL l).cps[i]? = l[i]? := List.getElem?_toArray
        rw [← this]; exact hc
      have hil : i < l.length := (List.getElem?_eq_some_iff.mp hc').1
      have tk : l.take (i + 1) = l.take i ++ [ch] := by rw [List.take_add_one, hc']; rfl
      have al : acc.length ≤ i := by rw [r'.length, List.length_map, List.length_take]; omega
      have wset' : ∀ v, (wipe σ (List.map (fun x => x.2) [(y, j)])).set j v = σ.set j v := fun v => by
        show ((wipe σ []).set j none).set j v = _
        rw [List.set_set]; rfl
      unfold gName
      rw [wset']
      have wset2 : wipe (σ.set j (some (V.str ⟨#[ch]⟩))) [j] = wipe σ [j] := by
        show (σ.set j _).set j none = σ.set j none
        rw [List.set_set]
      refine ⟨wset2, ?_⟩
      simp only [tYes, ↓reduceIte]
      intro s5 H5 C5 cl5 fp5
      refine hel ch (List.mem_of_getElem? hc') s5 H5 C5 cl5 fp5 _ F' H2 (s'.set_dat (.str _)) _ fun z F4 H4 g4 r4 => ?_
      have n4 := g4.own _ _ h' n'
      refine ⟨acc, g4.hh _ _ h', Nat.lt_of_le_of_lt al (Nat.lt_trans hil hz), F4, acc ++ [z], (s'.grow g4).upd hB0 n4 nr ap (nx_lst (g4.hh _ _ h')), ?_, n4, upd_same, ?_⟩
      · exact ⟨fun b o e => by rw [upd_ne (ne_of_none e hH)]; exact (g'.trans g4).hh b o e, (g'.trans g4).ff, fun b o e => by rw [upd_ne (ne_of_none e n4)]; exact g4.fh b o e, (g'.trans g4).own⟩
      · rw [tk, List.map_append]
        exact (r'.mono g4.ff).app (.one r4)
    · rintro H' ⟨F', acc, s', g', n', h', r'⟩
      rw [hsz, List.take_length] at r'
      exact q Dl acc F' H' g' hH n' h' r'⟩
end
end G

namespace G
open PySem L2
/-! ### keys -/
theorem nkr_inj : ∀ {a b : List Int}, a.map NestedKey.num = b.map NestedKey.num → a = b
  | [], [], _ => rfl
  | [], _ :: _, e => by simp at e
  | _ :: _, [], e => by simp at e
  | x :: a, y :: b, e => by
    rw [List.map_cons, List.map_cons] at e
    injection e with e1 e2
    injection e1 with e1
    rw [e1, nkr_inj e2]
theorem nkl_inj : ∀ {S T : Stg}, (S.map fun r => NestedKey.tup (r.map .num)) = (T.map fun r => NestedKey.tup (r.map .num)) → S = T
  | [], [], _ => rfl
  | [], _ :: _, e => by simp at e
  | _ :: _, [], e => by simp at e
  | x :: a, y :: b, e => by
    rw [List.map_cons, List.map_cons] at e
    injection e with e1 e2
    injection e1 with e1
    rw [nkr_inj e1, nkl_inj e2]
theorem nk_inj {S T : Stg} (h : nk S = nk T) : S = T := by
  unfold nk at h
  injection h with h
  exact nkl_inj h
theorem nkr_depth : ∀ r : List Int, NestedKey.depthAll (r.map .num) = 0
  | [] => by simp [NestedKey.depthAll]
  | x :: r => by
    rw [List.map_cons, NestedKey.depthAll, nkr_depth r]
    simp [NestedKey.depth]
theorem nkl_depth : ∀ S : Stg, NestedKey.depthAll (S.map fun r => NestedKey.tup (r.map .num)) ≤ 1
  | [] => by simp [NestedKey.depthAll]
  | x :: S => by
    have h := nkl_depth S
    rw [List.map_cons, NestedKey.depthAll]
    have e : NestedKey.depth (.tup (x.map .num)) = 1 := by rw [NestedKey.depth, nkr_depth]
    omega
theorem nk_depth (S : Stg) : (nk S).depth ≤ 8 := by
  have h := nkl_depth S
  unfold nk
  rw [NestedKey.depth]
  omega
theorem ent_eq {P : Program} {w : World} : entryOfKey (nestedKind P w) = dEnt w := rfl
section
variable {X : Cx} {pins : List (Addr × Obj)} {σ : St} {H : Hp} {s : Shared} {C : Addr}
theorem nis_ints {h : Heap} : ∀ {ns : List Int} {its : List Value}, Vals (ns.map V.int) its → NestedAll h (ns.map .num) its
  | [], _, r => by
    rw [List.map_nil] at r
    cases r
    exact .nil
  | n :: ns, _, r => by
    rw [List.map_cons] at r
    cases r with
    | cons h1 h2 =>
      obtain ⟨t, rfl⟩ := (show ∃ t, _ = Value.int n t from h1)
      exact .cons (.int n t) (nis_ints h2)
theorem nis_row (I : Inv X pins σ H s) {v : V} {u : Value} {r : List Int} (h : Rp X.K C H v (.tuple (r.map .int))) (rv : RelV v u) : NestedIs s.heap (.tup (r.map .num)) u := by
  generalize hd : PyData.tuple (r.map .int) = d at h
  cases h with
  | @tup a vs ds h1 h2 =>
    injection hd with hd
    subst hd
    have ei := RpAll.intsV h2
    subst ei
    obtain ⟨its, r2, ⟨o, ho, hc, n, hq⟩, _⟩ := I.tuple h1
    obtain rfl : u = Value.ref a := rv
    exact .tup ho hc hq (nis_ints r2)
  | _ => cases hd
theorem nis_rows (I : Inv X pins σ H s) : ∀ {S : Stg} {vs : List V} {us : List Value}, RpAll X.K C H vs (S.map fun r => .tuple (r.map .int)) → Vals vs us → NestedAll s.heap (S.map fun r => .tup (r.map .num)) us
  | [], _, _, r, rv => by
    rw [List.map_nil] at r
    cases r
    cases rv
    exact .nil
  | x :: S, _, _, r, rv => by
    rw [List.map_cons] at r
    cases r with
    | cons r1 r2 =>
      cases rv with
      | cons q1 q2 => exact .cons (nis_row I r1 q1) (nis_rows I r2 q2)
/-- a standing's own tuple is a key -/
theorem key_is (I : Inv X pins σ H s) {v : V} {u : Value} {S : Stg} (h : Rp X.K C H v (stD S)) (rv : RelV v u) : ∃ a, v = .ref a ∧ u = .ref a ∧ (nestedKind X.prog X.w).is s.heap (nk S) a := by
  generalize hd : stD S = d at h
  cases h with
  | @tup a vs ds h1 h2 =>
    injection hd with hd
    subst hd
    obtain ⟨its, r2, ⟨o, ho, hc, n, hq⟩, _⟩ := I.tuple h1
    obtain rfl : u = Value.ref a := rv
    exact ⟨a, rfl, rfl, .tup ho hc hq (nis_rows I h2 r2), nk_depth S⟩
  | _ => cases hd
end
/-! ### the entries -/
def valK {κ : Type} (kvs : List (Stg × κ)) (S : Stg) : Option κ := (kvs.find? fun e => decide (e.1 = S)).map (·.2)
def esK (es : List (Stg × Addr × V)) : List (Stg × V) := es.map fun e => (e.1, e.2.2)
theorem ent_val {es : List (Stg × Addr × V)} {xs : List (NestedKey × Addr × Value)} (r : Paired EntR es xs) (S : Stg) : RelO (valK (esK es) S) ((atKey xs (nk S)).map (·.2)) := by
  induction r with
  | nil => exact True.intro
  | @cons p q ps qs h t ih =>
    obtain ⟨h1, _, h2⟩ := h
    by_cases e : p.1 = S
    · have e' : q.1 = nk S := h1.trans (congrArg nk e)
      have b : atKey (q :: qs) (nk S) = some q.2 := by simp [atKey, List.find?_cons, e']
      have c : valK (esK (p :: ps)) S = some p.2.2 := by simp [valK, esK, List.find?_cons, e]
      rw [c, b]; exact h2
    · have e' : ¬ q.1 = nk S := fun z => e (nk_inj (h1.symm.trans z))
      have b : atKey (q :: qs) (nk S) = atKey qs (nk S) := by simp [atKey, List.find?_cons, e']
      have c : valK (esK (p :: ps)) S = valK (esK ps) S := by simp [valK, esK, List.find?_cons, e]
      rw [c, b]; exact ih
theorem Paired.snoc {α β : Type} {R : α → β → Prop} {a : α} {b : β} (h : R a b) : ∀ {xs : List α} {ys : List β}, Paired R xs ys → Paired R (xs ++ [a]) (ys ++ [b])
  | _, _, .nil => .cons h .nil
  | _, _, .cons q t => .cons q (Paired.snoc h t)
theorem paired_at {α β : Type} {R : α → β → Prop} : ∀ {xs : List α} {ys : List β} {i : Nat} {a : α}, Paired R xs ys → xs[i]? = some a → ∃ b, ys[i]? = some b ∧ R a b
  | _, _, _, _, .nil, e => by simp at e
  | _, _, 0, _, .cons h _, e => by simp at e; subst e; exact ⟨_, rfl, h⟩
  | _, _, i + 1, a, .cons _ t, e => by
    obtain ⟨b, h1, h2⟩ := paired_at (i := i) (a := a) t (by simpa using e)
    exact ⟨b, by simpa using h1, h2⟩
theorem ent_keys {P : Program} {w : World} {knd : HeapKind P w NestedKey} {h : Heap} {es : List (Stg × Addr × V)} {xs : List (NestedKey × Addr × Value)} (r : Paired EntR es xs) : (∀ e ∈ es, knd.is h (nk e.1) e.2.1) → ∀ x ∈ xs, knd.is h x.1 x.2.1 := by
  induction r with
  | nil => intro _ x hx; cases hx
  | @cons p q ps qs hq t ih =>
    intro hk x hx
    rcases List.mem_cons.mp hx with e | hx
    · subst e
      rw [hq.1, hq.2.1]
      exact hk p List.mem_cons_self
    · exact ih (fun e he => hk e (List.mem_cons_of_mem _ he)) x hx
theorem dic_ok {P : Program} {w : World} {H : Hp} {h : Heap} {d : Addr} {ep : Nat} {es : List (Stg × Addr × V)} (p : dicP w d ep es h) : ObjOk P w H h d (dicO w d ep es) := by
  refine ⟨p, ?_, fun h1 h2 p1 k => ?_⟩
  · obtain ⟨_, _, xs, o, arr, _, ho, _⟩ := p; exact ⟨o, ho⟩
  · obtain ⟨a, b, xs, o, arr, c, ho, r⟩ := p1
    exact ⟨a, b, xs, o, arr, c, k _ ho, r⟩
section
variable {X : Cx} {pins : List (Addr × Obj)} {σ : St} {H : Hp} {s : Shared} {C d : Addr} {ep : Nat} {es : List (Stg × Addr × V)}
/-- the dict as the library tells it -/
theorem dic_at (I : Inv X pins σ H s) (h : H d = some (dicO X.w d ep es)) (hk : ∀ e ∈ es, Rp X.K C H (.ref e.2.1) (stD e.1)) :
    (d == sysModules) = false ∧ es.length ≤ sizeLine ∧ ∃ xs, Paired EntR es xs ∧ s.heap.DictOfH (nestedKind X.prog X.w) d xs := by
  obtain ⟨⟨h1, h2, xs, o, arr, r, ho, hc, hd, he, hn⟩, _⟩ := I.hok d _ h
  refine ⟨h1, h2, xs, r, o, arr, ep, ho, hc, hd, he, ent_keys (knd := nestedKind X.prog X.w) r fun p hp => ?_, hn⟩
  obtain ⟨a, e1, e2, e3⟩ := key_is I (hk p hp) (rfl : RelV (.ref p.2.1) (.ref p.2.1))
  cases e1
  exact e3
end
/-! ### rules -/
section
variable {X : Cx} {C : Addr}
theorem nroom {A : Around} (hu : A.units + 64 < cLine) : A.in1.units + 8 < cLine := by
  have : A.in1.units = A.units + 1 := Around.in1_units A
  omega
def rDicIn (X : Cx) (C : Addr) (neg : Bool) : R2 := fun x y H Q => ∃ d ep es S, y = .ref d ∧ H d = some (dicO X.w d ep es) ∧ (∀ e ∈ es, Rp X.K C H (.ref e.2.1) (stD e.1)) ∧ Rp X.K C H x (stD S) ∧ Q (.bl (neg != (valK (esK es) S).isSome)) H
theorem op_inDic (hu : X.A.units + 64 < cLine) : OpR X (compareOp .In) (rDicIn X C false) := by
  rintro pins s σ H x y v u Q I rx ry ⟨d, ep, es, S, rfl, hd, hk, hS, q⟩
  obtain rfl : u = Value.ref d := ry
  obtain ⟨a, rfl, rfl, ka⟩ := key_is I hS rx
  obtain ⟨h1, h2, xs, r, hm⟩ := dic_at I hd hk
  refine wpAny_in_heap (knd := nestedKind X.prog X.w) (nroom hu) ka h1 hm ?_
  have e := (ent_val r S).isSome_eq
  rw [Option.isSome_map] at e
  rw [← e]
  exact ⟨.bl _, H, I.tok _, rfl, by simpa using q⟩
theorem op_notInDic (hu : X.A.units + 64 < cLine) : OpR X (compareOp .NotIn) (rDicIn X C true) := by
  rintro pins s σ H x y v u Q I rx ry ⟨d, ep, es, S, rfl, hd, hk, hS, q⟩
  obtain rfl : u = Value.ref d := ry
  obtain ⟨a, rfl, rfl, ka⟩ := key_is I hS rx
  obtain ⟨h1, h2, xs, r, hm⟩ := dic_at I hd hk
  refine PyProof.Rows.wpAny_notIn_heap (knd := nestedKind X.prog X.w) (nroom hu) ka h1 hm ?_
  have e := (ent_val r S).isSome_eq
  rw [Option.isSome_map] at e
  rw [← e]
  exact ⟨.bl _, H, I.tok _, rfl, by simpa using q⟩
def rDicGet (X : Cx) (C : Addr) : R2 := fun x y H Q => ∃ d ep es S v, x = .ref d ∧ H d = some (dicO X.w d ep es) ∧ (∀ e ∈ es, Rp X.K C H (.ref e.2.1) (stD e.1)) ∧ Rp X.K C H y (stD S) ∧ valK (esK es) S = some v ∧ Q v H
theorem ix_dic (hu : X.A.units + 64 < cLine) : IxR X (rDicGet X C) := by
  rintro value slice pins s σ H x y v u Q I rx ry ⟨d, ep, es, S, z, rfl, hd, hk, hS, hz, q⟩ hs
  obtain rfl : v = Value.ref d := rx
  obtain ⟨a, rfl, rfl, ka⟩ := key_is I hS ry
  obtain ⟨h1, h2, xs, r, hm⟩ := dic_at I hd hk
  have e := ent_val r S
  rw [hz] at e
  obtain ⟨w', hw, rw'⟩ := e.some_of
  obtain ⟨p, hp, hp2⟩ := Option.map_eq_some_iff.mp hw
  refine PyProof.Rows.tail_any hm.typeIs PySem.F.slot_dict_getitem.lookup (wpAny_getItem_heap (knd := nestedKind X.prog X.w) (nroom hu) ka hm hp ?_) hs
  rw [hp2]
  exact ⟨z, H, I.tok _, rw', q⟩
/-- a new key -/
def rDicSet (X : Cx) (C : Addr) : TSet := fun o i v H Q => ∃ d ep es S a, o = .ref d ∧ i = .ref a ∧ H d = some (dicO X.w d ep es) ∧ (∀ e ∈ es, Rp X.K C H (.ref e.2.1) (stD e.1)) ∧ Rp X.K C H (.ref a) (stD S) ∧ valK (esK es) S = none ∧ es.length < sizeLine ∧ ∀ ep', Q (upd H d (dicO X.w d ep' (es ++ [(S, a, v)])))
theorem dic_put {P : Program} {w : World} {h' : Heap} {d a : Addr} {es : List (Stg × Addr × V)} {xs : List (NestedKey × Addr × Value)} {S : Stg} {v : V} {u : Value} (hs : (d == sysModules) = false) (hz : es.length < sizeLine) (r : Paired EntR es xs) (hn : atKey xs (nk S) = none) (rv : RelV v u)
    (hm : h'.DictOfH (nestedKind P w) d (storedH xs (nk S) a u)) : ∃ ep, dicP w d ep (es ++ [(S, a, v)]) h' := by
  rw [storedH_new hn] at hm
  obtain ⟨o, arr, ep, ho, hc, hd, he, _, hnd⟩ := hm
  exact ⟨ep, hs, by rw [List.length_append, List.length_singleton]; exact hz, xs ++ [(nk S, a, u)], o, arr, Paired.snoc ⟨rfl, rfl, rv⟩ r, ho, hc, hd, he, hnd⟩
theorem set_dic (hu : X.A.units + 64 < cLine) : PSet X (rDicSet X C) := by
  rintro pins s σ H o i v ov iv u Q I ro ri rv ⟨d, ep, es, S, a, rfl, rfl, hd, hk, hS, hn, hz, q⟩
  obtain rfl : ov = Value.ref d := ro
  obtain ⟨a', e1, rfl, ka⟩ := key_is I hS ri
  cases e1
  obtain ⟨h1, h2, xs, r, hm⟩ := dic_at I hd hk
  have e := ent_val r S
  rw [hn] at e
  have hn' : atKey xs (nk S) = none := Option.map_eq_none_iff.mp e.none_of
  have hl : es.length = xs.length := Paired.length r
  refine wpAny_setItem_heap (knd := nestedKind X.prog X.w) (nroom hu) ka hm (fun h' hm' hs => ?_) (hsz := by omega)
  have hex : ∃ q, h'.get? d = some q := let ⟨q, _, _, hq, _⟩ := hm'; ⟨q, hq⟩
  obtain ⟨ep', hp⟩ := dic_put h1 hz r hn' rv hm'
  exact ⟨_, d_write I (by rw [hd]; exact True.intro) hs hex (dic_ok hp), q ep'⟩
/-- {} -/
def tDicNew (X : Cx) : TE := fun _ H Q => ∀ p, H p = none → Q (.ref p) (upd H p (dicO X.w p 0 []))
theorem dic_empty {w : World} (h : Heap) (hb : sysModules < h.objs.size) : dicP w h.objs.size 0 [] (h.push { cls := .type "dict", data := .dict #[] }) :=
  ⟨beq_eq_false_iff_ne.mpr (Ne.symm (Nat.ne_of_lt hb)), Nat.zero_le _, [], _, #[], .nil, Heap.get?_push_size _ rfl, ⟨rfl, rfl, rfl⟩, rfl, rfl, List.nodup_nil⟩
theorem pe_dicNew {pos : Pos} : PE X (.Dict [] [] pos) (tDicNew X) := ⟨fun pins s σ H Q I h =>
  wpAny_Dict_empty ⟨.ref s.heap.objs.size, _, I.laid (a := s.heap.objs.size) (o := dicO X.w s.heap.objs.size 0 []) (t' := s.toks) (fun _ _ q => Heap.get?_push_of_some _ q) (Nat.le_refl _) (dic_ok (dic_empty s.heap I.big)), rfl, h _ (I.hok.fresh (Nat.le_refl _))⟩⟩
/-- {k: v} -/
def tDic1 (X : Cx) (C : Addr) (tk tv : TE) : TE := fun σ H Q => ∀ d, H d = none → tk σ (upd H d (dicO X.w d 0 [])) fun x H1 => tv σ H1 fun y H2 => ∃ S a, x = .ref a ∧ H2 d = some (dicO X.w d 0 []) ∧ Rp X.K C H2 x (stD S) ∧ ∀ ep, Q (.ref d) (upd H2 d (dicO X.w d ep [(S, a, y)]))
theorem disp_H {prog : Program} {w : World} {A : Around} {E : Value → Shared → Prop} {s : Shared} {knd : HeapKind prog w NestedKey} {env : Env} {keys : List (Option Expr)} {values : List Expr} {pos : Pos} {Q : Value → Shared → Prop} (hu : knd.room A)
    (hall : keys.all (·.isSome) = true) (hl : keys.length = values.length) (h0 : keys ≠ []) (hlen : keys.length ≤ 15)
    (h : wpAny (model prog w) A (evalPairs (pairTrees keys values env pos)) (fun vs s₁ => ∃ ps, CarriesH knd s₁.heap vs ps ∧ s₁.heap.DictOfH knd s.heap.objs.size [] ∧
      ∀ h' tk, h'.DictOfH knd s.heap.objs.size (storedAllH [] ps) → Heap.SameBut s.heap.objs.size s₁.heap h' → Q (.ref s.heap.objs.size) { s₁ with heap := h', toks := tk }) E
      { s with heap := s.heap.push { cls := .type "dict", data := .dict #[] } }) :
    wpAny (model prog w) A (eval (.Dict keys values pos) env) Q E s := by
  have hn := pairTrees_length keys values env pos hall hl
  have hne : pairTrees keys values env pos ≠ [] := fun he => by
    rw [he] at hn
    exact h0 (List.length_eq_zero_iff.mp hn.symm)
  rw [arm_eval_Dict, zip_pairTrees keys values env pos hall hl, dictDisplay_pairs _ hne (by omega)]
  exact wpAny_bind (wpAny_standAt (wpAny_bind (wpAny_subDictH (knd := knd) (Q := fun d s' => wpAny (model prog w) A (pure (Value.ref d)) Q E s') hu (by rw [hn]; exact hlen)
    (wpAny_mono h (fun vs s₁ h₁ => by obtain ⟨ps, hc, hm, hq⟩ := h₁; exact ⟨ps, hc, hm, fun h' tk a b => wpAny_pure (hq h' tk a b)⟩) fun _ _ e => e))))
theorem pe_dic1 {k v : Expr} {tk tv : TE} {pos : Pos} (hu : X.A.units + 64 < cLine) (hk : PE X k tk) (hv : PE X v tv) : PE X (.Dict [some k] [v] pos) (tDic1 X C tk tv) := by
  refine ⟨fun pins s σ H Q I q => ?_⟩
  have hn := I.hok.fresh (Nat.le_refl s.heap.objs.size)
  have I1 := I.laid (a := s.heap.objs.size) (o := dicO X.w s.heap.objs.size 0 []) (h' := s.heap.push { cls := .type "dict", data := .dict #[] }) (t' := s.toks) (fun _ _ q => Heap.get?_push_of_some _ q) (Nat.le_refl _) (dic_ok (dic_empty s.heap I.big))
  refine disp_H (knd := nestedKind X.prog X.w) (show X.A.units + 8 < cLine by omega) rfl rfl (by simp) (Nat.le_of_ble_eq_true rfl) (thn ((pps_cons hk hv pps_nil : PPs X pos [some k] [v] [(tk, tv)]).run pins _ σ _ (fun ps H2 => match ps with | [(x, y)] => ∃ S a, x = .ref a ∧ H2 s.heap.objs.size = some (dicO X.w s.heap.objs.size 0 []) ∧ Rp X.K C H2 x (stD S) ∧ ∀ ep, Q (.ref s.heap.objs.size) (upd H2 s.heap.objs.size (dicO X.w s.heap.objs.size ep [(S, a, y)])) | _ => False) I1 ?_) ?_)
  · exact q _ hn
  · rintro ws s2 ⟨ps, H2, I2, rel, q1⟩
    match ps, rel, q1 with
    | [(x, y)], .cons (b := b) h t, q1 =>
      obtain ⟨S, a, rfl, hd, hS, q2⟩ := q1
      cases t
      obtain ⟨b1, b2⟩ := b
      obtain ⟨r1, r2⟩ := h
      obtain ⟨a', e1, e2, ka⟩ := key_is I2 hS r1
      cases e1
      obtain ⟨h1, h2, xs, r, hm⟩ := dic_at (C := C) I2 hd (fun e he => by cases he)
      cases r
      refine ⟨[(nk S, a, b2)], ⟨e2, rfl, ka, trivial⟩, hm, fun h' tk hm' hs => ?_⟩
      have hex : ∃ q, h'.get? s.heap.objs.size = some q := let ⟨q, _, _, hq, _⟩ := hm'; ⟨q, hq⟩
      obtain ⟨ep', hp⟩ := dic_put (es := []) h1 (by rw [sizeLine_eq]; decide) .nil rfl r2 hm'
      exact ⟨.ref s.heap.objs.size, _, d_write I2 (by rw [hd]; exact True.intro) hs hex (dic_ok hp), rfl, q2 ep'⟩
end
end G

namespace G
open PySem L2 PySem.W PyProof.Rows
/-! ### sorted, of data -/
/-- the data in Python's order -/
def srtD (ds : List PyData) : List PyData := ds.mergeSort (dataLe false fun d => d)
section
variable {h : Heap}
theorem nolist_row : ∀ {r : List Int} {us : List Value} {as : List Addr}, ReadsAll h us (r.map PyData.int) as → as = []
  | [], _, _, q => by
    rw [List.map_nil] at q
    cases q
    rfl
  | n :: r, _, _, q => by
    rw [List.map_cons] at q
    cases q with
    | cons q1 q2 =>
      cases q1
      rw [nolist_row q2]
      rfl
theorem nolist_rows : ∀ {S : Stg} {us : List Value} {as : List Addr}, ReadsAll h us (S.map fun r => .tuple (r.map PyData.int)) as → as = []
  | [], _, _, q => by
    rw [List.map_nil] at q
    cases q
    rfl
  | r :: S, _, _, q => by
    rw [List.map_cons] at q
    cases q with
    | cons q1 q2 =>
      cases q1 with
      | tuple _ _ _ q3 => rw [nolist_rows q2, nolist_row q3]; rfl
theorem nolist_st {S : Stg} {u : Value} {as : List Addr} (q : Reads h u (stD S) as) : as = [] := by
  cases q with
  | tuple _ _ _ q3 => exact nolist_rows q3
theorem each_at {α β : Type} {R : α → β → Prop} : ∀ {as : List α} {bs : List β}, as.length = bs.length → (∀ (j : Nat) (a : α) (b : β), as[j]? = some a → bs[j]? = some b → R a b) → EachIs R as bs
  | [], [], _, _ => .nil
  | [], _ :: _, e, _ => by simp at e
  | _ :: _, [], e, _ => by simp at e
  | a :: as, b :: bs, e, q => .cons (q 0 a b rfl rfl) (each_at (by simpa using e) fun j x y e1 e2 => q (j + 1) x y (by simpa using e1) (by simpa using e2))
/-- what a value is known to be, over the frozen heap -/
def RdV (K : PySem.W.Frag) (C : Addr) (G : Hp) (u : Value) (d : PyData) : Prop := ∃ x : V, RelV x u ∧ Rp K C G x d
theorem each_vals {K : PySem.W.Frag} {C : Addr} {G : Hp} : ∀ {us : List Value} {ds : List PyData}, EachIs (RdV K C G) us ds → ∃ vs, Vals vs us ∧ RpAll K C G vs ds
  | _, _, .nil => ⟨[], .nil, .nil⟩
  | _, _, .cons ⟨x, rx, px⟩ t => by
    obtain ⟨vs, h1, h2⟩ := each_vals t
    exact ⟨x :: vs, .cons rx h1, .cons px h2⟩
theorem each_rp {K : PySem.W.Frag} {C : Addr} {G : Hp} : ∀ {vs : List V} {us : List Value} {ds : List PyData}, Vals vs us → RpAll K C G vs ds → EachIs (RdV K C G) us ds
  | _, _, _, .nil, .nil => .nil
  | _, _, _, .cons rx t, .cons px q => .cons ⟨_, rx, px⟩ (each_rp t q)
theorem each_both {α β : Type} {R : α → β → Prop} {T : β → Prop} : ∀ {as : List α} {bs : List β}, EachIs R as bs → (∀ b ∈ bs, T b) → EachIs (fun a b => R a b ∧ T b) as bs
  | _, _, .nil, _ => .nil
  | _, _, .cons h1 t, q => .cons ⟨h1, q _ List.mem_cons_self⟩ (each_both t fun b hb => q b (List.mem_cons_of_mem _ hb))
/-- data that sorted takes: alike, no None, no list within -/
structure SrtOk (ds : List PyData) : Prop where
  al : AllAlike ds
  so : Sortable ds
  pl : ∀ d ∈ ds, Pl 8 d
theorem map_id' {α : Type} (ds : List α) : ds.map (fun d => d) = ds := List.map_id ds
end
section
variable {X : Cx} {C : Addr}
theorem rdv_reads {pins : List (Addr × Obj)} {σ : St} {H G : Hp} {s : Shared} (I : Inv X pins σ H s) (f : Same G H) {us : List Value} {ds : List PyData} (e : EachIs (RdV X.K C G) us ds) (hp : ∀ d ∈ ds, Pl 8 d) : EachIs (fun u d => ∃ as, Reads s.heap u d as) us ds :=
  (each_both e hp).mono fun u d ⟨⟨x, rx, px⟩, pl⟩ => Dp.reads I d x u ((px.mono f).dp pl.lay.1) rx
def rSortD (X : Cx) (C : Addr) : List V → Hp → VK → Prop := fun xs H Q => ∃ (a : Addr) (vs : List V) (ds : List PyData) (G : Hp), xs = [.ref a] ∧ SqL X.K H a vs ∧ Same G H ∧ RpAll X.K C G vs ds ∧ SrtOk ds ∧
  ∀ (p : Addr) (ws : List V), H p = none → RpAll X.K C G ws (srtD ds) → Q (.ref p) (upd H p (.lst ws))
theorem cr_sortD (hu : X.A.units + 64 < cLine) : CallR X (.builtin "sorted") (rSortD X C) := by
  rintro pins s σ H xs us Q I r ⟨a, vs, ds, G, rfl, hs, f, hr, ok, q⟩
  obtain ⟨its, rv, hl, hz⟩ := I.list hs
  rw [Vals.ref1 r]
  have e := each_rp rv hr
  have hlen : ds.length ≤ sizeLine := by rw [← hr.length]; exact hz
  have re := rdv_reads I f e ok.pl
  refine sorted_data (bs := ds) (enc := fun d => d) (R := RdV X.K C G) hl.isList e re (by rw [map_id']; exact ok.al) (by rw [map_id']; exact ok.so) hlen (fun d hd => ?_) fun out ho eo => ?_
  · have := (ok.pl d hd).lay.2
    omega
  · obtain ⟨ws, w1, w2⟩ := each_vals eo
    obtain ⟨ep, he'⟩ := sortedAll_at s.heap its out.toArray
    have w3 : ws.length ≤ sizeLine := by rw [w1.length, ho]; exact hlen
    exact ⟨.ref _, upd H (s.heap.objs.size + 1) (.lst ws), I.laid (t' := s.toks) (fun _ _ => sortedAll_old) (Nat.le_succ _) ⟨w3, out, ep, w1, he'⟩, rfl, q _ _ (I.hok.fresh (Nat.le_succ _)) w2⟩
/-- the keys, in a new list -/
theorem coll_dic {prog : Program} {w : World} {A : Around} {E : Value → Shared → Prop} {s : Shared} {d : Addr} {arr : Array DictEntry} {ep : Nat} {R : List Value → Shared → Prop} (lo : (d == sysModules) = false) (hh : A.handled = none) (hm : s.heap.DictRaw d arr ep) (hz : arr.size ≤ sizeLine)
    (k : ∀ (g : Heap) (tk : Nat) (acc : Array Value), (∀ b o, s.heap.get? b = some o → g.get? b = some o) → s.heap.objs.size ≤ g.objs.size → acc.size = arr.size → (∀ (j : Nat) (u : Value), acc[j]? = some u → ∃ hj : j < arr.size, u = arr[j].key) → R acc.toList { s with heap := g, toks := tk }) :
    wpAny (model prog w) A (collect (.ref d)) R E s := by
  have far : d < s.heap.objs.size := hm.lt_size
  have fresh : (s.heap.push { cls := .type "list", data := .seq ([] : List Value).toArray }).get? s.heap.objs.size = some { cls := .type "list", data := .seq #[] } := Heap.get?_push_size _ rfl
  have go := kdl_extend (prog := prog) (w := w) (A := A) (s := { s with heap := s.heap.push { cls := .type "list", data := .seq ([] : List Value).toArray } }) (KdlSrc.rawDict (es := arr) (ep := ep) lo)
    (R := fun q t => ∃ (g : Heap) (tk : Nat) (acc : Array Value) (c : Nat), q = .ok (.ret (.ref s.heap.objs.size)) ∧ t = { s with heap := g, toks := tk } ∧ (∀ b o, s.heap.get? b = some o → g.get? b = some o) ∧
      g.get? s.heap.objs.size = some { cls := .type "list", dict := none, data := .seq acc c, slots := #[] } ∧ ItemsOf (fun i v => ∃ hi : i < arr.size, v = arr[i].key) acc arr.size)
    hh (hm.push _) s.heap.objs.size (Nat.ne_of_gt far) (Nat.ne_of_gt far) (.ref s.heap.objs.size) 0 fresh
    (fun g tk acc c kk gs it => ⟨g, tk, acc, c, rfl, rfl, fun b o e => kk b o (Nat.ne_of_lt (Heap.lt_size e)) (Heap.get?_push_of_some _ e), gs, it⟩) hz
  have fin : ∀ (g : Heap) (tk : Nat) (acc : Array Value) (c : Nat), (∀ b o, s.heap.get? b = some o → g.get? b = some o) → g.get? s.heap.objs.size = some { cls := .type "list", dict := none, data := .seq acc c, slots := #[] } →
      ItemsOf (fun i v => ∃ hi : i < arr.size, v = arr[i].key) acc arr.size → R acc.toList { s with heap := g, toks := tk } := fun g tk acc c kk gs it => k g tk acc kk (Nat.le_of_lt (Heap.lt_size gs)) it.1 it.2
  unfold collect
  refine wpAny_bind (wpAny_runValue (codeAny_builtin entry_proto_collect' ?_))
  rw [Around.under_plainId PySem.F.plain_proto_collect _]
  show wpAny _ A.in1 (newList [] >>= fun t => again (.builtin "list.__iadd__" ⟨[t, .ref d], []⟩)) _ _ s
  refine wpAny_bind (wpAny_newObj_type (wpAny_pure ⟨plainId_quiet PySem.F.plain_list_iadd _, codeAny_builtin entry_list_iadd' ?_⟩))
  rw [Around.under_plainId PySem.F.plain_list_iadd _]
  show wpAny _ A.in1 (Builtin.List.listExtendWith (.ref s.heap.objs.size) (.ref d) (.ref s.heap.objs.size)) _ _ _
  refine wpAny_mono go (fun f t z => ?_) fun _ _ z => by obtain ⟨_, _, _, _, e, _⟩ := z; cases e
  cases f with
  | done v =>
    obtain ⟨g, tk, acc, c, e, rfl, kk, gs, it⟩ := z
    cases e
    exact wpAny_bind (wpAny_load gs (wpAny_pure (fin g tk acc c kk gs it)))
  | again c1 =>
    refine ⟨z.1, codeAny_mono z.2 fun q t y => ?_⟩
    obtain ⟨g, tk, acc, c, rfl, rfl, kk, gs, it⟩ := y
    exact wpAny_bind (wpAny_load gs (wpAny_pure (fin g tk acc c kk gs it)))
def rSortDic (X : Cx) (C : Addr) : List V → Hp → VK → Prop := fun xs H Q => ∃ (d : Addr) (ep : Nat) (es : List (Stg × Addr × V)) (G : Hp), xs = [.ref d] ∧ H d = some (dicO X.w d ep es) ∧ Same G H ∧ (∀ e ∈ es, Rp X.K C G (.ref e.2.1) (stD e.1)) ∧ SrtOk (es.map fun e : Stg × Addr × V => stD e.1) ∧
  ∀ (p : Addr) (ws : List V), H p = none → RpAll X.K C G ws (srtD (es.map fun e : Stg × Addr × V => stD e.1)) → Q (.ref p) (upd H p (.lst ws))
theorem cr_sortDic (hc : X.calm = true) (hu : X.A.units + 64 < cLine) : CallR X (.builtin "sorted") (rSortDic X C) := by
  rintro pins s σ H xs us Q I r ⟨d, ep, es, G, rfl, hd, f, hk, ok, q⟩
  rw [Vals.ref1 r]
  obtain ⟨⟨lo, hz, kx, o, arr, pr, ho, hx, hdat, he, hn⟩, _⟩ := I.hok d _ hd
  have hsz : arr.size = es.length := by rw [← Array.length_toList, he, List.length_map]; exact (Paired.length pr).symm
  have at_ : ∀ (j : Nat) (hj : j < arr.size), ∃ e, es[j]? = some e ∧ arr[j].key = .ref e.2.1 := fun j hj => by
    have hj' : j < es.length := by omega
    obtain ⟨x, hx1, hx2⟩ := paired_at pr (List.getElem?_eq_getElem hj')
    refine ⟨es[j], List.getElem?_eq_getElem hj', ?_⟩
    have e1 : arr.toList[j]? = some (dEnt X.w x) := by rw [he, List.getElem?_map, hx1]; rfl
    rw [Array.getElem?_toList, Array.getElem?_eq_getElem hj] at e1
    rw [Option.some.inj e1]
    show Value.ref x.2.1 = _
    rw [hx2.2.1]
  refine Calls.call_function_entry kind_sorted plain_sorted entry_sorted (args_sorted1 _) ?_
  unfold Builtin.«sorted»
  refine wpAny_bind (m := checkCount "sorted" 1 1 _) (wpAny_pure (wpAny_bind (coll_dic (A := X.A.in1) (arr := arr) (ep := ep) lo (I.ok.hd hc) ⟨o, ho, hx, hdat⟩ (by rw [hsz]; exact hz) fun g tk acc kk gz az ai => ?_)))
  have len : acc.toList.length = es.length := by rw [Array.length_toList, az, hsz]
  refine wpAny_bind (wpAny_newList ?_ (by rw [len]; exact hz))
  have eR : EachIs (RdV X.K C G) acc.toList (es.map fun e : Stg × Addr × V => stD e.1) := each_at (by rw [len, List.length_map]) fun j u b e1 e2 => by
    rw [Array.getElem?_toList] at e1
    obtain ⟨hj, rfl⟩ := ai j u e1
    obtain ⟨e, h1, h2⟩ := at_ j hj
    rw [List.getElem?_map, h1] at e2
    obtain rfl := Option.some.inj e2
    rw [h2]
    exact ⟨.ref e.2.1, rfl, hk e (List.mem_of_getElem? h1)⟩
  have rd := rdv_reads I f eR ok.pl
  have new : (g.push { cls := .type "list", data := .seq acc.toList.toArray }).get? g.objs.size = some (seqObj "list" acc.toList.toArray 0) := Heap.get?_push_size _ rfl
  refine wpAny_bind (wpAny_holding (wpAny_mono (list_sort_data (R := RdV X.K C G) (bs := es.map fun e : Stg × Addr × V => stD e.1) (enc := fun d => d) (s := { s with heap := g.push { cls := .type "list", data := .seq acc.toList.toArray }, toks := tk })
    (Q := fun v t => ∃ out : List Value, out.length = (es.map fun e : Stg × Addr × V => stD e.1).length ∧ EachIs (RdV X.K C G) out (srtD (es.map fun e : Stg × Addr × V => stD e.1)) ∧ t = { s with heap := sortedHeap (g.push { cls := .type "list", data := .seq acc.toList.toArray }) g.objs.size acc.toList out.toArray, toks := tk })
    (E := X.xe) new eR ?_ (by rw [map_id']; exact ok.al) (by rw [map_id']; exact ok.so) (by rw [List.length_map]; exact hz) (fun d hd => ?_) (fun out ho eo => ⟨out, ho, eo, rfl⟩)) (fun v t z => ?_) fun _ _ z => z))
  · refine (each_both rd (T := fun b => ∃ e ∈ es, b = stD e.1) fun b hb => ?_).mono ?_
    · obtain ⟨e, he1, he2⟩ := List.mem_map.mp hb
      exact ⟨e, he1, he2.symm⟩
    · rintro u b ⟨⟨as, ra⟩, e, he1, rfl⟩
      have nl := nolist_st ra
      subst nl
      exact ⟨[], PyProof.Rows.Reads.keeps (fun b o e => Heap.get?_push_of_some _ (kk b o e)) ra, by simp⟩
  · have h1 := (ok.pl d hd).lay.2
    have h2 : X.A.in1.units = X.A.units + 1 := Around.in1_units _
    have h3 : X.A.in1.in1.units = X.A.in1.units + 1 := Around.in1_units _
    omega
  · obtain ⟨out, lo2, eo, rfl⟩ := z
    obtain ⟨ws, w1, w2⟩ := each_vals eo
    obtain ⟨ep', he'⟩ := sortedHeap_at (vs := acc.toList) (out := out.toArray) new
    have w3 : ws.length ≤ sizeLine := by rw [w1.length, lo2, List.length_map]; exact hz
    refine wpAny_pure ⟨_, rfl, .ref g.objs.size, upd H g.objs.size (.lst ws), I.laid (t' := tk) (fun b u e => ?_) gz ⟨w3, out, ep', w1, he'⟩, rfl, q _ _ (I.hok.fresh gz) w2⟩
    have lt : b < g.objs.size := Nat.lt_of_lt_of_le (Heap.lt_size e) gz
    rw [sortedHeap_old (Nat.ne_of_lt lt) (by rw [size_push']; exact Nat.lt_succ_of_lt lt)]
    exact Heap.get?_push_of_some _ (kk b u e)
end
end G

namespace G
open PySem L2 PySem.W PyProof.Rows
/-! ### the state: a dict of one's own, a dict known for good -/
def noDic : List SD → Bool
  | [] => true
  | .dic _ _ :: _ => false
  | _ :: r => noDic r
theorem noDic_at : ∀ {ss : List SD} {j : Nat} {w : World} {kvs : List (Stg × V)}, noDic ss = true → ss[j]? ≠ some (.dic w kvs)
  | [], j, w, kvs, _ => by simp
  | x :: r, 0, w, kvs, n => fun e => by
    have e' : x = .dic w kvs := Option.some.inj (by simpa using e)
    subst e'
    simp [noDic] at n
  | x :: r, j + 1, w, kvs, n => fun e => by
    refine noDic_at (ss := r) (j := j) (w := w) (kvs := kvs) ?_ (by simpa using e)
    cases x with
    | dic w kvs => simp [noDic] at n
    | own ds => exact n
    | un => exact n
    | dat d => exact n
    | bor d => exact n
    | val v => exact n
    | fro P => exact n
    | raw P => exact n
/-- a dict known for good -/
def frP (K : PySem.W.Frag) (C : Addr) (w : World) (kvs : List (Stg × V)) : V → Hp → Prop := fun v F => ∃ d, v = .ref d ∧ DicAt K C w F F d kvs
theorem frP_mono {K : PySem.W.Frag} {C : Addr} {w : World} {kvs : List (Stg × V)} {v : V} {F F' : Hp} (h : frP K C w kvs v F) (e : Same F F') : frP K C w kvs v F' := by
  obtain ⟨d, q, r⟩ := h
  exact ⟨d, q, r.mono e (.inr e)⟩
section
variable {K : PySem.W.Frag} {B : Bs} {ss : List SD} {σ : St} {F H : Hp}
theorem Sat.set_gen {i : Nat} {v : V} {sd : SD} (h : Sat K B ss σ F H) (hn : ∀ es, sd ≠ .own es) (r : SlotOk K B F H sd (some (some v))) : Sat K B (ss.set i sd) (σ.set i (some v)) F H where
  g := h.g
  pin := h.pin
  len := by rw [List.length_set, List.length_set]; exact h.len
  slot := fun j t e => by
    by_cases hj : i = j
    · subst hj
      have hi : i < ss.length := by
        have := (List.getElem?_eq_some_iff.mp e).1
        rwa [List.length_set] at this
      rw [List.getElem?_set_self hi] at e
      cases e
      rw [List.getElem?_set_self (by rw [h.len]; exact hi)]
      exact r
    · rw [List.getElem?_set_ne hj] at e ⊢
      exact h.slot j t e
  ne := fun j k ds es hjk e1 e2 => by
    have nj : ∀ {k ds}, (ss.set i sd)[k]? = some (.own ds) → i ≠ k := fun {k ds} e q => by
      subst q
      have hi : i < ss.length := by
        have := (List.getElem?_eq_some_iff.mp e).1
        rwa [List.length_set] at this
      rw [List.getElem?_set_self hi] at e
      exact hn _ (Option.some.inj e)
    have a := nj e1
    have b := nj e2
    rw [List.getElem?_set_ne a] at e1 ⊢
    rw [List.getElem?_set_ne b] at e2 ⊢
    exact h.ne j k ds es hjk e1 e2
/-- slot i holds what it held, told otherwise; the frozen part and the heap have changed -/
theorem Sat.retell {i : Nat} {sd : SD} {F' H' : Hp} (h : Sat K B ss σ F H) (g : Grow B.F0 B.H0 F' H') (sm : Same F F') (hn : ∀ es, sd ≠ .own es) (hi : i < ss.length) (r : SlotOk K B F' H' sd σ[i]?)
    (ot : ∀ (j : Nat) (t : SD), i ≠ j → ss[j]? = some t → SlotOk K B F' H' t σ[j]?) : Sat K B (ss.set i sd) σ F' H' where
  g := g
  pin := h.pin.trans sm
  len := by rw [List.length_set]; exact h.len
  slot := fun j t e => by
    by_cases hj : i = j
    · subst hj
      rw [List.getElem?_set_self hi] at e
      cases e
      exact r
    · rw [List.getElem?_set_ne hj] at e
      exact ot j t hj e
  ne := fun j k ds es hjk e1 e2 => by
    have nj : ∀ {k ds}, (ss.set i sd)[k]? = some (.own ds) → i ≠ k := fun {k ds} e q => by
      subst q
      rw [List.getElem?_set_self hi] at e
      exact hn _ (Option.some.inj e)
    rw [List.getElem?_set_ne (nj e1)] at e1
    rw [List.getElem?_set_ne (nj e2)] at e2
    exact h.ne j k ds es hjk e1 e2
/-- the dict at slot i has changed -/
theorem Sat.putD {i ep : Nat} {d : Addr} {w : World} {kvs kvs' : List (Stg × V)} {es' : List (Stg × Addr × V)} (h : Sat K B ss σ F H) (e : ss[i]? = some (.dic w kvs)) (ea : σ[i]? = some (some (.ref d))) (nr : noRaw ss = true) (nd : noDic (ss.set i .un) = true)
    (hm : esK es' = kvs') (hk : ∀ x ∈ es', Rp K B.C F (.ref x.2.1) (stD x.1)) : Sat K B (ss.set i (.dic w kvs')) σ F (L2.upd H d (dicO w d ep es')) := by
  obtain ⟨d', ed, d0, dF, hD⟩ := h.slot i _ e
  rw [ea] at ed
  cases ed
  have hi : i < ss.length := (List.getElem?_eq_some_iff.mp e).1
  refine h.retell ⟨fun b u q => by rw [upd_ne (ne_of_none q d0)]; exact h.g.hh b u q, h.g.ff, fun b u q => by rw [upd_ne (ne_of_none q dF)]; exact h.g.fh b u q, h.g.own⟩ (Same.refl _) (fun es q => by cases q) hi ⟨d, ea, d0, dF, ep, es', upd_same, hm, hk⟩ fun j t hj q => ?_
  have z := h.slot j t q
  cases t with
  | un => trivial
  | dat d => exact z
  | bor d => exact z
  | val v => exact z
  | fro P => exact z
  | own es =>
    obtain ⟨b, vs, e1, b0, nb, hb, r⟩ := z
    exact ⟨b, vs, e1, b0, nb, by rw [upd_ne (Ne.symm (hD.ne (nx_lst hb)))]; exact hb, r⟩
  | raw P => exact (noRaw_at nr q).elim
  | dic w' kvs' => exact (noDic_at (j := j) nd (by rw [List.getElem?_set_ne hj]; exact q)).elim
/-- the dict at slot i is known for good from now on -/
theorem Sat.frzD {i : Nat} {w : World} {kvs : List (Stg × V)} (h : Sat K B ss σ F H) (e : ss[i]? = some (.dic w kvs)) (nr : noRaw ss = true) (nd : noDic (ss.set i .un) = true) : ∃ F', Sat K B (ss.set i (.fro (frP K B.C w kvs))) σ F' H ∧ Same F F' := by
  obtain ⟨d, ed, d0, dF, hD⟩ := h.slot i _ e
  obtain ⟨ep, es, hd, hq, hk⟩ := id hD
  have hi : i < ss.length := (List.getElem?_eq_some_iff.mp e).1
  have sm : Same F (L2.upd F d (dicO w d ep es)) := Same.new dF
  refine ⟨L2.upd F d (dicO w d ep es), h.retell (h.g.keep d0 dF hd) sm (fun es q => by cases q) hi ⟨.ref d, ed, fun F2 g2 => ⟨d, rfl, ep, es, g2 _ _ upd_same, hq, fun x hx => (hk x hx).mono (sm.trans g2)⟩⟩ fun j t hj q => ?_, sm⟩
  have z := h.slot j t q
  cases t with
  | un => trivial
  | dat d => obtain ⟨v, e1, r⟩ := z; exact ⟨v, e1, r.mono sm⟩
  | bor d => exact z
  | val v => exact z
  | fro P => obtain ⟨v, e1, r⟩ := z; exact ⟨v, e1, fun F2 g2 => r F2 (sm.trans g2)⟩
  | own es =>
    obtain ⟨b, vs, e1, b0, nb, hb, r⟩ := z
    exact ⟨b, vs, e1, b0, by rw [upd_ne (Ne.symm (hD.ne (nx_lst hb)))]; exact nb, hb, r.mono sm⟩
  | raw P => exact (noRaw_at nr q).elim
  | dic w' kvs' => exact (noDic_at (j := j) nd (by rw [List.getElem?_set_ne hj]; exact q)).elim
end
/-! ### judgements -/
theorem st_ref {K : PySem.W.Frag} {C : Addr} {H : Hp} {v : V} {S : Stg} (h : Rp K C H v (stD S)) : ∃ a, v = .ref a := by
  generalize hd : stD S = d at h
  cases h with
  | @tup a vs ds h1 h2 => exact ⟨a, rfl⟩
  | _ => cases hd
section
variable {X : Cx} {B : Bs} {ss : List SD} {e a b c : Expr} {es : List Expr} {pos p p2 p3 p4 : Pos} {d x y z : PyData} {ds ds' : List PyData} {rest body orelse : List Stmt} {D : Ends} {kvs : List (Stg × V)} {S : Stg}
/-- e gives a dict of these entries -/
def PDc (X : Cx) (B : Bs) (e : Expr) (ss : List SD) (kvs : List (Stg × V)) : Prop := ∀ (σ : St) (F H : Hp), Sat X.K B ss σ F H → ∀ Q : VK, (∀ d F' H', Grow F H F' H' → DicAt X.K B.C X.w F' H' d kvs → Q (.ref d) H') → tSem X e σ H Q
theorem pdc_dic (i : Nat) {x : Str} (hN : X.N[i]? = some x := by rfl) (hs : ss[i]? = some (.dic X.w kvs) := by rfl) (hv : Vis X.env.scope x := by first | exact Or.inl rfl | exact Or.inr (Or.inl rfl) | exact Or.inr (Or.inr rfl)) (hd : (x == ("__debug__" : Str)) = false := by decide)
    (hcd : (x == ("__classdict__" : Str)) = false := by decide) : PDc X B (.Name x p) ss kvs := fun σ F H s Q q => by
  obtain ⟨d, ed, d0, dF, hD⟩ := s.slot i _ hs
  exact sem_of (pe_var hN hv hd hcd) ⟨.ref d, ed, q d F H (Grow.refl s.fh) hD⟩
theorem pdc_fro (i : Nat) {x : Str} (hN : X.N[i]? = some x := by rfl) (hs : ss[i]? = some (.fro (frP X.K B.C X.w kvs)) := by rfl) (hv : Vis X.env.scope x := by first | exact Or.inl rfl | exact Or.inr (Or.inl rfl) | exact Or.inr (Or.inr rfl)) (hd : (x == ("__debug__" : Str)) = false := by decide)
    (hcd : (x == ("__classdict__" : Str)) = false := by decide) : PDc X B (.Name x p) ss kvs := fun σ F H s Q q => by
  obtain ⟨v, ev, hP⟩ := s.slot i _ hs
  obtain ⟨d, rfl, hD⟩ := hP F (Same.refl _)
  exact sem_of (pe_var hN hv hd hcd) ⟨.ref d, ev, q d F H (Grow.refl s.fh) (hD.mono (Same.refl _) (.inr s.fh))⟩
theorem pdc_prw (h : PRw X B e ss (fun _ v F _ => frP X.K B.C X.w kvs v F)) : PDc X B e ss kvs := fun σ F H s Q q => h σ F H s Q fun v F' H' g r => by
  obtain ⟨d, rfl, hD⟩ := r
  exact q d F' H' g (hD.mono (Same.refl _) (.inr g.fh))
theorem td_inDic (hu : X.A.units + 64 < cLine) (ha : PD X B a ss (stD S)) (hb : PDc X B b ss kvs) (hm : behindInMarks .In b = false := by rfl) : TD X B (.Compare a [.In] [b] pos) ss (valK kvs S).isSome := fun σ F H s Q q =>
  semT_of (pt_cmpR (op_inDic (C := B.C) hu) pe_sem pe_sem hm) (ha σ F H s _ fun v F1 H1 g1 r1 => hb σ F1 H1 (s.grow g1) _ fun d F2 H2 g2 hD => by
    obtain ⟨ep, es, hd, hq, hk⟩ := hD
    subst hq
    exact ⟨d, ep, es, S, rfl, hd, fun e he => (hk e he).mono g2.fh, (r1.mono g2.ff).mono g2.fh, _, rfl, by rw [Bool.false_bne]; exact q F2 H2 (g1.trans g2)⟩)
theorem td_notInDic (hu : X.A.units + 64 < cLine) (ha : PD X B a ss (stD S)) (hb : PDc X B b ss kvs) (hm : behindInMarks .NotIn b = false := by rfl) : TD X B (.Compare a [.NotIn] [b] pos) ss (!(valK kvs S).isSome) := fun σ F H s Q q =>
  semT_of (pt_cmpR (op_notInDic (C := B.C) hu) pe_sem pe_sem hm) (ha σ F H s _ fun v F1 H1 g1 r1 => hb σ F1 H1 (s.grow g1) _ fun d F2 H2 g2 hD => by
    obtain ⟨ep, es, hd, hq, hk⟩ := hD
    subst hq
    exact ⟨d, ep, es, S, rfl, hd, fun e he => (hk e he).mono g2.fh, (r1.mono g2.ff).mono g2.fh, _, rfl, by rw [Bool.true_bne]; exact q F2 H2 (g1.trans g2)⟩)
/-- d[k], a number -/
theorem pd_getDic {n : Int} (hu : X.A.units + 64 < cLine) (hb : PDc X B a ss kvs) (ha : PD X B b ss (stD S)) (hv : valK kvs S = some (.int n)) (hx : PlainIx b := by intro _ _; rfl) : PD X B (.Subscript a b pos) ss (.int n) := fun σ F H s Q q =>
  sem_of (pe_ix (ix_dic (C := B.C) hu) pe_sem pe_sem hx) (hb σ F H s _ fun d F1 H1 g1 hD => ha σ F1 H1 (s.grow g1) _ fun v F2 H2 g2 r2 => by
    obtain ⟨ep, es, hd, hq, hk⟩ := hD.mono g2.ff (.inr g2.hh)
    subst hq
    exact ⟨d, ep, es, S, .int n, rfl, hd, fun e he => (hk e he).mono g2.fh, r2.mono g2.fh, hv, q _ F2 H2 (g1.trans g2) (.int n)⟩)
/-- d[k] = v, a new key -/
theorem go_setDic (i : Nat) {x : Str} {vv : V} (cx : Cxt X) (hs0 : ss[i]? = some (.dic X.w kvs)) (he : PD X B e ss d) (hk : PD X B a ss (stD S)) (hn : valK kvs S = none) (hz : kvs.length < sizeLine) (h : Go X B rest (ss.set i (.dic X.w (kvs ++ [(S, vv)]))) D)
    (hy : ∀ {F : Hp} {v : V}, Rp X.K B.C F v d → v = vv := by intro _ _ r; cases r; rfl) (nr : noRaw ss = true := by rfl) (nd : noDic (ss.set i .un) = true := by rfl)
    (hps : ∀ (u : X.A.units + 64 < cLine), PS X (.Assign [.Subscript (.Name x p) a p2] e pos) (tAsg (tSem X e) (gSub (tVar i) (tSem X a) (rDicSet X B.C))) := by intro u; exact ps_asg pe_sem (pg_sub (pe_var (by rfl) (by first | exact Or.inl rfl | exact Or.inr (Or.inl rfl) | exact Or.inr (Or.inr rfl)) (by decide) (by decide)) pe_sem (set_dic u))) :
    Go X B (.Assign [.Subscript (.Name x p) a p2] e pos :: rest) ss D :=
  go_step (hps cx.u64) fun σ F H s => he σ F H s _ fun v F1 H1 g1 r1 => by
    obtain ⟨q, ea, d0, dF, hD⟩ := (s.grow g1).slot i _ hs0
    obtain rfl := hy r1
    refine ⟨_, ea, hk σ F1 H1 (s.grow g1) _ fun u F2 H2 g2 r2 => ?_⟩
    obtain ⟨t, rfl⟩ := st_ref r2
    obtain ⟨ep, es, hd, hq, hke⟩ := hD.mono g2.ff (.inr g2.hh)
    have hq' : esK es = kvs := hq
    refine ⟨q, ep, es, S, t, rfl, rfl, hd, fun e he => (hke e he).mono g2.fh, r2.mono g2.fh, by rw [hq']; exact hn, ?_, fun ep' => ?_⟩
    · have : es.length = kvs.length := by rw [← hq', esK, List.length_map]
      omega
    · refine h σ F2 _ ((s.grow (g1.trans g2)).putD hs0 ea nr nd ?_ fun e he => ?_)
      · rw [esK, List.map_append, ← hq']; rfl
      · rcases List.mem_append.mp he with he | he
        · exact hke e he
        · rw [List.mem_singleton.mp he]; exact r2
/-- x = {} -/
theorem go_asgDic0 (i : Nat) {x : Str} (hN : X.N.Nodup) (h : Go X B rest (ss.set i (.dic X.w [])) D) (hi : X.N[i]? = some x := by rfl) (hx : Loc X.env.scope x := by first | exact Or.inl rfl | exact Or.inr rfl) (hs : swapsWith (.Dict [] [] p2) (some (.Name x p)) pos.line X.env = pure false := by rfl)
    (hf : X.fn x = true ∨ X.env.scope.names.lookup x = some .local := by first | exact .inl rfl | exact .inr rfl) : Go X B (.Assign [.Name x p] (.Dict [] [] p2) pos :: rest) ss D :=
  go_step (ps_set hN hi hx pe_dicNew hs hf) fun σ F H s => fun d hd => by
    have g := Grow.newO (o := dicO X.w d 0 []) s.fh hd
    exact h _ F _ ((s.grow g).set_gen (fun es q => by cases q) ⟨d, rfl, s.g.hh.free hd, s.fh.free hd, 0, [], upd_same, rfl, fun e he => by cases he⟩)
/-- x = {k: v} -/
theorem go_asgDic1 (i : Nat) {x : Str} {vv : V} (cx : Cxt X) (hk : PD X B a ss (stD S)) (hv : PD X B b ss d) (h : Go X B rest (ss.set i (.dic X.w [(S, vv)])) D) (hy : ∀ {F : Hp} {v : V}, Rp X.K B.C F v d → v = vv := by intro _ _ r; cases r; rfl)
    (nr : noRaw (ss.set i (.dic X.w [])) = true := by rfl) (hlt : i < ss.length := by exact Nat.le_of_ble_eq_true rfl) (nd : noDic (ss.set i .un) = true := by rfl) (hi : X.N[i]? = some x := by rfl) (hx : Loc X.env.scope x := by first | exact Or.inl rfl | exact Or.inr rfl) (hs : swapsWith (.Dict [some a] [b] p2) (some (.Name x p)) pos.line X.env = pure false := by rfl)
    (hf : X.fn x = true ∨ X.env.scope.names.lookup x = some .local := by first | exact .inl rfl | exact .inr rfl) : Go X B (.Assign [.Name x p] (.Dict [some a] [b] p2) pos :: rest) ss D :=
  go_step (ps_set cx.nd hi hx (pe_dic1 (C := B.C) cx.u64 pe_sem pe_sem) hs hf) fun σ F H s => fun q hq => by
    have g := Grow.newO (o := dicO X.w q 0 []) s.fh hq
    refine hk σ F _ (s.grow g) _ fun u F1 H1 g1 r1 => hv σ F1 H1 (s.grow (g.trans g1)) _ fun v F2 H2 g2 r2 => ?_
    obtain ⟨t, rfl⟩ := st_ref r1
    obtain rfl := hy r2
    have gg := (g.trans g1).trans g2
    have hd : H2 q = some (dicO X.w q 0 []) := (g1.trans g2).hh _ _ upd_same
    have fq : F2 q = none := (g1.trans g2).own q _ upd_same (s.fh.free hq)
    have sat := (s.grow gg).set_gen (i := i) (v := .ref q) (sd := .dic X.w []) (fun es q => by cases q) ⟨q, rfl, s.g.hh.free hq, fq, 0, [], hd, rfl, fun e he => by cases he⟩
    refine ⟨S, t, rfl, hd, (r1.mono g2.ff).mono g2.fh, fun ep => ?_⟩
    have hiσ : i < σ.length := by rw [s.len]; exact hlt
    have hie : (ss.set i (.dic X.w []))[i]? = some (SD.dic X.w []) := List.getElem?_set_self (by rw [← s.len]; exact hiσ)
    have r := sat.putD (ep := ep) (kvs' := [(S, v)]) (es' := [(S, t, v)]) hie (List.getElem?_set_self hiσ) nr (by rw [List.set_set]; exact nd) rfl (fun e he => by rw [List.mem_singleton.mp he]; exact r1.mono g2.ff)
    rw [List.set_set] at r
    exact h _ F2 _ r
/-- x = f(..), a dict -/
theorem go_asgFro (i : Nat) {x : Str} (hN : X.N.Nodup) (he : PRw X B e ss (fun _ v F _ => frP X.K B.C X.w kvs v F)) (h : Go X B rest (ss.set i (.fro (frP X.K B.C X.w kvs))) D) (hi : X.N[i]? = some x := by rfl) (hx : Loc X.env.scope x := by first | exact Or.inl rfl | exact Or.inr rfl) (hs : swapsWith e (some (.Name x p)) pos.line X.env = pure false := by rfl)
    (hf : X.fn x = true ∨ X.env.scope.names.lookup x = some .local := by first | exact .inl rfl | exact .inr rfl) : Go X B (.Assign [.Name x p] e pos :: rest) ss D :=
  go_step (ps_set hN hi hx pe_sem hs hf) fun σ F H s => he σ F H s _ fun v F1 H1 g r => h _ F1 H1 ((s.grow g).set_gen (fun es q => by cases q) ⟨v, rfl, fun F2 g2 => frP_mono r g2⟩)
theorem go_frzD {l : List Stmt} (i : Nat) (hs : ss[i]? = some (.dic X.w kvs)) (h : Go X B l (ss.set i (.fro (frP X.K B.C X.w kvs))) D) (nr : noRaw ss = true := by rfl) (nd : noDic (ss.set i .un) = true := by rfl) : Go X B l ss D := fun σ F H s => by
  obtain ⟨F', s', _⟩ := s.frzD hs nr nd
  exact h σ F' H s'
/-- return x, a dict known for good -/
theorem go_retFro (i : Nat) {x : Str} (hs : ss[i]? = some (.fro (frP X.K B.C X.w kvs))) (k : ∀ v F H, Grow B.F0 B.H0 F H → frP X.K B.C X.w kvs v F → D.rt v H) (hN : X.N[i]? = some x := by rfl) (hv : Vis X.env.scope x := by first | exact Or.inl rfl | exact Or.inr (Or.inl rfl) | exact Or.inr (Or.inr rfl)) (hd : (x == ("__debug__" : Str)) = false := by decide)
    (hcd : (x == ("__classdict__" : Str)) = false := by decide) : Go X B (.Return (some (.Name x p)) pos :: rest) ss D :=
  go_step (ps_ret (pe_var hN hv hd hcd)) fun σ F H s => by
    obtain ⟨v, ev, hP⟩ := s.slot i _ hs
    exact ⟨v, ev, k v F H s.g (hP F (Same.refl _))⟩
/-- sorted(d), sorted(xs) -/
theorem pn_sortDic (cx : Cxt X) (ha : PDc X B e ss kvs) (ok : SrtOk (kvs.map fun q => stD q.1)) (hm : X.mg "sorted" = none) (hv : bootBuiltins "sorted" = some (.builtin "sorted") := by decide +kernel) (hg : Gl X "sorted" := by rfl) (hn : NSt X e := by intro _; rfl) :
    PN X B (.Call (.Name "sorted" p) [e] [] pos) ss (srtD (kvs.map fun q => stD q.1)) := fun σ F H s Q q =>
  sem_of (pe_callB (cr_sortDic (C := B.C) cx.calm cx.u64) hg hm hv (pa_cons pe_sem pa_nil (hn [])) (by decide) (by decide) (hn []) rfl) (ha σ F H s _ fun d F1 H1 g hD => by
    obtain ⟨ep, es, hd, hq, hk⟩ := hD
    subst hq
    rw [List.map_map] at ok q
    exact ⟨d, ep, es, F1, rfl, hd, g.fh, hk, ok, fun t ws ht r => q t ws F1 _ (g.trans (Grow.newO g.fh ht)) (g.hh.free ht) (g.fh.free ht) upd_same r⟩)
theorem pn_sortD (cx : Cxt X) (ha : PLi X B e ss ds) (ok : SrtOk ds) (hm : X.mg "sorted" = none) (hv : bootBuiltins "sorted" = some (.builtin "sorted") := by decide +kernel) (hg : Gl X "sorted" := by rfl) (hn : NSt X e := by intro _; rfl) :
    PN X B (.Call (.Name "sorted" p) [e] [] pos) ss (srtD ds) := fun σ F H s Q q =>
  sem_of (pe_callB (cr_sortD (C := B.C) cx.u64) hg hm hv (pa_cons pe_sem pa_nil (hn [])) (by decide) (by decide) (hn []) rfl) (ha σ F H s _ fun a vs F1 H1 g sq r => ⟨a, vs, ds, F1, rfl, sq, g.fh, r, ok, fun t ws ht r2 => q t ws F1 _ (g.trans (Grow.newO g.fh ht)) (g.hh.free ht) (g.fh.free ht) upd_same r2⟩)
/-- return (a, [..]) -/
theorem go_retTN {k1 : Nat} (ha : PD X B a ss d) (he : PN X B e ss ds) (k : ∀ v F H, Grow B.F0 B.H0 F H → tolP X.K B.C 2 1 0 ds d B.H0 v F H → D.rt v H) (n1 : NSt X a := by intro _; rfl) (n2 : NSt X e := by intro _; rfl) : Go X B (.Return (some (.Tuple [a, e] k1 p3)) pos :: rest) ss D :=
  go_step (ps_ret (pe_tup (pa_cons pe_sem (pa_cons pe_sem pa_nil (n2 [])) (n1 [e])))) fun σ F H s => ha σ F H s _ fun v F1 H1 g1 r1 => he σ F1 H1 (s.grow g1) _ fun l ws F2 H2 g2 nn nf h2 r2 => ⟨Nat.le_of_ble_eq_true rfl, fun t ht => by
    have g3 := Grow.new (o := .tup [v, .ref l]) g2.fh ht
    exact k _ _ _ (((s.g.trans g1).trans g2).trans g3) ⟨t, l, [v, .ref l], ws, v, rfl, SqT.of upd_same, rfl, rfl, rfl, (s.g.trans g1).hh.free nn, g3.own l _ h2 nf, g3.hh l _ h2, r2.mono g3.ff, r1.mono (g2.ff.trans g3.ff)⟩⟩
/-- return (a, x), x a list of its own -/
theorem go_retTO {k1 : Nat} (i : Nat) {x : Str} (ha : PD X B a ss d) (hs : ss[i]? = some (.own ds)) (k : ∀ v F H, Grow B.F0 B.H0 F H → tolP X.K B.C 2 1 0 ds d B.H0 v F H → D.rt v H) (n1 : NSt X a := by intro _; rfl) (n2 : NSt X (.Name x p) := by intro _; rfl)
    (hN : X.N[i]? = some x := by rfl) (hv : Vis X.env.scope x := by first | exact Or.inl rfl | exact Or.inr (Or.inl rfl) | exact Or.inr (Or.inr rfl)) (hd : (x == ("__debug__" : Str)) = false := by decide) (hcd : (x == ("__classdict__" : Str)) = false := by decide) : Go X B (.Return (some (.Tuple [a, .Name x p] k1 p3)) pos :: rest) ss D :=
  go_step (ps_ret (pe_tup (pa_cons pe_sem (pa_cons (pe_var hN hv hd hcd) pa_nil (n2 [])) (n1 [.Name x p])))) fun σ F H s => ha σ F H s _ fun v F1 H1 g1 r1 => by
    obtain ⟨l, ws, el, l0, nf, hl, r⟩ := (s.grow g1).slot i _ hs
    refine ⟨_, el, Nat.le_of_ble_eq_true rfl, fun t ht => ?_⟩
    have g3 := Grow.new (o := .tup [v, .ref l]) g1.fh ht
    exact k _ _ _ ((s.g.trans g1).trans g3) ⟨t, l, [v, .ref l], ws, v, rfl, SqT.of upd_same, rfl, rfl, rfl, l0, g3.own l _ hl nf, g3.hh l _ hl, r.mono g3.ff, r1.mono g3.ff⟩
theorem alike_rows : ∀ S T : Stg, alikeAll (S.map fun r => .tuple (r.map .int)) (T.map fun r => .tuple (r.map .int)) = true
  | [], _ => by simp [alikeAll]
  | _ :: _, [] => by simp [alikeAll]
  | x :: S, y :: T => by
    rw [List.map_cons, List.map_cons, alikeAll, alike_rows S T]
    simp [alike, alike_ints]
theorem alike_st (S T : Stg) : alike (stD S) (stD T) = true := by
  show alikeAll _ _ = true
  exact alike_rows S T
theorem srtOk_st {l : List Stg} (h : ∀ S ∈ l, S ≠ []) : SrtOk (l.map stD) where
  al := fun d hd d' hd' => by
    obtain ⟨S, _, rfl⟩ := List.mem_map.mp hd
    obtain ⟨T, _, rfl⟩ := List.mem_map.mp hd'
    exact alike_st S T
  so := .inl fun d hd => by
    obtain ⟨S, hS, rfl⟩ := List.mem_map.mp hd
    cases S with
    | nil => exact absurd rfl (h [] hS)
    | cons r S => exact ⟨_, _, rfl⟩
  pl := fun d hd => by
    obtain ⟨S, hS, rfl⟩ := List.mem_map.mp hd
    exact (Pl.tup (n := 1) (Pl.map fun r _ => Pl.tup (n := 0) (Pl.map fun _ _ => .int))).mono (by decide)
end
end G

namespace G
open PySem L2
/-! ### standings gone through from a goal -/
abbrev Ent := Stg × Int
abbrev keysE (es : List Ent) : List Stg := es.map (·.1)
def insE (n : Int) (es : List Ent) (T : Stg) : List Ent := if T ∈ keysE es then es else es ++ [(T, n)]
def insA (n : Int) (es : List Ent) (Ts : List Stg) : List Ent := Ts.foldl (insE n) es
def nbrs (f : FL) (S : Stg) : List Stg := (liftsOf f S).map (behindL S)
def bfsGo (f : FL) : Nat → List Ent → Nat → List Ent
  | 0, es, _ => es
  | m + 1, es, i => match es[i]? with
    | none => es
    | some q => bfsGo f m (insA (q.2 + 1) es (nbrs f q.1)) (i + 1)
def bfsN : Nat := 160000
def bfs (f : FL) (g : Stg) : List Ent := bfsGo f bfsN [(g, 0)] 0
/-! ### counting -/
theorem len_le {α : Type} [DecidableEq α] : ∀ (l L : List α), l.Nodup → (∀ x ∈ l, x ∈ L) → l.length ≤ L.length
  | [], _, _, _ => Nat.zero_le _
  | x :: l, L, nd, h => by
    obtain ⟨n1, n2⟩ := List.nodup_cons.mp nd
    have hx := h x List.mem_cons_self
    have ih := len_le l (L.erase x) n2 fun y hy => (List.mem_erase_of_ne (fun e => n1 (by rw [← e]; exact hy))).mpr (h y (List.mem_cons_of_mem _ hy))
    rw [List.length_erase_of_mem hx] at ih
    have : 0 < L.length := List.length_pos_of_mem hx
    rw [List.length_cons]
    omega
theorem len_fm {α β : Type} (f : α → List β) (k : Nat) : ∀ (l : List α), (∀ x ∈ l, (f x).length = k) → (l.flatMap f).length = l.length * k
  | [], _ => by simp
  | x :: l, h => by
    rw [List.flatMap_cons, List.length_append, h x List.mem_cons_self, len_fm f k l fun y hy => h y (List.mem_cons_of_mem _ hy), List.length_cons, Nat.succ_mul]
    omega
def words {α : Type} (c : List α) : Nat → List (List α)
  | 0 => [[]]
  | n + 1 => (words c n).flatMap fun w => c.map fun x => x :: w
theorem words_len {α : Type} (c : List α) : ∀ n, (words c n).length = c.length ^ n
  | 0 => rfl
  | n + 1 => by
    rw [words, len_fm _ c.length _ fun w _ => List.length_map _, words_len c n, Nat.pow_succ]
theorem mem_words {α : Type} {c : List α} : ∀ {w : List α}, (∀ x ∈ w, x ∈ c) → w ∈ words c w.length
  | [], _ => List.mem_singleton.mpr rfl
  | x :: w, h => List.mem_flatMap.mpr ⟨w, mem_words fun y hy => h y (List.mem_cons_of_mem _ hy), List.mem_map.mpr ⟨x, h x List.mem_cons_self, rfl⟩⟩
theorem split_inj : ∀ {S T : Stg}, S.flatten = T.flatten → S.map List.length = T.map List.length → S = T
  | [], [], _, _ => rfl
  | [], _ :: _, _, e => by simp at e
  | _ :: _, [], _, e => by simp at e
  | x :: S, y :: T, h, e => by
    rw [List.map_cons, List.map_cons] at e
    injection e with e1 e2
    rw [List.flatten_cons, List.flatten_cons] at h
    obtain ⟨h1, h2⟩ := List.append_inj h e1
    rw [h1, split_inj h2 e2]
theorem mem_flat_le {S : Stg} {r : List Int} (h : r ∈ S) : r.length ≤ S.flatten.length := by
  obtain ⟨i, hi, e⟩ := List.mem_iff_getElem.mp h
  have q := flatten_take (S := S) (i := i) (r := r) (by rw [List.getElem?_eq_getElem hi, e])
  have l := flatten_take_le S (i + 1)
  rw [q, List.length_append] at l
  omega
theorem pow_small {k : Nat} (h : k ≤ 4) : k ^ k ≤ 256 := by
  match k, h with
  | 0, _ => decide
  | 1, _ => decide
  | 2, _ => decide
  | 3, _ => decide
  | 4, _ => decide
  | k + 5, h => omega
theorem pow_five {k : Nat} (h : k ≤ 4) : 5 ^ k ≤ 625 := by
  match k, h with
  | 0, _ => decide
  | 1, _ => decide
  | 2, _ => decide
  | 3, _ => decide
  | 4, _ => decide
  | k + 5, h => omega
/-- so many standings are there at most -/
theorem count_st {l : List Stg} {g : Stg} (nd : l.Nodup) (h : ∀ S ∈ l, S.flatten.Perm g.flatten ∧ S.length = g.length) (h1 : g.flatten.length ≤ 4) (h2 : g.length ≤ 4) : l.length ≤ bfsN := by
  have nd' : (l.map fun S => (S.flatten, S.map List.length)).Nodup := by
    refine List.pairwise_map.mpr (List.Pairwise.imp (fun {a b} hab e => hab ?_) nd)
    injection e with e1 e2
    exact split_inj e1 e2
  have sub := len_le _ ((words g.flatten g.flatten.length).flatMap fun w => (words [0, 1, 2, 3, 4] g.length).map fun v => (w, v)) nd' fun x hx => by
    obtain ⟨S, hS, rfl⟩ := List.mem_map.mp hx
    obtain ⟨p, q⟩ := h S hS
    refine List.mem_flatMap.mpr ⟨S.flatten, ?_, List.mem_map.mpr ⟨S.map List.length, ?_, rfl⟩⟩
    · have := mem_words (c := g.flatten) (w := S.flatten) fun y hy => p.mem_iff.mp hy
      rw [p.length_eq] at this
      exact this
    · have := mem_words (c := [0, 1, 2, 3, 4]) (w := S.map List.length) fun y hy => by
        obtain ⟨r, hr, rfl⟩ := List.mem_map.mp hy
        have l1 := mem_flat_le hr
        rw [p.length_eq] at l1
        have l2 : r.length ≤ 4 := by omega
        revert l2
        generalize r.length = n
        intro l2
        match n, l2 with
        | 0, _ => decide
        | 1, _ => decide
        | 2, _ => decide
        | 3, _ => decide
        | 4, _ => decide
        | n + 5, l2 => omega
      rw [List.length_map, q] at this
      exact this
  rw [List.length_map, len_fm _ (5 ^ g.length) _ fun w _ => by rw [List.length_map, words_len] <;> rfl, words_len] at sub
  have a := pow_small h1
  have b := pow_five h2
  have c := Nat.mul_le_mul a b
  unfold bfsN
  omega
/-! ### look-ups -/
theorem valK_none {κ : Type} {es : List (Stg × κ)} {S : Stg} : valK es S = none ↔ S ∉ es.map (·.1) := by
  unfold valK
  rw [Option.map_eq_none_iff, List.find?_eq_none]
  constructor
  · intro h hm
    obtain ⟨q, hq, e⟩ := List.mem_map.mp hm
    exact h q hq (by simp [e])
  · intro h q hq e
    exact h (List.mem_map.mpr ⟨q, hq, by simpa using e⟩)
theorem valK_mem {κ : Type} : ∀ {es : List (Stg × κ)} {S : Stg} {n : κ}, (es.map (·.1)).Nodup → (S, n) ∈ es → valK es S = some n
  | [], _, _, _, h => by cases h
  | q :: es, S, n, nd, h => by
    rw [List.map_cons] at nd
    obtain ⟨n1, n2⟩ := List.nodup_cons.mp nd
    rcases List.mem_cons.mp h with e | h
    · subst e
      simp [valK, List.find?_cons]
    · have ne : ¬ q.1 = S := fun e => n1 (by rw [e]; exact List.mem_map.mpr ⟨_, h, rfl⟩)
      have := valK_mem n2 h
      unfold valK at this ⊢
      rw [List.find?_cons_of_neg (by simpa using ne)]
      exact this
theorem mem_valK {κ : Type} {es : List (Stg × κ)} {S : Stg} {n : κ} (h : valK es S = some n) : (S, n) ∈ es := by
  unfold valK at h
  obtain ⟨q, hq, e⟩ := Option.map_eq_some_iff.mp h
  have h1 := List.mem_of_find?_eq_some hq
  have h2 := List.find?_some hq
  have h3 : q.1 = S := by simpa using h2
  rw [← h3, ← e]
  exact h1
def dicV (es : List Ent) : List (Stg × V) := es.map fun q => (q.1, V.int q.2)
theorem dicV_keys (es : List Ent) : (dicV es).map (·.1) = keysE es := by
  unfold dicV
  rw [List.map_map]
  rfl
theorem valV_at {es : List Ent} {S : Stg} {n : Int} (nd : (keysE es).Nodup) (h : (S, n) ∈ es) : valK (dicV es) S = some (.int n) :=
  valK_mem (by rw [dicV_keys]; exact nd) (List.mem_map.mpr ⟨(S, n), h, rfl⟩)
theorem valV_some (es : List Ent) (S : Stg) : (valK (dicV es) S).isSome = decide (S ∈ keysE es) := by
  by_cases h : S ∈ keysE es
  · rw [decide_eq_true h]
    cases e : valK (dicV es) S with
    | some v => rfl
    | none => exact absurd h (by rw [← dicV_keys]; exact valK_none.mp e)
  · rw [decide_eq_false h]
    rw [valK_none.mpr (by rw [dicV_keys]; exact h)]
    rfl
/-! ### what going through keeps -/
theorem insE_pre (n : Int) (es : List Ent) (T : Stg) : ∃ more, insE n es T = es ++ more := by
  unfold insE
  split
  · exact ⟨[], by simp⟩
  · exact ⟨_, rfl⟩
theorem insA_pre (n : Int) : ∀ (Ts : List Stg) (es : List Ent), ∃ more, insA n es Ts = es ++ more
  | [], es => ⟨[], by simp [insA]⟩
  | T :: Ts, es => by
    obtain ⟨m1, e1⟩ := insE_pre n es T
    obtain ⟨m2, e2⟩ := insA_pre n Ts (insE n es T)
    refine ⟨m1 ++ m2, ?_⟩
    show insA n (insE n es T) Ts = _
    rw [e2, e1, List.append_assoc]
theorem insE_mem {n : Int} {es : List Ent} {T : Stg} {q : Ent} (h : q ∈ insE n es T) : q ∈ es ∨ (q.1 = T ∧ q.2 = n) := by
  unfold insE at h
  split at h
  · exact .inl h
  · rcases List.mem_append.mp h with h | h
    · exact .inl h
    · rw [List.mem_singleton.mp h]; exact .inr ⟨rfl, rfl⟩
theorem insA_mem {n : Int} {q : Ent} : ∀ {Ts : List Stg} {es : List Ent}, q ∈ insA n es Ts → q ∈ es ∨ (q.1 ∈ Ts ∧ q.2 = n)
  | [], es, h => .inl h
  | T :: Ts, es, h => by
    rcases insA_mem (Ts := Ts) (es := insE n es T) h with h | h
    · rcases insE_mem h with h | h
      · exact .inl h
      · exact .inr ⟨by rw [h.1]; exact List.mem_cons_self, h.2⟩
    · exact .inr ⟨List.mem_cons_of_mem _ h.1, h.2⟩
theorem insE_nd {n : Int} {es : List Ent} {T : Stg} (h : (keysE es).Nodup) : (keysE (insE n es T)).Nodup := by
  unfold insE
  split
  · exact h
  · rename_i hT
    rw [keysE, List.map_append]
    refine List.nodup_append.mpr ⟨h, List.nodup_cons.mpr ⟨by simp, List.nodup_nil⟩, fun a ha b hb e => hT ?_⟩
    rw [List.map_singleton, List.mem_singleton] at hb
    rw [e, hb] at ha
    exact ha
theorem insA_nd {n : Int} : ∀ {Ts : List Stg} {es : List Ent}, (keysE es).Nodup → (keysE (insA n es Ts)).Nodup
  | [], _, h => h
  | T :: Ts, es, h => insA_nd (Ts := Ts) (es := insE n es T) (insE_nd h)
theorem insE_in (n : Int) (es : List Ent) (T : Stg) : T ∈ keysE (insE n es T) := by
  unfold insE
  split
  · assumption
  · rw [keysE, List.map_append]; simp
theorem keys_pre {es more : List Ent} {S : Stg} (h : S ∈ keysE es) : S ∈ keysE (es ++ more) := by
  rw [keysE, List.map_append]; exact List.mem_append_left _ h
theorem insA_in {n : Int} {T : Stg} : ∀ {Ts : List Stg} {es : List Ent}, T ∈ Ts → T ∈ keysE (insA n es Ts)
  | [], _, h => by cases h
  | U :: Ts, es, h => by
    rcases List.mem_cons.mp h with e | h
    · subst e
      obtain ⟨m, e⟩ := insA_pre n Ts (insE n es T)
      show T ∈ keysE (insA n (insE n es T) Ts)
      rw [e]
      exact keys_pre (insE_in n es T)
    · exact insA_in (Ts := Ts) h
theorem insE_up {n : Int} {es : List Ent} {T : Stg} (h : es.Pairwise fun p q => p.2 ≤ q.2) (t : ∀ p ∈ es, p.2 ≤ n) : (insE n es T).Pairwise (fun p q => p.2 ≤ q.2) ∧ ∀ p ∈ insE n es T, p.2 ≤ n := by
  refine ⟨?_, fun p hp => ?_⟩
  · unfold insE
    split
    · exact h
    · refine List.pairwise_append.mpr ⟨h, List.pairwise_singleton _ _, fun a ha b hb => ?_⟩
      rw [List.mem_singleton.mp hb]
      exact t a ha
  · rcases insE_mem hp with q | q
    · exact t p q
    · rw [q.2]; exact Int.le_refl _
theorem insA_up {n : Int} : ∀ {Ts : List Stg} {es : List Ent}, es.Pairwise (fun p q => p.2 ≤ q.2) → (∀ p ∈ es, p.2 ≤ n) → (insA n es Ts).Pairwise (fun p q => p.2 ≤ q.2) ∧ ∀ p ∈ insA n es Ts, p.2 ≤ n
  | [], _, h, t => ⟨h, t⟩
  | T :: Ts, es, h, t => by
    obtain ⟨h1, t1⟩ := insE_up (T := T) h t
    exact insA_up (Ts := Ts) h1 t1
structure BI (f : FL) (g : Stg) (es : List Ent) (i : Nat) : Prop where
  nd : (keysE es).Nodup
  st : ∀ q ∈ es, goodF f q.1 = true ∧ q.1.flatten.Perm g.flatten
  go : (g, 0) ∈ es
  le : i ≤ es.length
  up : es.Pairwise fun p q => p.2 ≤ q.2
  top : ∀ q, es[i]? = some q → ∀ p ∈ es, p.2 ≤ q.2 + 1
  pos : ∀ q ∈ es, 0 ≤ q.2
  par : ∀ q ∈ es, q.1 ≠ g → ∃ T ∈ nbrs f q.1, ∃ n, (T, n) ∈ es ∧ n < q.2
  clo : ∀ (j : Nat) (q : Ent), j < i → es[j]? = some q → ∀ T ∈ nbrs f q.1, ∃ n, (T, n) ∈ es ∧ n ≤ q.2 + 1
theorem bi_start {f : FL} {g : Stg} (h : goodF f g = true) : BI f g [(g, 0)] 0 where
  nd := List.nodup_cons.mpr ⟨by simp, List.nodup_nil⟩
  st := fun q hq => by rw [List.mem_singleton.mp hq]; exact ⟨h, List.Perm.refl _⟩
  go := List.mem_singleton.mpr rfl
  le := Nat.zero_le _
  up := List.pairwise_singleton _ _
  top := fun q hq p hp => by
    rw [List.mem_singleton.mp hp]
    have : q = (g, 0) := (Option.some.inj hq).symm
    rw [this]
    show (0 : Int) ≤ 0 + 1
    decide
  pos := fun q hq => by rw [List.mem_singleton.mp hq]; show (0 : Int) ≤ 0; decide
  par := fun q hq ne => by rw [List.mem_singleton.mp hq] at ne; exact absurd rfl ne
  clo := fun j q hj => absurd hj (Nat.not_lt_zero j)
theorem nbr_back {f : FL} {S T : Stg} (h : T ∈ nbrs f S) (hg : goodF f S = true) : S ∈ nbrs f T ∧ goodF f T = true ∧ T.flatten.Perm S.flatten := by
  obtain ⟨l, hl, rfl⟩ := List.mem_map.mp h
  obtain ⟨a, b, c, d⟩ := back_in hl hg
  exact ⟨List.mem_map.mpr ⟨_, a, b⟩, c, d⟩
theorem key_ent {es : List Ent} {T : Stg} (h : T ∈ keysE es) : ∃ n, (T, n) ∈ es := by
  obtain ⟨q, hq, e⟩ := List.mem_map.mp h
  exact ⟨q.2, by rw [← e]; exact hq⟩
theorem bi_step {f : FL} {g : Stg} {es : List Ent} {i : Nat} {q : Ent} (b : BI f g es i) (hq : es[i]? = some q) : BI f g (insA (q.2 + 1) es (nbrs f q.1)) (i + 1) := by
  have hm : q ∈ es := List.mem_of_getElem? hq
  have hi : i < es.length := (List.getElem?_eq_some_iff.mp hq).1
  obtain ⟨hgq, hpq⟩ := b.st q hm
  have tp := b.top q hq
  obtain ⟨u1, u2⟩ := insA_up (n := q.2 + 1) (Ts := nbrs f q.1) b.up tp
  obtain ⟨more, em⟩ := insA_pre (q.2 + 1) (nbrs f q.1) es
  have old : ∀ {p : Ent}, p ∈ es → p ∈ insA (q.2 + 1) es (nbrs f q.1) := fun {p} hp => by rw [em]; exact List.mem_append_left _ hp
  have oldAt : ∀ {j : Nat}, j < es.length → (insA (q.2 + 1) es (nbrs f q.1))[j]? = es[j]? := fun {j} hj => by rw [em, List.getElem?_append_left hj]
  have hle : i + 1 ≤ (insA (q.2 + 1) es (nbrs f q.1)).length := by rw [em, List.length_append]; omega
  refine ⟨insA_nd b.nd, fun p hp => ?_, old b.go, hle, u1, fun r hr p hp => ?_, fun p hp => ?_, fun p hp ne => ?_, fun j p hj hp T hT => ?_⟩
  · rcases insA_mem hp with h | ⟨h, _⟩
    · exact b.st p h
    · obtain ⟨_, c, d⟩ := nbr_back h hgq
      exact ⟨c, d.trans hpq⟩
  · have h1 := u2 p hp
    have h2 : q.2 ≤ r.2 := by
      have l1 : i + 1 < (insA (q.2 + 1) es (nbrs f q.1)).length := (List.getElem?_eq_some_iff.mp hr).1
      have := List.pairwise_iff_getElem.mp u1 i (i + 1) (by omega) l1 (by omega)
      have e1 : (insA (q.2 + 1) es (nbrs f q.1))[i]'(by omega) = q := Option.some.inj (by rw [← List.getElem?_eq_getElem, oldAt hi, hq])
      have e2 := (List.getElem?_eq_some_iff.mp hr).2
      rw [e1, e2] at this
      exact this
    omega
  · rcases insA_mem hp with h | ⟨_, h⟩
    · exact b.pos p h
    · have := b.pos q hm
      omega
  · rcases insA_mem hp with h | ⟨h, hn⟩
    · obtain ⟨T, hT, n, hn, hlt⟩ := b.par p h ne
      exact ⟨T, hT, n, old hn, hlt⟩
    · obtain ⟨a, _, _⟩ := nbr_back h hgq
      exact ⟨q.1, a, q.2, old hm, by omega⟩
  · by_cases hj' : j < i
    · rw [oldAt (by omega)] at hp
      obtain ⟨n, hn, hle⟩ := b.clo j p hj' hp T hT
      exact ⟨n, old hn, hle⟩
    · have : j = i := by omega
      subst this
      rw [oldAt hi, hq] at hp
      have ep : q = p := Option.some.inj hp
      subst ep
      obtain ⟨n, hn⟩ := key_ent (insA_in (n := q.2 + 1) (es := es) hT)
      exact ⟨n, hn, u2 _ hn⟩
/-- few crates, few stacks -/
structure Few (f : FL) (g : Stg) : Prop where
  gd : goodF f g = true
  fl : 2 ≤ f.1 ∧ f.1 ≤ 4
  li : 1 ≤ f.2.2.1 ∧ f.2.2.1 ≤ 3
  cr : g.flatten.length ≤ 4
theorem bi_len {f : FL} {g : Stg} {es : List Ent} {i : Nat} (b : BI f g es i) (w : Few f g) : es.length ≤ bfsN := by
  have := count_st (l := keysE es) (g := g) b.nd (fun S hS => by
    obtain ⟨n, hn⟩ := key_ent hS
    obtain ⟨h1, h2⟩ := b.st _ hn
    have e1 : (S.length : Int) = f.1 := good_len h1
    have e2 := good_len w.gd
    exact ⟨h2, by omega⟩) w.cr (by have := good_len w.gd; have := w.fl; omega)
  rwa [List.length_map] at this
theorem bfsGo_end {f : FL} : ∀ {m : Nat} {es : List Ent} {i : Nat}, es.length ≤ i → bfsGo f m es i = es
  | 0, _, _, _ => rfl
  | m + 1, es, i, h => by rw [bfsGo, List.getElem?_eq_none h]
theorem bfsGo_on {f : FL} {m : Nat} {es : List Ent} {i : Nat} {q : Ent} (h : es[i]? = some q) : bfsGo f (m + 1) es i = bfsGo f m (insA (q.2 + 1) es (nbrs f q.1)) (i + 1) := by rw [bfsGo, h]
theorem bfsGo_bi {f : FL} {g : Stg} (w : Few f g) : ∀ (m : Nat) (es : List Ent) (i : Nat), BI f g es i → m + i = bfsN → BI f g (bfsGo f m es i) (bfsGo f m es i).length
  | 0, es, i, b, e => by
    have := bi_len b w
    have l := b.le
    have : i = es.length := by omega
    subst this
    exact b
  | m + 1, es, i, b, e => by
    by_cases h : es.length ≤ i
    · rw [bfsGo_end h]
      have := b.le
      have : i = es.length := by omega
      subst this
      exact b
    · have hq : es[i]? = some es[i] := List.getElem?_eq_getElem (by omega)
      rw [bfsGo_on hq]
      exact bfsGo_bi w m _ _ (bi_step b hq) (by omega)
theorem bfs_bi {f : FL} {g : Stg} (w : Few f g) : BI f g (bfs f g) (bfs f g).length := bfsGo_bi w _ _ _ (bi_start w.gd) rfl
/-! ### the standings' order -/
def leS (S T : Stg) : Bool := PySem.W.dataLe false (fun d : PyData => d) (stD S) (stD T)
def srtS (l : List Stg) : List Stg := l.mergeSort leS
theorem srtD_st (l : List Stg) : srtD (l.map stD) = (srtS l).map stD := (List.map_mergeSort (f := stD) (r := leS) (s := PySem.W.dataLe false fun d : PyData => d) fun _ _ _ _ => rfl).symm
theorem srtS_perm (l : List Stg) : (srtS l).Perm l := List.mergeSort_perm l leS
/-! ### heights, plans -/
def hgt (f : FL) (g S : Stg) : Int := (valK (bfs f g) S).getD 0
section
variable {f : FL} {g S T : Stg} (w : Few f g)
include w
theorem hgt_at {n : Int} (h : (S, n) ∈ bfs f g) : hgt f g S = n := by
  unfold hgt
  rw [valK_mem (bfs_bi w).nd h]
  rfl
theorem hgt_in (h : S ∈ keysE (bfs f g)) : (S, hgt f g S) ∈ bfs f g := by
  obtain ⟨n, hn⟩ := key_ent h
  rw [hgt_at w hn]
  exact hn
theorem hgt_V (h : S ∈ keysE (bfs f g)) : valK (dicV (bfs f g)) S = some (.int (hgt f g S)) := valV_at (bfs_bi w).nd (hgt_in w h)
theorem go_in : g ∈ keysE (bfs f g) := List.mem_map.mpr ⟨_, (bfs_bi w).go, rfl⟩
theorem hgt_go : hgt f g g = 0 := hgt_at w (bfs_bi w).go
theorem hgt_pos (h : S ∈ keysE (bfs f g)) : 0 ≤ hgt f g S := (bfs_bi w).pos _ (hgt_in w h)
theorem key_good (h : S ∈ keysE (bfs f g)) : goodF f S = true ∧ S.flatten.Perm g.flatten := (bfs_bi w).st _ (hgt_in w h)
theorem nbr_up (h : S ∈ keysE (bfs f g)) (hT : T ∈ nbrs f S) : T ∈ keysE (bfs f g) ∧ hgt f g T ≤ hgt f g S + 1 := by
  have hm := hgt_in w h
  obtain ⟨j, hj, e⟩ := List.mem_iff_getElem.mp hm
  obtain ⟨n, hn, hle⟩ := (bfs_bi w).clo j _ hj (by rw [List.getElem?_eq_getElem hj, e]) T hT
  refine ⟨List.mem_map.mpr ⟨_, hn, rfl⟩, ?_⟩
  rw [hgt_at w hn]
  exact hle
theorem nbr_in (h : S ∈ keysE (bfs f g)) (hT : T ∈ nbrs f S) : T ∈ keysE (bfs f g) ∧ hgt f g T ≤ hgt f g S + 1 ∧ hgt f g S ≤ hgt f g T + 1 := by
  obtain ⟨a, b⟩ := nbr_up w h hT
  obtain ⟨c, _, _⟩ := nbr_back hT (key_good w h).1
  exact ⟨a, b, (nbr_up w a c).2⟩
theorem low_nbr (h : S ∈ keysE (bfs f g)) (ne : S ≠ g) : ∃ l ∈ liftsOf f S, hgt f g (behindL S l) < hgt f g S := by
  obtain ⟨T, hT, n, hn, hlt⟩ := (bfs_bi w).par _ (hgt_in w h) ne
  obtain ⟨l, hl, rfl⟩ := List.mem_map.mp hT
  exact ⟨l, hl, by rw [hgt_at w hn]; exact hlt⟩
end
def lows (f : FL) (g S : Stg) : List LF := (liftsOf f S).filter fun l => decide (hgt f g (behindL S l) < hgt f g S)
def planGo (f : FL) (g : Stg) : Nat → Stg → List LF
  | 0, _ => []
  | m + 1, S => match (lows f g S).head? with
    | none => []
    | some l => l :: planGo f g m (behindL S l)
def planL (f : FL) (g S : Stg) : List LF := planGo f g (hgt f g S).toNat S
theorem lows_head {f : FL} {g S : Stg} (w : Few f g) (h : S ∈ keysE (bfs f g)) (ne : S ≠ g) : ∃ l, (lows f g S).head? = some l ∧ l ∈ liftsOf f S ∧ behindL S l ∈ keysE (bfs f g) ∧ hgt f g (behindL S l) = hgt f g S - 1 := by
  obtain ⟨l0, hl0, lt0⟩ := low_nbr w h ne
  have hm : l0 ∈ lows f g S := List.mem_filter.mpr ⟨hl0, decide_eq_true lt0⟩
  cases e : lows f g S with
  | nil => rw [e] at hm; cases hm
  | cons l r =>
    have hl : l ∈ lows f g S := by rw [e]; exact List.mem_cons_self
    obtain ⟨h1, h2⟩ := List.mem_filter.mp hl
    have h2 := of_decide_eq_true h2
    obtain ⟨a, b, c⟩ := nbr_in w h (List.mem_map.mpr ⟨l, h1, rfl⟩ : behindL S l ∈ nbrs f S)
    exact ⟨l, rfl, h1, a, by omega⟩
theorem planGo_on {f : FL} {g S : Stg} {m : Nat} {l : LF} (h : (lows f g S).head? = some l) : planGo f g (m + 1) S = l :: planGo f g m (behindL S l) := by rw [planGo, h]
end G

namespace G
open PySem L2 PySem.W PyProof.Rows
/-! ### the standings' order, by itself -/
theorem toks_eq {x y : PyData} (h : alike x y = true) (e : keyToks x = keyToks y) : PyData.eqv x y = true := by
  cases q : PyData.eqv x y with
  | true => rfl
  | false =>
    exfalso
    have h2 := (toks_eqv x y h).2 q [] [.inl 0]
    rw [e, List.append_nil, lex_irrefl] at h2
    have h3 := lex_pre (keyToks y) [] [.inl 0]
    rw [List.append_nil, h2] at h3
    cases h3
theorem lt_total {S T : Stg} (h1 : dataLt (stD S) (stD T) = false) (h2 : dataLt (stD T) (stD S) = false) : S = T := by
  have e := toks_eq (alike_st S T) (lex_total _ _ h1 h2)
  have e2 : PyData.eqv (dSt S) (dSt T) = true := e
  rw [eqv_st] at e2
  exact of_decide_eq_true e2
theorem leS_eq (S T : Stg) : leS S T = !dataLt (stD T) (stD S) := rfl
theorem leS_tot : TotalLe leS := sortLe_total (listOrd itemOrd) false fun S : Stg => keyToks (stD S)
theorem srtS_up (l : List Stg) : (srtS l).Pairwise fun a b => leS a b = true := sort_pairwise leS_tot l
theorem leS_anti {S T : Stg} (h1 : leS S T = true) (h2 : leS T S = true) : S = T := by
  rw [leS_eq] at h1 h2
  exact lt_total (by simpa using h2) (by simpa using h1)
/-- sorted, each once: strictly upwards -/
theorem srtS_strict {l : List Stg} (h : l.Nodup) : (srtS l).Pairwise fun a b => dataLt (stD a) (stD b) = true := by
  have nd : (srtS l).Nodup := (srtS_perm l).nodup_iff.mpr h
  refine (List.pairwise_and_iff.mpr ⟨srtS_up l, nd⟩).imp fun {a b} ⟨h1, h2⟩ => ?_
  cases e : dataLt (stD a) (stD b) with
  | true => rfl
  | false =>
    rw [leS_eq] at h1
    exact absurd (lt_total e (by simpa using h1)) h2
/-- two rows in order of the same standings are the same -/
theorem up_one : ∀ {l m : List Stg}, l.Perm m → l.Pairwise (fun a b => leS a b = true) → m.Pairwise (fun a b => leS a b = true) → l = m
  | [], m, p, _, _ => by
    have := p.length_eq
    cases m with
    | nil => rfl
    | cons _ _ => simp at this
  | a :: l, [], p, _, _ => by have := p.length_eq; simp at this
  | a :: l, b :: m, p, h1, h2 => by
    obtain ⟨a1, a2⟩ := List.pairwise_cons.mp h1
    obtain ⟨b1, b2⟩ := List.pairwise_cons.mp h2
    have hab : a = b := by
      have ha : a ∈ b :: m := p.mem_iff.mp List.mem_cons_self
      have hb : b ∈ a :: l := p.mem_iff.mpr List.mem_cons_self
      rcases List.mem_cons.mp ha with e | ha
      · exact e
      · rcases List.mem_cons.mp hb with e | hb
        · exact e.symm
        · exact leS_anti (a1 b hb) (b1 a ha)
    subst hab
    rw [up_one (List.Perm.cons_inv p) a2 b2]
theorem srtS_one {l m : List Stg} (p : l.Perm m) : srtS l = srtS m := up_one (((srtS_perm l).trans p).trans (srtS_perm m).symm) (srtS_up l) (srtS_up m)
theorem srtS_id {l : List Stg} (h : l.Pairwise fun a b => leS a b = true) : srtS l = l := up_one (srtS_perm l) (srtS_up l) h
/-! ### a >= b -/
def rGeD (K : PySem.W.Frag) : R2 := fun x y H Q => ∃ dx dy, Dp K H x dx ∧ Dp K H y dy ∧ alike dx dy = true ∧ dx ≠ .none ∧ dx.depth ≤ 8 ∧ Q (.bl (!dataLt dx dy)) H
theorem op_geD {X : Cx} (hu : X.A.units + 64 < cLine) : OpR X (compareOp .GtE) (rGeD X.K) := by
  rintro pins s σ H x y v u Q I rx ry ⟨dx, dy, h1, h2, al, ne, dp, q⟩
  obtain ⟨as, r1⟩ := Dp.reads I dx x v h1 rx
  obtain ⟨bs, r2⟩ := Dp.reads I dy y u h2 ry
  exact ge_data r1 r2 al ne (by omega) ⟨.bl _, H, I, rfl, q⟩
theorem ob_geS {K : PySem.W.Frag} {C : Addr} (S T : Stg) : OpB K C (rGeD K) (dSt S) (dSt T) (!dataLt (stD S) (stD T)) := fun H v w r1 r2 Q q =>
  ⟨stD S, stD T, r1.dp (pl_st S).lay.1, r2.dp (pl_st T).lay.1, alike_st S T, (fun e => by cases e), Nat.le_trans (pl_st S).lay.2 (by decide), q⟩
/-! ### a dict known for good, walked -/
def Itf (w : World) (d : Addr) (ep : Nat) (es : List (Stg × Addr × V)) : It :=
  ⟨fun n H => H d = some (dicO w d ep es) ∧ n < es.length, fun n H x H' => H' = H ∧ ∃ e, es[n]? = some e ∧ x = .ref e.2.1, fun n H => H d = some (dicO w d ep es) ∧ es.length ≤ n⟩
section
variable {P : Program} {w : World} {K : PySem.W.Frag}
theorem dic_row {X : Cx} {pins : List (Addr × Obj)} {σ : St} {H : Hp} {s : Shared} {d : Addr} {ep : Nat} {es : List (Stg × Addr × V)} (I : Inv X pins σ H s) (h : H d = some (dicO X.w d ep es)) :
    (d == sysModules) = false ∧ ∃ (o : Obj) (arr : Array DictEntry), s.heap.get? d = some o ∧ o.ExactDict ∧ o.data = .dict arr ep ∧ arr.size = es.length ∧ ∀ (n : Nat) (e : Stg × Addr × V), es[n]? = some e → ∃ en, arr[n]? = some en ∧ en.key = .ref e.2.1 := by
  obtain ⟨⟨lo, _, kx, o, arr, pr, ho, hx, hdat, he, _⟩, _⟩ := I.hok d _ h
  refine ⟨lo, o, arr, ho, hx, hdat, ?_, fun n e hn => ?_⟩
  · rw [← Array.length_toList, he, List.length_map]; exact (Paired.length pr).symm
  · obtain ⟨x, hx1, hx2⟩ := paired_at pr hn
    refine ⟨dEnt X.w x, ?_, ?_⟩
    · rw [← Array.getElem?_toList, he, List.getElem?_map, hx1]; rfl
    · show Value.ref x.2.1 = _
      rw [hx2.2.1]
theorem turn_dic {tg : Expr} {ep : Nat} {es : List (Stg × Addr × V)} (d t : Addr) : Turn P w K tg (Itf w d ep es) [t] t (fun n g => g.IsKeyIter t d n es.length ep) where
  mem := List.mem_singleton.mpr rfl
  obj := fun n g z c hc => by
    obtain rfl := List.mem_singleton.mp hc
    obtain ⟨u, e1, _, e3⟩ := z
    refine ⟨u, e1, fun v y => ?_⟩
    rw [e3] at y
    cases y
  keep := fun n g g' z k => z.at fun u e => k t (List.mem_singleton.mpr rfl) u e
  item := by
    rintro X rfl rfl rfl hc n pins s σ H E I hf z ⟨hd, hn⟩
    obtain ⟨f0, f1, f2, f3, f4, f5⟩ := hf t (List.mem_singleton.mpr rfl)
    obtain ⟨lo, o, arr, ho, _, hdat, hsz, row⟩ := dic_row I hd
    obtain ⟨en, hen, hkey⟩ := row n es[n] (List.getElem?_eq_getElem hn)
    refine next_key_item z ho hdat hsz hen fun g z' sb => ?_
    obtain ⟨u, e1, e2, e3⟩ := id z'
    refine ⟨en.key, rfl, go_of (s := { s with heap := g }) e1 e2 e3 (by decide) ⟨.ref es[n].2.1, H, I.turned (t' := s.toks) (fun b q hb e => (sb.2 b hb).trans e) f0 f1 f3 f4 f5, hkey, ⟨rfl, es[n], List.getElem?_eq_getElem hn, rfl⟩, z', fun c hc => (hf c hc).1⟩⟩
  done := by
    rintro X rfl rfl rfl hc n pins s σ H E I hf z ⟨hd, hn⟩
    obtain ⟨f0, f1, f2, f3, f4, f5⟩ := hf t (List.mem_singleton.mpr rfl)
    obtain ⟨lo, o, arr, ho, _, hdat, hsz, row⟩ := dic_row I hd
    exact next_key_end (I.ok.hd hc) z ho hdat hsz hn fun g eb => ⟨rfl, I.turned (t' := s.toks) (fun b q hb e => eb b q hb e) f0 f1 f3 f4 f5⟩
  self := fun A n s Q E z h => wpAny_pyIter_keyiter z h
end
def iDic (X : Cx) (td : TE) : TI := fun σ H R => td σ H fun x H1 => ∃ d ep es, x = .ref d ∧ H1 d = some (dicO X.w d ep es) ∧ R (Itf X.w d ep es) H1
theorem pi_dic {X : Cx} {tg e : Expr} {td : TE} (he : PE X e td) : PI X tg e (iDic X td) := by
  refine ⟨fun pins s σ H R I h => thn (he.run pins s σ H _ I h) fun u s1 ⟨x, H1, I1, rx, d, ep, es, ex, hd, q⟩ => ?_⟩
  subst ex
  obtain rfl : u = Value.ref d := rx
  obtain ⟨lo, o, arr, ho, hx, hdat, hsz, _⟩ := dic_row I1 hd
  refine iter_keys lo ho hx hdat ?_
  rw [hsz]
  exact pi_one (tk := s1.toks) I1 _ (turn_dic d _) ⟨_, Heap.get?_push_size _ rfl, rfl, rfl⟩ q
theorem for_dic {w : World} {d : Addr} {ep : Nat} {es : List (Stg × Addr × V)} {g : TG} {tb : TS} {D : Ends} {σ : St} {H : Hp} (Pv : Nat → St → Hp → Prop) (h0 : Pv 0 σ H) (hl : ∀ n σ H, Pv n σ H → H d = some (dicO w d ep es))
    (hs : ∀ n e σ H, es[n]? = some e → Pv n σ H → g (.ref e.2.1) σ H fun σ2 H2 => tb { D with nx := Pv (n + 1), ct := Pv (n + 1), bk := D.nx } σ2 H2) (hd : ∀ σ H, Pv es.length σ H → D.nx σ H) :
    ∃ W : Nat → Nat → St → Hp → Prop, (∃ m, W 0 m σ H) ∧ ∀ n m σ H, W n m σ H →
      ((Itf w d ep es).stop n H ∧ D.nx σ H) ∨ ((Itf w d ep es).go n H ∧ ∃ N : St → Hp → Prop, (∀ σ' H', N σ' H' → ∃ m', m' < m ∧ W (n + 1) m' σ' H') ∧ ∀ x H', (Itf w d ep es).yld n H x H' → g x σ H' fun σ2 H2 => tb { D with nx := N, ct := N, bk := D.nx } σ2 H2) := by
  refine ⟨fun n m σ H => m + n = es.length ∧ Pv n σ H, ⟨es.length, rfl, h0⟩, ?_⟩
  rintro n m σ H ⟨hm, p⟩
  have at_ := hl n σ H p
  by_cases hn : n < es.length
  · refine .inr ⟨⟨at_, hn⟩, Pv (n + 1), fun σ' H' p' => ⟨m - 1, by omega, by omega, p'⟩, ?_⟩
    rintro x H' ⟨rfl, e, he, rfl⟩
    exact hs n e σ _ he p
  · have : n = es.length := by omega
    subst this
    exact .inl ⟨⟨at_, Nat.le_refl _⟩, hd σ H p⟩
section
variable {X : Cx} {B : Bs} {ss : List SD} {e a b c : Expr} {es : List Expr} {pos p p2 p3 p4 : Pos} {d x y z : PyData} {ds ds' : List PyData} {rest body orelse : List Stmt} {D : Ends} {kvs : List (Stg × V)} {S : Stg}
/-- for k in d, d known for good -/
theorem go_forFro (i j : Nat) {x y : Str} (J : Nat → List SD → Prop) (cx : Cxt X) (hs : ss[i]? = some (.fro (frP X.K B.C X.w kvs))) (h0 : J 0 ss)
    (hb : ∀ (Fp : Hp) (n : Nat) (u : Stg × V) (ss' : List SD), kvs[n]? = some u → J n ss' → Go X (B.pinned Fp) body (ss'.set j (.dat (stD u.1))) (lpE X (B.pinned Fp) (J (n + 1)) rest D))
    (hd : ∀ ss', J kvs.length ss' → Go X B rest ss' D)
    (hN : X.N[i]? = some y := by rfl) (hv : Vis X.env.scope y := by first | exact Or.inl rfl | exact Or.inr (Or.inl rfl) | exact Or.inr (Or.inr rfl)) (hdb : (y == ("__debug__" : Str)) = false := by decide) (hcd : (y == ("__classdict__" : Str)) = false := by decide)
    (hps : ∀ wi, PI X (.Name x p) (.Name y p2) wi → PS X (.For (.Name x p) (.Name y p2) body [] pos) (tFor wi (gName j) (tSS X body)) := by intro _ hw; exact ps_for (Cxt.pass (by assumption)) (Cxt.calm (by assumption)) hw (pg_name (Cxt.nd (by assumption)) (by rfl) (by first | exact Or.inl rfl | exact Or.inr rfl)) pss_sem) :
    Go X B (.For (.Name x p) (.Name y p2) body [] pos :: rest) ss D :=
  go_step (hps _ (pi_dic (pe_var hN hv hdb hcd))) fun σ F H s => by
    obtain ⟨v, ev, hP⟩ := s.slot i _ hs
    obtain ⟨q, rfl, ep, es, hq, hes, hk⟩ := hP F (Same.refl _)
    refine ⟨_, ev, q, ep, es, rfl, s.fh _ _ hq, for_dic (fun n => Mid X (B.pinned F) (J n)) ⟨F, ss, h0, s.pinned⟩ (fun n σ' H' ⟨F', ss', j', s'⟩ => s'.fh _ _ (s'.pin _ _ hq)) (fun n e σ' H' he ⟨F', ss', j', s'⟩ => ?_) fun σ' H' ⟨F', ss', j', s'⟩ => hd ss' (by rw [← hes, List.length_map]; exact j') σ' F' H' (s'.unpin s.pin)⟩
    exact hb F n (e.1, e.2.2) ss' (by rw [← hes, List.getElem?_map, he]; rfl) j' _ F' H' (s'.set_dat ((hk e (List.mem_of_getElem? he)).mono s'.pin))
/-- len(d) -/
theorem cr_lenDic : CallR X (.builtin "len") (fun xs H Q => ∃ d ep es, xs = [.ref d] ∧ H d = some (dicO X.w d ep es) ∧ Q (.int es.length) H) := by
  rintro pins s σ H xs us Q I r ⟨q, ep, es, rfl, hq, k⟩
  rw [Vals.ref1 r]
  obtain ⟨⟨lo, hz, _⟩, _⟩ := I.hok q _ hq
  obtain ⟨_, o, arr, ho, hx, hdat, hsz, _⟩ := dic_row I hq
  have big := sizeLine_eq
  refine call_len_slot (n := (es.length : Int)) ⟨o, ho, hx.1⟩ PySem.F.slot_dict_len (fun Q' hq' => call_len_raw (es := arr) (ep := ep) lo ⟨o, ho, hx, hdat⟩ (by rw [hsz]; exact hq')) (by omega) (by omega) ?_
  exact ⟨.int es.length, H, I.tok _, ⟨_, rfl⟩, k⟩
theorem pd_lenDic (ha : PDc X B e ss kvs) (hm : X.mg "len" = none) (hg : Gl X "len" := by rfl) (hn : NSt X e := by intro _; rfl) : PD X B (.Call (.Name "len" p) [e] [] pos) ss (.int kvs.length) := fun σ F H s Q q =>
  sem_of (pe_callB cr_lenDic hg hm PySem.boot_len (pa_cons pe_sem pa_nil (hn [])) (by decide) (by decide) (hn []) rfl) (ha σ F H s _ fun d F1 H1 g hD => by
    obtain ⟨ep, es, hd, hes, _⟩ := hD
    refine ⟨d, ep, es, rfl, hd, ?_⟩
    have e : es.length = kvs.length := by rw [← hes, List.length_map]
    rw [e]
    exact q _ F1 H1 g (.int _))
/-- d.get(k, x) -/
def tDicGet (X : Cx) (C : Addr) (td tk tx : TE) : TE := fun σ H Q => td σ H fun x H1 => ∃ d ep es, x = .ref d ∧ H1 d = some (dicO X.w d ep es) ∧ tk σ H1 fun y H2 => tx σ H2 fun z H3 => ∃ S, H3 d = some (dicO X.w d ep es) ∧ (∀ e ∈ es, Rp X.K C H3 (.ref e.2.1) (stD e.1)) ∧ Rp X.K C H3 y (stD S) ∧ Q ((valK (esK es) S).getD z) H3
theorem pe_dicGet {C : Addr} {o k f : Expr} {apos cpos : Pos} {td tk tx : TE} (hu : X.A.units + 64 < cLine) (ho : PE X o td) (hk : PE X k tk) (hf : PE X f tx) (m : M2 X o "get" apos k f cpos) : PE X (.Call (.Attribute o "get" apos) [k, f] [] cpos) (tDicGet X C td tk tx) := by
  refine ⟨fun pins s σ H Q I h => wpAny_Call_method m.base m.few m.line PySem.F.plainAttrs_dict PySem.F.slot_dict_get PySem.F.type_dict_get (thn (ho.run pins s σ H _ I h) fun u s1 ⟨x, H1, I1, rx, q, ep, es, ex, hq, h1⟩ => ?_)⟩
  subst ex
  obtain rfl : u = Value.ref q := rx
  obtain ⟨lo, o', arr, ho', hx, hdat, hsz, _⟩ := dic_row I1 hq
  refine ⟨⟨o', ho', hx.1⟩, fun b eb => ⟨o', by cases eb; exact ho', hx.2.1⟩, ?_⟩
  rw [m.trees]
  refine Calls.callWith_builtin rfl (Calls.evalArgs_plain (Calls.spliced_cons (thn (hk.run pins s1 σ H1 _ I1 h1) fun kv s2 ⟨y, H2, I2, ry, h2⟩ => Calls.spliced_cons (thn (hf.run pins s2 σ H2 _ I2 h2) fun fv s3 ⟨z, H3, I3, rz, S, hq3, hk3, hS, h3⟩ => Calls.spliced_nil ?_))))
  obtain ⟨t, rfl, rfl, ka⟩ := key_is I3 hS ry
  obtain ⟨_, _, xs, pr, hm⟩ := dic_at I3 hq3 hk3
  refine getOr_keyed (knd := nestedKind X.prog X.w) (kvs := pairsH xs) (nroom hu) ka lo ⟨xs, hm, rfl⟩ ?_
  have e := (ent_val pr S).getD rz
  rw [← valueAt_pairsH] at e
  exact ⟨_, H3, I3.tok _, e, h3⟩
theorem pd_getOr {n m : Int} (hu : X.A.units + 64 < cLine) (hb : PDc X B a ss kvs) (ha : PD X B b ss (stD S)) (hc : PD X B c ss (.int m)) (hv : (valK kvs S).getD (.int m) = .int n) (mm : M2 X a "get" p b c pos) : PD X B (.Call (.Attribute a "get" p) [b, c] [] pos) ss (.int n) := fun σ F H s Q q =>
  sem_of (pe_dicGet (C := B.C) hu pe_sem pe_sem pe_sem mm) (hb σ F H s _ fun d F1 H1 g1 hD => by
    obtain ⟨ep, es, hd, hes, hk⟩ := id hD
    refine ⟨d, ep, es, rfl, hd, ha σ F1 H1 (s.grow g1) _ fun v F2 H2 g2 r2 => hc σ F2 H2 (s.grow (g1.trans g2)) _ fun z F3 H3 g3 r3 => ?_⟩
    cases r3
    have g23 := g2.trans g3
    refine ⟨S, g23.hh _ _ hd, fun e he => ((hk e he).mono g23.ff).mono g23.fh, (r2.mono g3.ff).mono g3.fh, ?_⟩
    have he : esK es = kvs := hes
    rw [he, hv]
    exact q _ F3 H3 (g1.trans g23) (.int n))
end
end G

namespace G
open PySem PySem.Spec PyProof.Rows L2
/-! ### set(xs), whatever the items: J i tells what the set has behind i of them -/
section
variable {P : Program} {w : World} {A : Around} {E : Value → Shared → Prop} {s : Shared}
abbrev Kept (h0 h : Heap) : Prop := ∀ b o, h0.get? b = some o → h.get? b = some o
/-- one item put in -/
abbrev AddStep (P : Program) (w : World) (A : Around) (E : Value → Shared → Prop) (S : Addr) (h0 : Heap) (Pv : Nat → Value → Prop) (J : Nat → Heap → Prop) : Prop :=
  ∀ (i : Nat) (v : Value) (s : Shared) (Q : Bool → Shared → Prop), Pv i v → Kept h0 s.heap → J i s.heap → (∀ b h' tk, s.toks ≤ tk → Heap.SameBut S s.heap h' → J (i + 1) h' → Q b { s with heap := h', toks := tk }) → wpAny (model P w) A (setAdd S v) Q E s
theorem setLoop {I : Addr} {fp wr : List Addr} {G : Array GenState → Array GenState → Prop} {n : Nat} {Pv : Nat → Value → Prop} {St : Nat → Shared → Prop} {R : Result → Shared → Prop} (Wk : WalksS P w A.in1 I fp wr G n Pv St) (S : Addr) (nS : S ∉ fp) (J : Nat → Heap → Prop) (h0 : Heap) (free : h0.get? S = none)
    (fw : ∀ b ∈ wr, h0.get? b = none) (kp : ∀ i h h', (∀ o, h.get? S = some o → h'.get? S = some o) → Kept h0 h' → J i h → J i h') (add : AddStep P w A.in1 (fun e s' => R (.error e) s') S h0 Pv J) :
    ∀ (k i : Nat) (s : Shared), n - i = k → i ≤ n → St i s → Kept h0 s.heap → J i s.heap → (∀ s', Moved (S :: wr) G s s' → J n s'.heap → Kept h0 s'.heap → R (.ok (.ret .none)) s') → codeAny (model P w) A (.builtin "set.update.loop" ⟨[.ref S, .ref I], []⟩) R s := by
  have nw : S ∉ wr := fun z => nS (Wk.sub _ z)
  have more : ∀ b ∈ wr, b ∈ S :: wr := fun b z => List.mem_cons_of_mem _ z
  have still : ∀ {s1 s2 : Shared}, Moved wr G s1 s2 → Kept h0 s1.heap → Kept h0 s2.heap := fun mv q b o e => mv.heap b o (fun z => by rw [fw b z] at e; cases e) (q b o e)
  intro k
  induction k with
  | zero =>
    intro i s hk hi st q j done
    obtain rfl : i = n := by omega
    refine codeAny_builtin F.entry_set_update_loop ?_
    rw [Around.under_plainId F.plain_set_update_loop _]
    show wpAny _ A.in1 (pyNext (.ref I) >>= _) _ _ s
    exact wpAny_bind (Wk.done s _ _ st fun s2 mv => wpAny_pure (done s2 (mv.mono more) (kp _ _ _ (fun o e => mv.heap S o nw e) (still mv q) j) (still mv q)))
  | succ k ih =>
    intro i s hk hi st q j done
    have lt : i < n := by omega
    refine codeAny_builtin F.entry_set_update_loop ?_
    rw [Around.under_plainId F.plain_set_update_loop _]
    show wpAny _ A.in1 (pyNext (.ref I) >>= _) _ _ s
    refine wpAny_bind (Wk.item i s _ _ lt st fun v s2 pv st2 mv => ?_)
    have q2 := still mv q
    have j2 := kp _ _ _ (fun o e => mv.heap S o nw e) q2 j
    show wpAny _ A.in1 (holding [v] (setAdd S v) >>= _) _ _ s2
    refine wpAny_bind (wpAny_holding (add i v s2 _ pv q2 j2 fun b h3 tk htk sb j3 => ?_))
    have q3 : Kept h0 h3 := fun c o e => (sb.2 c (fun z => by rw [z, free] at e; cases e)).trans (q2 c o e)
    refine wpAny_pure ⟨plainId_quiet F.plain_set_update_loop _, ih (i + 1) _ (by omega) lt (Wk.frame _ s2 _ _ st2 htk fun c hc o e => ?_) q3 j3 fun s4 mv4 j4 q4 => ?_⟩
    · rw [sb.2 c (fun z : c = S => nS (by rw [← z]; exact hc))]; exact e
    · refine done s4 (Moved.trans Wk.gtrans ((mv.mono more).then_heap htk fun c o hc e => ?_) mv4) j4 q4
      rw [sb.2 c (fun z : c = S => hc (by rw [z]; exact List.mem_cons_self))]; exact e
abbrev newSet (w : World) : Obj := { cls := .type "set", dict := none, data := .set #[] 0 (.fresh 0 0 (!w.params.followText "set-order")) }
set_option maxHeartbeats 3200000 in
theorem callSet {l : Addr} {items : Array Value} {Q : Value → Shared → Prop} (J : Nat → Heap → Prop) (hh : A.handled = none) (hl : s.heap.IsList l items) (kp : ∀ i h h', (∀ o, h.get? s.heap.objs.size = some o → h'.get? s.heap.objs.size = some o) → Kept s.heap h' → J i h → J i h')
    (start : ∀ h, h.get? s.heap.objs.size = some (newSet w) → Kept s.heap h → J 0 h)
    (add : ∀ E', AddStep P w A.in1.in1.in1 E' s.heap.objs.size s.heap (fun i v => items[i]? = some v) J)
    (fin : ∀ (h' : Heap) (tk : Nat), J items.size h' → Kept s.heap h' → Q (.ref s.heap.objs.size) { s with heap := h', toks := tk }) :
    wpAny (model P w) A (call (.type "set") [.ref l]) Q E s := by
  obtain ⟨c, tl, mro⟩ := F.called_set.mro
  have made := F.called_set.made
  have sub := F.called_set.sub
  refine wpAny_call (codeAny_of_tree (show wpAny _ _ (callAny (.type "set") _) _ _ _ from ?_))
  refine wpAny_pure ⟨Code.quiet_builtin _ (by decide +kernel), codeAny_builtin F.entry_type_call ?_⟩
  rw [Around.under_plain (weight_type_call_type "set" [.ref l] []) rfl]
  have k1 := F.called_set.notType
  have k2 := F.called_set.canCreate
  have kc := F.typeCall_set_1 (.ref l)
  repeat (any_goals (first | assumption | wp_step))

  refine codeAny_mono (code_set_led1 (.ref l) (E := E) (Q₁ := fun o s1 => o = .ref s.heap.objs.size ∧ s1 = { s with heap := s.heap.push (newSet w) }) ⟨rfl, rfl⟩) fun r s1 hr => ?_
  cases r with
  | error e => exact hr
  | ok fl =>
    cases fl with
    | ret ob =>
      obtain ⟨rfl, rfl⟩ := hr
      have at_ : (s.heap.push (newSet w)).get? s.heap.objs.size = some (newSet w) := Heap.get?_push_size _ rfl
      have ty : Shared.TypeIs { s with heap := s.heap.push (newSet w) } (.ref s.heap.objs.size) "set" := ⟨_, at_, rfl⟩
      have li := F.called_set.init.lookup
      have bi := F.called_set.init.bind (.ref s.heap.objs.size)
      repeat (any_goals (first | assumption | wp_step))

      refine codeAny_mono (codeAny_call_builtin (R := wants (fun r s2 => r = .none ∧ ∃ h' tk, s2 = { s with heap := h', toks := tk } ∧ J items.size h' ∧ Kept s.heap h') E) F.called_set.init.plain F.entry_set_init (check_set_init_1 ty ?_)) fun r2 s2 hr2 => ?_
      · obtain ⟨ol, hol, cl, nl, dl⟩ := hl
        obtain ⟨ocls, odict, odata, oslots⟩ := ol
        simp only at cl dl
        subst cl; subst dl
        have hol2 : (s.heap.push (newSet w)).get? l = some { cls := .type "list", dict := odict, data := .seq items nl, slots := oslots } := Heap.get?_push_of_some _ hol
        have sls := F.sub_list_set
        have slf := F.sub_list_frozenset
        have ne : (Value.type "list" == Value.type "dict") = false := by decide
        have hl2 : (s.heap.push (newSet w)).IsList l items := ⟨_, hol2, rfl, nl, rfl⟩
        unfold Builtin.«set.__init__» noKeywords Builtin.Frozenset.updateFrom
        generalize hPI : pyIter = PI
        wp_walk
        subst hPI
        refine wpAny_pyIter_list hl2 (wpAny_bind (wpAny_runValue ?_))
        have lS : l < s.heap.objs.size := Heap.lt_size hol
        have h3 : A.in1.in1.in1.handled = none := by simp [hh]
        have z1 : (s.heap.push (newSet w)).objs.size = s.heap.objs.size + 1 := Heap.size_push ..
        have neI : l ≠ (s.heap.push (newSet w)).objs.size := by rw [z1]; exact Nat.ne_of_lt (Nat.lt_succ_of_lt lS)
        have nS : s.heap.objs.size ∉ [(s.heap.push (newSet w)).objs.size, l] := by
          rw [z1]; simp only [List.mem_cons, List.mem_singleton, List.not_mem_nil, or_false, not_or]
          exact ⟨Nat.ne_of_lt (Nat.lt_succ_self _), Nat.ne_of_gt lS⟩
        have none_of : ∀ b, s.heap.objs.size ≤ b → s.heap.get? b = none := fun b hb => by
          cases e : s.heap.get? b with
          | none => rfl
          | some o => exact absurd (Nat.lt_of_lt_of_le (Heap.lt_size e) hb) (Nat.lt_irrefl _)
        have kept2 : ∀ x, Kept s.heap ((s.heap.push (newSet w)).push x) := fun x b o e => Heap.get?_push_of_some _ (Heap.get?_push_of_some _ e)
        refine setLoop ((Walks.list h3 _ l neI items).toS) s.heap.objs.size nS J s.heap (none_of _ (Nat.le_refl _)) (fun b hb => none_of b ?_) kp (add _) (items.size - 0) 0 _ (by omega) (Nat.zero_le _) ⟨⟨_, Heap.get?_push_size _ rfl, rfl, rfl⟩, (hl2.push _)⟩ (kept2 _) (start _ (Heap.get?_push_of_some _ at_) (kept2 _)) ?_
        · rw [List.mem_singleton.mp hb, z1]
          exact Nat.le_succ _
        · intro s' mv j q
          obtain ⟨h', g2, d', tk', os'⟩ := s'
          have eg : g2 = s.gens := mv.gens
          have ed : d' = s.drawn := mv.drawn
          have eo : os' = s.os := mv.os
          subst eg; subst ed; subst eo
          exact wpAny_pure (show wpAny _ _ (ret Value.none) _ _ _ from wpAny_pure ⟨rfl, h', tk', rfl, j, q⟩)
      · cases r2 with
        | error e => exact hr2
        | ok fl2 =>
          cases fl2 with
          | ret r =>
            obtain ⟨rfl, h', tk, rfl, j, q⟩ := hr2
            repeat (any_goals (first | assumption | wp_step))
            exact fin h' tk j q
          | _ => exact hr2.elim
    | _ => exact hr.elim
end
end G

namespace G
open PySem PySem.Spec PyProof.Rows L2
/-! ### i -> 5 i + 1 goes through all remainders of a power of two -/
def xN : Nat → Nat
  | 0 => 0
  | k + 1 => xN k * 5 + 1
theorem lcg_x (m : Nat) : ∀ k, lcgN m k = xN k % (m + 1)
  | 0 => (Nat.zero_mod _).symm
  | k + 1 => by
    show (lcgN m k * 5 + 1) % (m + 1) = (xN k * 5 + 1) % (m + 1)
    rw [lcg_x m k]
    simp [Nat.add_mod, Nat.mul_mod]
theorem xN_add (a : Nat) : ∀ d, xN (d + a) = 5 ^ d * xN a + xN d
  | 0 => by simp [xN]
  | d + 1 => by
    have e : d + 1 + a = (d + a) + 1 := by omega
    rw [e]
    show xN (d + a) * 5 + 1 = 5 ^ (d + 1) * xN a + (xN d * 5 + 1)
    rw [xN_add a d, Nat.pow_succ, Nat.add_mul, Nat.mul_right_comm]
    omega
theorem xN_par : ∀ k, xN k % 2 = k % 2
  | 0 => rfl
  | k + 1 => by
    have h := xN_par k
    show (xN k * 5 + 1) % 2 = (k + 1) % 2
    omega
theorem five_mod (e : Nat) : 5 ^ e % 4 = 1 := by
  induction e with
  | zero => rfl
  | succ e ih => rw [Nat.pow_succ]; omega
theorem odd_dvd {c : Nat} (hc : c % 2 = 1) : ∀ (n x : Nat), 2 ^ n ∣ c * x → 2 ^ n ∣ x
  | 0, x, _ => by simp
  | n + 1, x, h => by
    obtain ⟨z, hz⟩ := h
    obtain ⟨b, rfl⟩ : ∃ b, c = 2 * b + 1 := ⟨c / 2, by omega⟩
    have e1 : (2 * b + 1) * x = 2 * (b * x) + x := by rw [Nat.add_mul, Nat.one_mul, Nat.mul_assoc]
    have e2 : 2 ^ (n + 1) * z = 2 * (2 ^ n * z) := by rw [Nat.pow_succ, Nat.mul_comm (2 ^ n) 2, Nat.mul_assoc]
    rw [e1, e2] at hz
    obtain ⟨y, rfl⟩ : ∃ y, x = 2 * y := ⟨x / 2, by omega⟩
    have e3 : b * (2 * y) = 2 * (b * y) := by rw [Nat.mul_left_comm]
    have e4 : (2 * b + 1) * y = 2 * (b * y) + y := by rw [Nat.add_mul, Nat.one_mul, Nat.mul_assoc]
    have h2 : 2 ^ n ∣ (2 * b + 1) * y := ⟨z, by rw [e3] at hz; omega⟩
    obtain ⟨q, hq⟩ := odd_dvd hc n y h2
    exact ⟨q, by rw [Nat.pow_succ, Nat.mul_comm (2 ^ n) 2, Nat.mul_assoc, ← hq]⟩
theorem xN_dvd : ∀ (n d : Nat), 2 ^ n ∣ xN d → 2 ^ n ∣ d
  | 0, d, _ => by simp
  | n + 1, d, h => by
    obtain ⟨z, hz⟩ := h
    have e2 : 2 ^ (n + 1) * z = 2 * (2 ^ n * z) := by rw [Nat.pow_succ, Nat.mul_comm (2 ^ n) 2, Nat.mul_assoc]
    have hp := xN_par d
    obtain ⟨e, rfl⟩ : ∃ e, d = 2 * e := ⟨d / 2, by omega⟩
    have hx : xN (2 * e) = 5 ^ e * xN e + xN e := by
      have := xN_add e e
      rwa [← Nat.two_mul] at this
    have h4 := five_mod e
    obtain ⟨q, hq⟩ : ∃ q, 5 ^ e = 2 * (2 * q) + 1 := ⟨5 ^ e / 4, by omega⟩
    have e5 : 5 ^ e * xN e + xN e = 2 * ((2 * q + 1) * xN e) := by
      rw [hq, Nat.add_mul, Nat.add_mul, Nat.one_mul, Nat.mul_assoc]
      omega
    have h6 : 2 ^ n ∣ (2 * q + 1) * xN e := ⟨z, by rw [hx, e5, e2] at hz; omega⟩
    obtain ⟨p, hp2⟩ := xN_dvd n e (odd_dvd (by omega) n _ h6)
    exact ⟨p, by rw [Nat.pow_succ, Nat.mul_comm (2 ^ n) 2, Nat.mul_assoc, ← hp2]⟩
/-- a table's mask: one below a power of two -/
def Msk (m : Nat) : Prop := ∃ n, 3 ≤ n ∧ n ≤ 13 ∧ m + 1 = 2 ^ n
theorem pow_le13 {n : Nat} (h : n ≤ 13) : 2 ^ n ≤ 8192 := Nat.pow_le_pow_right (by decide) h
theorem pow_ge3 {n : Nat} (h : 3 ≤ n) : 8 ≤ 2 ^ n := Nat.pow_le_pow_right (n := 2) (by decide) h
theorem Msk.bd {m : Nat} (h : Msk m) : 7 ≤ m ∧ m ≤ 8191 ∧ m % 2 = 1 := by
  obtain ⟨n, h1, h2, e⟩ := h
  have a := pow_le13 h2
  have b := pow_ge3 h1
  obtain ⟨k, rfl⟩ : ∃ k, n = k + 1 := ⟨n - 1, by omega⟩
  rw [Nat.pow_succ] at e
  omega
theorem lcg_inj {m : Nat} (hm : Msk m) {a b : Nat} (hab : a < b) (hb : b - a ≤ m) : lcgN m a ≠ lcgN m b := fun e => by
  obtain ⟨n, h1, h2, em⟩ := hm
  rw [lcg_x, lcg_x, em] at e
  have hx : xN b = 5 ^ (b - a) * xN a + xN (b - a) := by
    have := xN_add a (b - a)
    rwa [Nat.sub_add_cancel (by omega)] at this
  have hx2 : xN b = 5 ^ a * xN (b - a) + xN a := by
    have := xN_add (b - a) a
    rwa [Nat.add_sub_cancel' (by omega)] at this
  have hd : 2 ^ n ∣ 5 ^ a * xN (b - a) := by
    have h3 := Nat.div_add_mod (xN b) (2 ^ n)
    have h4 := Nat.div_add_mod (xN a) (2 ^ n)
    have le : 2 ^ n * (xN a / 2 ^ n) ≤ 2 ^ n * (xN b / 2 ^ n) := by omega
    refine ⟨xN b / 2 ^ n - xN a / 2 ^ n, ?_⟩
    rw [Nat.mul_sub]
    omega
  have h5 := five_mod a
  obtain ⟨q, hq⟩ := xN_dvd n _ (odd_dvd (by omega) n _ hd)
  have : 0 < q := Nat.pos_of_ne_zero fun z => by rw [z] at hq; omega
  have : 2 ^ n * 1 ≤ 2 ^ n * q := Nat.mul_le_mul_left _ this
  omega
theorem onto {f : Nat → Nat} {m : Nat} (hf : ∀ k, k ≤ m → f k ≤ m) (hi : ∀ a b, a < b → b ≤ m → f a ≠ f b) {j : Nat} (hj : j ≤ m) : ∃ k, k ≤ m ∧ f k = j := by
  rcases Classical.em (∃ k, k ≤ m ∧ f k = j) with c | c
  · exact c
  · exfalso
    have nd : ((List.range (m + 1)).map f).Nodup := by
      refine List.pairwise_map.mpr (List.Pairwise.imp_of_mem (fun {a b} ha hb h => ?_) (List.pairwise_lt_range (n := m + 1)))
      exact hi a b h (Nat.le_of_lt_succ (List.mem_range.mp hb))
    have q := nat_nodup_len ((List.range (m + 1)).map f) ((List.range (m + 1)).erase j) nd fun x hx => by
      obtain ⟨k, hk, rfl⟩ := List.mem_map.mp hx
      have hk := Nat.le_of_lt_succ (List.mem_range.mp hk)
      exact (List.mem_erase_of_ne fun e => c ⟨k, hk, e⟩).mpr (List.mem_range.mpr (Nat.lt_succ_of_le (hf k hk)))
    rw [List.length_map, List.length_erase_of_mem (List.mem_range.mpr (Nat.lt_succ_of_le hj)), List.length_range] at q
    omega
theorem lcgN_le (m k : Nat) : lcgN m k ≤ m := by
  rw [lcg_x]
  exact Nat.le_of_lt_succ (Nat.mod_lt _ (Nat.succ_pos _))
theorem cyc {m : Nat} (hm : Msk m) {i j : Nat} (hi : i ≤ m) (hj : j ≤ m) : ∃ k, k ≤ m ∧ lcgI m i k = j := by
  obtain ⟨a, _, ea⟩ := onto (f := lcgN m) (fun k _ => lcgN_le m k) (fun a b h hb => lcg_inj hm h (by omega)) hi
  obtain ⟨k, hk, e⟩ := onto (f := fun k => lcgN m (a + k)) (fun k _ => lcgN_le m _) (fun x y h hb => lcg_inj hm (by omega) (by omega)) hj
  exact ⟨k, hk, by rw [← ea, lcgN_add]; exact e⟩
theorem run_all {m : Nat} (hm : Msk m) (h : Int) {j : Nat} (hj : j ≤ m) : ∃ n, n ≤ m + 12 ∧ runI m (SetTable.bits h) n = j := by
  obtain ⟨k, hk, e⟩ := cyc hm (runI_le m (SetTable.bits h) 12) hj
  exact ⟨12 + k, by omega, by rw [runI_tail (bits_lt h)]; exact e⟩
theorem way_all {m : Nat} (hm : Msk m) (h : Int) {j : Nat} (hj : j ≤ m) : ∃ k, k < 10 * SetTable.turns m ∧ way m h k = j := by
  obtain ⟨n, hn, e⟩ := run_all hm h hj
  obtain ⟨k, hk, e2⟩ := run_nth m (SetTable.bits h) n
  refine ⟨k, by unfold SetTable.turns; omega, ?_⟩
  show (nth m _ k).j = j
  rw [e2]
  exact e
theorem way_in (m : Nat) (h : Int) (k : Nat) : way m h k ≤ m := by
  have hi : SetTable.bits h % (m + 1) ≤ m := Nat.le_of_lt_succ (Nat.mod_lt _ (Nat.succ_pos _))
  have r := runEnd_bd hi
  have q := nth_in (m := m) k (runAt m (SetTable.bits h % (m + 1)) (SetTable.bits h)) (show SetTable.bits h % (m + 1) + (SetTable.runEnd m (SetTable.bits h % (m + 1)) - SetTable.bits h % (m + 1)) ≤ m by omega)
  exact Nat.le_trans (Nat.le_add_right _ _) q
/-! ### sizes -/
theorem go_is (w : Nat) : ∀ (f n : Nat), w < 2 ^ (n + f) → 3 ≤ n → ∃ k, n ≤ k ∧ k ≤ n + f ∧ SetTable.sizeAbove.go w f (2 ^ n) = 2 ^ k ∧ w < 2 ^ k
  | 0, n, h, _ => ⟨n, Nat.le_refl _, Nat.le_refl _, rfl, h⟩
  | f + 1, n, h, h3 => by
    by_cases c : 2 ^ n ≤ w
    · obtain ⟨k, a, b, e, l⟩ := go_is w f (n + 1) (by rw [show n + 1 + f = n + (f + 1) by omega]; exact h) (by omega)
      refine ⟨k, by omega, by omega, ?_, l⟩
      unfold SetTable.sizeAbove.go
      rw [if_pos c, ← Nat.pow_succ]
      exact e
    · refine ⟨n, Nat.le_refl _, by omega, ?_, by omega⟩
      unfold SetTable.sizeAbove.go
      rw [if_neg c]
theorem go_more (w f n : Nat) : ∀ g, w < 2 ^ (n + f) → SetTable.sizeAbove.go w (f + g) (2 ^ n) = SetTable.sizeAbove.go w f (2 ^ n) := by
  induction f generalizing n with
  | zero =>
    intro g h
    cases g with
    | zero => rfl
    | succ g =>
      show SetTable.sizeAbove.go w (0 + (g + 1)) (2 ^ n) = 2 ^ n
      rw [Nat.zero_add]
      unfold SetTable.sizeAbove.go
      rw [if_neg (by rw [Nat.add_zero] at h; omega)]
  | succ f ih =>
    intro g h
    rw [show f + 1 + g = (f + g) + 1 by omega]
    unfold SetTable.sizeAbove.go
    by_cases c : 2 ^ n ≤ w
    · rw [if_pos c, if_pos c, ← Nat.pow_succ]
      exact ih (n + 1) g (by rw [show n + 1 + f = n + (f + 1) by omega]; exact h)
    · rw [if_neg c, if_neg c]
theorem above_is {w : Nat} (h : w < 8192) : Msk (SetTable.sizeAbove w - 1) ∧ w < SetTable.sizeAbove w ∧ SetTable.sizeAbove w ≤ 8192 := by
  have h13 : w < 2 ^ (3 + 10) := h
  obtain ⟨k, a, b, e, l⟩ := go_is w 10 3 h13 (by decide)
  have e2 : SetTable.sizeAbove w = 2 ^ k := by
    unfold SetTable.sizeAbove
    rw [← e]
    exact go_more w 10 3 54 h13
  have p := pow_ge3 a
  have q := pow_le13 (n := k) (by omega)
  rw [e2]
  exact ⟨⟨k, a, by omega, by omega⟩, l, q⟩
end G

namespace G
open PySem PySem.Spec PyProof.Rows L2
/-! ### a set of standings: its table -/
abbrev shash (w : World) (S : Stg) : Int := (nk S).hash w
abbrev IsS (h : Heap) (S : Stg) (b : Addr) : Prop := NestedIs h (nk S) (.ref b)
theorem isS_keep {h h' : Heap} {S : Stg} {b : Addr} (x : IsS h S b) (k : Kept h h') : IsS h' S b := NestedIs.at (fun a o vs n e _ => k a o e) _ _ x
section
variable {P : Program} {w : World} {A : Around} {E : Value → Shared → Prop} {s : Shared}
/-! small questions -/
theorem acl_seq {n : Nat} {a : Addr} {o : Obj} {vs : Array Value} {m : Nat} {Q : Bool → Shared → Prop} (ho : s.heap.get? a = some o) (hc : o.cls = .type "tuple") (hd : o.data = .seq vs m)
    (it : ∀ v ∈ vs.toList, ∀ Q' : Bool → Shared → Prop, Q' false s → wpAny (model P w) A (ofAClassStatement n v) Q' E s) (h : Q false s) : wpAny (model P w) A (ofAClassStatement (n + 1) (.ref a)) Q E s := by
  unfold ofAClassStatement
  refine wpAny_bind (wpAny_typeOf (show s.TypeIs (.ref a) "tuple" from ⟨o, ho, hc⟩) ?_)
  dsimp only
  simp only [show (("tuple" : String) == "tuple") = true by decide, if_true, Bool.not_true, Bool.false_eq_true, if_false]
  try refine wpAny_bind (wpAny_pure ?_)
  try simp only [Bool.not_true, Bool.false_eq_true, if_false]
  refine show wpAny _ _ (seqItems? (.ref a) >>= _) _ _ s from wpAny_bind (wpAny_seqItems ho hd ?_)
  dsimp only
  refine wpAny_bind (show wpAny _ _ (forIn vs _ _) _ _ s from ?_)
  rw [← Array.forIn_toList]
  refine wpAny_forIn_list _ (fun l r t => r.1 = none ∧ t = s ∧ ∀ v ∈ l, v ∈ vs.toList) _ (fun v l r t z => ?_) (fun r t z => ?_) _ _ ⟨rfl, rfl, fun _ z => z⟩
  · obtain ⟨z1, rfl, z3⟩ := z
    refine wpAny_bind (it v (z3 v List.mem_cons_self) _ ?_)
    simp only [Bool.false_eq_true, if_false]
    exact wpAny_pure ⟨rfl, rfl, fun u hu => z3 u (List.mem_cons_of_mem _ hu)⟩
  · obtain ⟨r1, r2⟩ := r
    obtain ⟨z1, rfl, _⟩ := z
    simp only at z1
    subst z1
    exact wpAny_pure h
theorem byv_seq {n : Nat} {a : Addr} {o : Obj} {vs : Array Value} {m : Nat} {Q : Bool → Shared → Prop} (ho : s.heap.get? a = some o) (hc : o.cls = .type "tuple") (hd : o.data = .seq vs m)
    (it : ∀ v ∈ vs.toList, ∀ Q' : Bool → Shared → Prop, Q' true s → wpAny (model P w) A (hashByValue n v) Q' E s) (h : Q true s) : wpAny (model P w) A (hashByValue (n + 1) (.ref a)) Q E s := by
  unfold hashByValue
  refine wpAny_bind (wpAny_specialOf (show s.TypeIs (.ref a) "tuple" from ⟨o, ho, hc⟩) F.slot_tuple_hash.lookup ?_)
  refine show wpAny _ _ (seqItems? (.ref a) >>= _) _ _ s from wpAny_bind (wpAny_seqItems ho hd (wpAny_bind ?_))
  show wpAny _ _ (forIn vs _ _) _ _ s
  rw [← Array.forIn_toList]
  refine wpAny_forIn_list _ (fun l r t => r.1 = none ∧ t = s ∧ ∀ v ∈ l, v ∈ vs.toList) _ (fun v l r t z => ?_) (fun r t z => ?_) _ _ ⟨rfl, rfl, fun _ z => z⟩
  · obtain ⟨z1, rfl, z3⟩ := z
    refine wpAny_bind (it v (z3 v List.mem_cons_self) _ ?_)
    simp only [Bool.not_true, Bool.false_eq_true, if_false]
    exact wpAny_pure ⟨rfl, rfl, fun u hu => z3 u (List.mem_cons_of_mem _ hu)⟩
  · obtain ⟨r1, r2⟩ := r
    obtain ⟨z1, rfl, _⟩ := z
    simp only at z1
    subst z1
    exact wpAny_pure h
theorem nall_mem {h : Heap} : ∀ {α : Type} {f : α → NestedKey} {l : List α} {vs : List Value}, NestedAll h (l.map f) vs → ∀ v ∈ vs, ∃ x ∈ l, NestedIs h (f x) v
  | _, _, [], _, q, v, hv => by
    rw [List.map_nil] at q
    cases q
    cases hv
  | _, f, x :: l, _, q, v, hv => by
    rw [List.map_cons] at q
    cases q with
    | cons q1 q2 =>
      rcases List.mem_cons.mp hv with e | hv
      · rw [e]; exact ⟨x, List.mem_cons_self, q1⟩
      · obtain ⟨y, hy, r⟩ := nall_mem q2 v hv
        exact ⟨y, List.mem_cons_of_mem _ hy, r⟩
theorem acl_st {S : Stg} {b : Addr} {Q : Bool → Shared → Prop} (x : IsS s.heap S b) (h : Q false s) : wpAny (model P w) A (ofAClassStatement 8 (.ref b)) Q E s := by
  unfold IsS nk at x
  cases x with
  | tup ho hc hd hk =>
    refine acl_seq ho hc hd (fun v hv Q' q => ?_) h
    obtain ⟨r, _, hr⟩ := nall_mem hk v hv
    cases hr with
    | tup ho2 hc2 hd2 hk2 =>
      refine acl_seq ho2 hc2 hd2 (fun u hu Q2 q2 => ?_) q
      obtain ⟨i, _, hi⟩ := nall_mem hk2 u hu
      cases hi with
      | int _ t => exact wpAny_pure q2
      | bool e => exact wpAny_pure q2
theorem byv_st {S : Stg} {b : Addr} {Q : Bool → Shared → Prop} (x : IsS s.heap S b) (h : Q true s) : wpAny (model P w) A (hashByValue 8 (.ref b)) Q E s := by
  unfold IsS nk at x
  cases x with
  | tup ho hc hd hk =>
    refine byv_seq ho hc hd (fun v hv Q' q => ?_) h
    obtain ⟨r, _, hr⟩ := nall_mem hk v hv
    cases hr with
    | tup ho2 hc2 hd2 hk2 =>
      refine byv_seq ho2 hc2 hd2 (fun u hu Q2 q2 => ?_) q
      obtain ⟨i, _, hi⟩ := nall_mem hk2 u hu
      cases hi with
      | int _ t => exact wpAny_pure q2
      | bool e => exact wpAny_pure q2
theorem ka_of {h : Heap} {S : Stg} {b : Addr} (x : IsS h S b) : (nestedKind P w).is h (nk S) b := ⟨x, nk_depth S⟩
/-- a search among standings shows nothing -/
theorem seen_st {S : Stg} {b : Addr} {Q : Bool → Shared → Prop} (x : IsS s.heap S b) {ys : List Value} (hy : ∀ y ∈ ys, ∃ T c, y = Value.ref c ∧ IsS s.heap T c) (h : Q false s) : wpAny (model P w) A (searchCouldBeSeen (.ref b) ys) Q E s := by
  unfold searchCouldBeSeen
  refine wpAny_bind (wpAny_forIn_list _ (fun l r t => r.1 = none ∧ t = s ∧ ∀ y ∈ l, ∃ T c, y = Value.ref c ∧ IsS s.heap T c) _ (fun v l r t z => ?_) (fun r t z => ?_) _ _ ⟨rfl, rfl, hy⟩)
  · obtain ⟨z1, rfl, z3⟩ := z
    obtain ⟨T, c, rfl, xc⟩ := z3 v List.mem_cons_self
    have rest : ∀ y ∈ l, ∃ T c, y = Value.ref c ∧ IsS t.heap T c := fun u hu => z3 u (List.mem_cons_of_mem _ hu)
    dsimp only
    by_cases c1 : (b == c || (carriedByValue (.ref b) && carriedByValue (.ref c))) = true
    · exact wp_if_pos c1 (wpAny_pure ⟨rfl, rfl, rest⟩)
    · refine wp_if_neg c1 (wpAny_bind ((nestedKind P w).quiet (ka_of x) ?_))
      simp only [Bool.not_true, Bool.false_eq_true, if_false]
      refine wpAny_bind ((nestedKind P w).quiet (ka_of xc) ?_)
      simp only [Bool.not_true, Bool.false_eq_true, if_false]
      refine wpAny_bind (acl_st x ?_)
      simp only [Bool.false_eq_true, if_false]
      refine wpAny_bind (acl_st xc ?_)
      simp only [Bool.false_eq_true, if_false]
      exact wpAny_pure ⟨rfl, rfl, rest⟩
  · obtain ⟨r1, r2⟩ := r
    obtain ⟨z1, rfl, _⟩ := z
    simp only at z1
    subst z1
    exact wpAny_pure h
/-! the table -/
abbrev rowsS (w : World) (L : List (Addr × Stg)) : List (Int × Value) := L.map fun p => (shash w p.2, Value.ref p.1)
structure TabN (t : SetTable) (n : Nat) : Prop where
  ris : Ris t.place.toList
  dm : t.dummies = #[]
  sz : t.place.size = n
  msk : Msk t.mask
  bd : ∀ x ∈ t.place.toList, x ≤ t.mask
structure SetN (w : World) (h : Heap) (a : Addr) (L : List (Addr × Stg)) (es : Array (Int × Value)) (ep : Nat) (t : SetTable) : Prop where
  ob : ∃ o, h.get? a = some o ∧ o.ExactSet ∧ o.data = .set es ep t
  rows : es.toList = rowsS w L
  tab : TabN t L.length
  pl : t.plain = true
  led : w.params.followText "set-order" = true ∨ t.led = true
  room : L.length * 5 < t.mask * 3
variable {a : Addr} {L : List (Addr × Stg)} {es : Array (Int × Value)} {ep : Nat} {t : SetTable}
theorem SetN.size (R : SetN w s.heap a L es ep t) : es.size = L.length := by
  have := congrArg List.length R.rows
  rwa [Array.length_toList, List.length_map] at this
theorem TabN.fits {n : Nat} (T : TabN t n) (h : n ≤ t.mask) : t.fits n = true := by
  have := T.sz
  unfold SetTable.fits SetTable.fill
  rw [T.dm, Bool.and_eq_true, beq_iff_eq, decide_eq_true_eq]
  exact ⟨this, show t.place.size + 0 ≤ t.mask by omega⟩
theorem SetN.fits (R : SetN w s.heap a L es ep t) : t.fits es.size = true := by
  rw [R.size]
  exact R.tab.fits (by have := R.room; omega)
theorem SetN.at_ (R : SetN w s.heap a L es ep t) {i : Nat} {p : Addr × Stg} (h : L[i]? = some p) : es[i]? = some (shash w p.2, Value.ref p.1) := by
  rw [← Array.getElem?_toList, R.rows, List.getElem?_map, h]
  rfl
theorem TabN.first {n : Nat} (T : TabN t n) (hl : n ≤ t.mask) (h : Int) : ∃ K, K < 10 * SetTable.turns t.mask ∧ way t.mask h K ∉ t.place.toList ∧ ∀ k, k < K → way t.mask h k ∈ t.place.toList := by
  obtain ⟨j, hj, hn⟩ := st_missing t.place.toList (t.mask + 1) (by rw [Array.length_toList, T.sz]; omega)
  obtain ⟨k, hk, e⟩ := way_all T.msk h (Nat.le_of_lt_succ hj)
  obtain ⟨K, h1, h2, h3⟩ := st_least (p := fun k => way t.mask h k ∉ t.place.toList) k (by rw [e]; exact hn)
  exact ⟨K, Nat.lt_of_le_of_lt h1 hk, h2, fun c hc => Classical.byContradiction fun z => h3 c hc z⟩
theorem nth_dum (m : Nat) : ∀ (n : Nat) (p : SetTable.Probe), p.dummy = none → (nth m p n).dummy = none
  | 0, _, h => h
  | n + 1, p, h => nth_dum m n (adv m p) (by unfold adv; split <;> exact h)
abbrev start (m : Nat) (h : Int) : SetTable.Probe := runAt m (SetTable.bits h % (m + 1)) (SetTable.bits h)
/-- a key that is not there: the search ends at the first empty slot -/
theorem searchN (R : SetN w s.heap a L es ep t) (keys : ∀ p ∈ L, IsS s.heap p.2 p.1) {x : Addr} {S : Stg} (hx : IsS s.heap S x) (new : ∀ p ∈ L, p.2 ≠ S) (hu : A.units + 8 < cLine) {K : Nat} (hf : K < 10 * SetTable.turns t.mask) (hK : way t.mask (shash w S) K ∉ t.place.toList)
    (hb : ∀ c, c < K → way t.mask (shash w S) c ∈ t.place.toList) {Q : SetFound → Shared → Prop} (out : Q (.free (way t.mask (shash w S) K) false) s) :
    ∀ (f c : Nat) (st : Option SetTable.Probe), st.getD (t.probeStart (shash w S)) = nth t.mask (start t.mask (shash w S)) c → c ≤ K → K - c < f → wpAny (model P w) A (setSearchFrom a (.ref x) (shash w S) true f st) Q E s
  | 0, _, _, _, _, z => absurd z (Nat.not_lt_zero _)
  | f + 1, c, st, hst, hc, hfc => by
    obtain ⟨o, ho, hex, hd⟩ := R.ob
    have odd := R.tab.msk.bd
    rw [setSearchFrom_succ]
    refine wpAny_bind (wpAny_setState_of ho hd R.fits ?_)
    dsimp only
    refine wp_if_neg (by unfold SetTable.gaveWay; rw [odd.2.2]; decide) ?_
    try refine wpAny_bind (wpAny_pure ?_)
    have sh : ∀ q, nth t.mask (nth t.mask (start t.mask (shash w S)) c) q = nth t.mask (start t.mask (shash w S)) (c + q) := fun q => (nth_add t.mask c _ q).symm
    have ej : ∀ q, (nth t.mask (nth t.mask (start t.mask (shash w S)) c) q).j = way t.mask (shash w S) (c + q) := fun q => congrArg SetTable.Probe.j (sh q)
    have endK : c + (K - c) = K := by omega
    rcases go_spec t R.tab.ris R.tab.dm (fun i => (es[i]?.map (·.1)).getD 0) (shash w S) (10 * SetTable.turns t.mask) (K - c) (nth t.mask (start t.mask (shash w S)) c) (nth_dum _ _ _ rfl) (by omega) (fun q hq => by rw [ej]; exact hb (c + q) (by omega)) (by rw [ej, endK]; exact hK) with ⟨q, i, hq, hi, hh, hno, hpr⟩ | ⟨hno, hpr⟩
    · have hpr2 : t.probe (fun i => (es[i]?.map (·.1)).getD 0) (shash w S) (st.getD (t.probeStart (shash w S))) = some (.candidate (way t.mask (shash w S) (c + q)) i (nth t.mask (start t.mask (shash w S)) (c + (q + 1)))) := by
        rw [hst, ← ej, ← sh]; exact hpr
      rw [hpr2]
      dsimp only
      rw [ej] at hi
      have hil : i < L.length := by
        have h1 : i < t.place.toList.length := (List.getElem?_eq_some_iff.mp hi).1
        rw [Array.length_toList, R.tab.sz] at h1
        exact h1
      have hp : L[i]? = some L[i] := List.getElem?_eq_getElem hil
      have hm : L[i] ∈ L := List.getElem_mem hil
      generalize L[i] = p at hp hm
      have hne : decide (nk p.2 = nk S) = false := decide_eq_false fun e => new p hm (nk_inj e)
      have rest : wpAny (model P w) A (searchRest a (.ref x) (shash w S) true f es t (way t.mask (shash w S) (c + q)) i (nth t.mask (start t.mask (shash w S)) (c + (q + 1)))) Q E s := by
        unfold searchRest
        rw [R.at_ hp]
        dsimp only
        refine wpAny_bind (wpAny_holding ((nestedKind P w).eqBool hu (ka_of (keys p hm)) (ka_of hx) ?_))
        rw [hne]
        refine wpAny_bind (wpAny_setState_of ho hd R.fits ?_)
        dsimp only
        refine wp_if_neg (by simp) ?_
        try refine wpAny_bind (wpAny_pure ?_)
        rw [sameMem]
        dsimp only
        simp only [if_true, slot_live R.tab.ris hi, R.at_ hp]
        refine wpAny_bind (wpAny_isSame_ref_self (wpAny_bind (wpAny_pure ?_)))
        simp only [if_true]
        exact wp_if_neg (by simp) (searchN R keys hx new hu hf hK hb out f (c + (q + 1)) _ rfl (by omega) (by omega))
      by_cases hl : t.led = true
      · refine wp_if_neg (by simp [hl]) ?_
        try refine wpAny_bind (wpAny_pure ?_)
        exact rest
      · refine wp_if_pos (by simp [hl]) (wpAny_bind (seen_st hx (fun y hy => ?_) (wp_if_neg (by decide) ?_)))
        · obtain ⟨e, he, ee⟩ := List.mem_map.mp hy
          have he1 : e ∈ es ∧ e.1 = shash w S := by simpa using he
          have he2 : e ∈ es.toList := by simpa using he1.1
          rw [R.rows] at he2
          obtain ⟨p2, hp2, e2⟩ := List.mem_map.mp he2
          exact ⟨p2.2, p2.1, by rw [← ee, ← e2], keys p2 hp2⟩
        · try refine wpAny_bind (wpAny_pure ?_)
          exact rest
    · have hpr2 : t.probe (fun i => (es[i]?.map (·.1)).getD 0) (shash w S) (st.getD (t.probeStart (shash w S))) = some (.empty (way t.mask (shash w S) K) none) := by
        have e2 : way t.mask (shash w S) K = (nth t.mask (nth t.mask (start t.mask (shash w S)) c) (K - c)).j := by rw [ej, endK]
        rw [hst, e2]
        exact hpr
      rw [hpr2]
      exact wpAny_pure out
theorem searchN_at (R : SetN w s.heap a L es ep t) (keys : ∀ p ∈ L, IsS s.heap p.2 p.1) {x : Addr} {S : Stg} (hx : IsS s.heap S x) (new : ∀ p ∈ L, p.2 ≠ S) (hu : A.units + 8 < cLine) {Q : SetFound → Shared → Prop} (out : ∀ K, way t.mask (shash w S) K ∉ t.place.toList → Q (.free (way t.mask (shash w S) K) false) s) :
    wpAny (model P w) A (setSearch a (.ref x) (shash w S) true) Q E s := by
  have hr := R.room
  have hb := R.tab.msk.bd
  obtain ⟨K, hKf, hK, hKb⟩ := R.tab.first (by omega) (shash w S)
  have small : K < 100000 := by
    unfold SetTable.turns at hKf
    omega
  unfold setSearch
  exact searchN R keys hx new hu hKf hK hKb (out K hK) 100000 0 none rfl (Nat.zero_le _) (by omega)
/-! one put in -/
theorem TabN.put {n j : Nat} (T : TabN t n) (hj : j ∉ t.place.toList) (hm : j ≤ t.mask) : TabN (t.put j).1 (n + 1) ∧ (t.put j).2 = SetTable.below t.place j ∧ SetTable.below t.place j ≤ n ∧ (t.put j).1.mask = t.mask ∧ (t.put j).1.led = t.led ∧ (t.put j).1.plain = t.plain ∧ (t.put j).1.fill = n + 1 := by
  obtain ⟨c1, _, _⟩ := below_cut T.ris j
  have hl : SetTable.below t.place j ≤ t.place.toList.length := by rw [Array.length_toList]; exact c1
  have pp := put_place t j
  have hs : (t.put j).1.place.size = n + 1 := by rw [← Array.length_toList, pp, len_ins _ hl, Array.length_toList, T.sz]
  refine ⟨⟨ris_insert T.ris fun e => hj (List.mem_of_getElem? (by rw [Array.getElem?_toList]; exact e)), put_dm T.dm j, hs, T.msk, fun x hx => ?_⟩, rfl, by rw [← T.sz]; exact c1, rfl, rfl, rfl, ?_⟩
  · rw [pp] at hx
    rcases mem_ins.1 hx with z | z
    · rw [z]; exact hm
    · exact T.bd x z
  · show (t.put j).1.place.size + (t.put j).1.dummies.size = n + 1
    rw [hs, put_dm T.dm j]
    rfl
/-! laid anew -/
structure OwnN (m n : Nat) (owner : Array (Option Nat)) : Prop where
  sz : owner.size = m + 1
  all : ∀ k, k < n → ∃ j, j ≤ m ∧ oAt owner j = some k
  ps : ∃ ps : List Nat, ps.length = n ∧ ∀ j, j ≤ m → oAt owner j ≠ none → j ∈ ps
theorem ownN_step {m n : Nat} (hm : Msk m) {owner : Array (Option Nat)} (W : OwnN m n owner) (hl : n ≤ m) (h : Int) :
    ∃ j, SetTable.layClean.free m owner (SetTable.turns m) (SetTable.bits h % (m + 1)) (SetTable.bits h) = some j ∧ OwnN m (n + 1) (owner.setIfInBounds j (some n)) := by
  obtain ⟨ps, hps, hin⟩ := W.ps
  obtain ⟨j0, h0, hn0⟩ := st_missing ps (m + 1) (by omega)
  have hj0 : oAt owner j0 = none := Classical.byContradiction fun z => hn0 (hin j0 (Nat.le_of_lt_succ h0) z)
  obtain ⟨r, hr, er⟩ := run_all hm h (Nat.le_of_lt_succ h0)
  have hw : way m h (off m (SetTable.bits h % (m + 1)) (SetTable.bits h) r) = j0 := by
    show (nth m (runAt m _ _) (off m _ _ r)).j = j0
    rw [nth_off, itL_run]
    exact er
  obtain ⟨K, k1, k2, k3⟩ := st_least (p := fun k => oAt owner (way m h k) = none) (off m (SetTable.bits h % (m + 1)) (SetTable.bits h) r) (by rw [hw]; exact hj0)
  have some_of : ∀ {o : Option Nat}, o ≠ none → o.isNone = false := fun {o} z => by cases o with | none => exact absurd rfl z | some _ => rfl
  have e1 := free_spec m owner (SetTable.turns m) r _ _ K (by unfold SetTable.turns; omega) k1 (fun k hk => some_of (k3 k hk)) (by rw [show oAt owner (nth m (runAt m (SetTable.bits h % (m + 1)) (SetTable.bits h)) K).j = none from k2]; rfl)
  have hjm : way m h K ≤ m := way_in m h K
  have hself := oAt_set_self (owner := owner) (some n) (show way m h K < owner.size by rw [W.sz]; omega)
  refine ⟨way m h K, e1, by rw [Array.size_setIfInBounds]; exact W.sz, fun k hk => ?_, way m h K :: ps, by rw [List.length_cons, hps], fun j hj e => ?_⟩
  · by_cases c : k = n
    · exact ⟨way m h K, hjm, by rw [c]; exact hself⟩
    · obtain ⟨j, hj, e⟩ := W.all k (by omega)
      exact ⟨j, hj, by rw [oAt_set_ne _ (fun z => by rw [z, k2] at e; cases e)]; exact e⟩
  · by_cases c : j = way m h K
    · rw [c]; exact List.mem_cons_self
    · rw [oAt_set_ne _ c] at e
      exact List.mem_cons_of_mem _ (hin j hj e)
theorem foldN {m : Nat} (hm : Msk m) : ∀ (rest : List Int) (n : Nat) (owner : Array (Option Nat)), OwnN m n owner → n + rest.length ≤ m → ∃ o2, rest.foldl (stepF m) (some (owner, n)) = some (o2, n + rest.length) ∧ OwnN m (n + rest.length) o2
  | [], n, owner, W, _ => ⟨owner, rfl, W⟩
  | h :: rest, n, owner, W, hl => by
    rw [List.length_cons] at hl
    obtain ⟨j, e, W2⟩ := ownN_step hm W (by omega) h
    obtain ⟨o2, f, W3⟩ := foldN hm rest (n + 1) _ W2 (by omega)
    rw [List.length_cons, List.foldl_cons, stepF_some e, show n + (rest.length + 1) = n + 1 + rest.length by omega]
    exact ⟨o2, f, W3⟩
theorem relaidN (t : SetTable) {hs : Array Int} {wanted : Nat} (hM : Msk (SetTable.sizeAbove wanted - 1)) (hn : hs.size ≤ SetTable.sizeAbove wanted - 1) :
    ∃ t2 order, t.relaid hs wanted = some (t2, order) ∧ order.toList.Perm (List.range hs.size) ∧ TabN t2 hs.size ∧ t2.mask = SetTable.sizeAbove wanted - 1 ∧ t2.led = t.led ∧ t2.plain = t.plain := by
  generalize hMM : SetTable.sizeAbove wanted - 1 = M at hM hn
  obtain ⟨owner, f, W⟩ := foldN hM hs.toList 0 (Array.replicate (M + 1) none) ⟨by simp, fun k hk => absurd hk (Nat.not_lt_zero _), [], rfl, fun j hj e => absurd (oAt_init hj) e⟩ (by rw [Array.length_toList]; omega)
  rw [Nat.zero_add, Array.length_toList] at f W
  have hr : t.relaid hs wanted = some (tabOf t M owner, ((liveOf M owner).map (·.2)).toArray) := by
    rw [relaid_eq, hMM, layClean_eq, f]
    rfl
  obtain ⟨r1, r2⟩ : Ris ((liveOf M owner).map (·.1)) ∧ ∀ x ∈ (liveOf M owner).map (·.1), x ∈ List.range (M + 1) := ris_live (fun j => owner.getD j none) (List.range (M + 1)) (by unfold Ris; exact List.pairwise_lt_range)
  have hlen : (liveOf M owner).length = hs.size := by
    obtain ⟨ps, p1, p2⟩ := W.ps
    have nd1 : ((liveOf M owner).map (·.1)).Nodup := (show List.Pairwise (fun a b : Nat => a < b) _ from r1).imp fun {a b} h => Nat.ne_of_lt h
    have u := nat_nodup_len ((liveOf M owner).map (·.1)) ps nd1 fun x hx => by
      obtain ⟨⟨y, k⟩, hq, rfl⟩ := List.mem_map.mp hx
      obtain ⟨b1, b2⟩ := (mem_live W.sz).1 hq
      exact p2 y b1 (by rw [b2]; exact fun z => nomatch z)
    have v := nat_nodup_len (List.range hs.size) ((liveOf M owner).map (·.2)) List.nodup_range fun k hk => by
      obtain ⟨j, b1, b2⟩ := W.all k (List.mem_range.mp hk)
      exact List.mem_map.mpr ⟨(j, k), (mem_live W.sz).2 ⟨b1, b2⟩, rfl⟩
    rw [List.length_map] at u v
    rw [List.length_range] at v
    omega
  refine ⟨_, _, hr, perm_range hs.size _ (by show ((liveOf M owner).map (·.2)).length = _; rw [List.length_map]; exact hlen) fun k hk => ?_, ⟨r1, rfl, ?_, hM, fun x hx => Nat.le_of_lt_succ (List.mem_range.mp (r2 x hx))⟩, rfl, rfl, rfl⟩
  · obtain ⟨j, b1, b2⟩ := W.all k hk
    exact List.mem_map.mpr ⟨(j, k), (mem_live W.sz).2 ⟨b1, b2⟩, rfl⟩
  · show ((liveOf M owner).map (·.1)).toArray.size = _
    rw [List.size_toArray, List.length_map, hlen]
theorem permS {α β : Type} (f : α → β) (L : List α) (es : Array β) (order : Array Nat) (hr : es.toList = L.map f) (hp : order.toList.Perm (List.range L.length)) : ∃ L2 : List α, (order.filterMap (es[·]?)).toList = L2.map f ∧ L2.Perm L := by
  have pick : ∀ l : List Nat, l.filterMap (fun i => es[i]?) = (l.filterMap fun i => L[i]?).map f := fun l => by
    induction l with
    | nil => rfl
    | cons i l ih =>
      have e : es[i]? = (L[i]?).map f := by rw [← Array.getElem?_toList, hr, List.getElem?_map]
      rw [List.filterMap_cons, List.filterMap_cons, e]
      cases L[i]? with
      | none => exact ih
      | some x => rw [Option.map_some]; dsimp only; rw [List.map_cons, ih]
  have all : ∀ n, n ≤ L.length → (List.range n).filterMap (fun i => L[i]?) = L.take n := fun n => by
    induction n with
    | zero => intro _; rfl
    | succ n ih =>
      intro hn
      rw [List.range_succ, List.filterMap_append, ih (by omega), List.take_add_one, List.filterMap_cons, List.getElem?_eq_getElem (show n < L.length by omega)]
      rfl
  refine ⟨order.toList.filterMap fun i => L[i]?, ?_, ?_⟩
  · rw [← pick, Array.toList_filterMap]
  · have := hp.filterMap fun i => L[i]?
    rwa [all L.length (Nat.le_refl _), List.take_length] at this
theorem relayN {n : Nat} {o : Obj} (ho : s.heap.get? a = some o) (hex : o.ExactSet) (hd : o.data = .set es ep t) (hr : es.toList = rowsS w L) (T : TabN t n) (hn : n = L.length) (hm : n ≤ t.mask) (pl : t.plain = true) (led : w.params.followText "set-order" = true ∨ t.led = true) {wanted : Nat} (hw : wanted < 8192) (h4 : L.length * 4 ≤ wanted) {Q : Unit → Shared → Prop}
    (hQ : ∀ h' L' es' ep' t', Heap.SameBut a s.heap h' → SetN w h' a L' es' ep' t' → L'.Perm L → Q () { s with heap := h' }) : wpAny (model P w) A (setRelay a wanted) Q E s := by
  obtain ⟨m1, m2, m3⟩ := above_is hw
  have m4 := m1.bd
  have hs : es.size = L.length := by
    have := congrArg List.length hr
    rwa [Array.length_toList, List.length_map] at this
  have fits : t.fits es.size = true := by rw [hs, ← hn]; exact T.fits hm
  obtain ⟨t2, order, e, hp, T2, em, el, epl⟩ := relaidN t (hs := es.map (·.1)) (wanted := wanted) m1 (by rw [Array.size_map, hs]; omega)
  rw [Array.size_map, hs] at hp T2
  obtain ⟨L', r1, r2⟩ := permS _ L es order hr hp
  have s2 : (order.filterMap (es[·]?)).size = es.size := by
    have := congrArg List.length r1
    rw [Array.length_toList, List.length_map, r2.length_eq] at this
    rw [this, hs]
  rw [setRelay_eq]
  refine wpAny_bind (wpAny_setState_of ho hd fits ?_)
  dsimp only
  refine wp_if_neg (by rw [sizeLine_eq]; omega) ?_
  try refine wpAny_bind (wpAny_pure ?_)
  rw [e]
  dsimp only
  refine wpAny_bind (wp_if_neg (by rw [s2]; simp) ?_)
  try refine wpAny_bind (wpAny_pure ?_)
  refine wpAny_pure ?_
  dsimp only
  refine wpAny_storeSet_of ho hd ?_ (by rw [s2, hs, sizeLine_eq]; omega)
  refine hQ _ L' _ (ep + 1) t2 (Heap.SameBut.update ..) ⟨⟨_, store_at ho hd, ⟨hex.1, hex.2.1, hex.2.2⟩, rfl⟩, r1, by rw [r2.length_eq]; exact T2, by rw [epl]; exact pl, by rw [el]; exact led, ?_⟩ r2
  rw [r2.length_eq, em]
  omega
theorem addN (R : SetN w s.heap a L es ep t) (keys : ∀ p ∈ L, IsS s.heap p.2 p.1) {x : Addr} {S : Stg} (hx : IsS s.heap S x) (new : ∀ p ∈ L, p.2 ≠ S) (hu : A.units + 8 < cLine) (few : L.length + 1 < 2048) {Q : Bool → Shared → Prop}
    (hQ : ∀ b h' L' es' ep' t', Heap.SameBut a s.heap h' → SetN w h' a L' es' ep' t' → L'.Perm ((x, S) :: L) → Q b { s with heap := h' }) : wpAny (model P w) A (setAddHashed a (.ref x) (shash w S)) Q E s := by
  obtain ⟨o, ho, hex, hd⟩ := R.ob
  have hs := R.size
  have room := R.room
  have mb := R.tab.msk.bd
  unfold setAddHashed
  refine wpAny_holding ?_
  rw [show (100000 : Nat) = 99999 + 1 from rfl, setAddHashedIn_succ]
  refine wpAny_bind (wpAny_setState_of ho hd R.fits ?_)
  dsimp only
  refine wp_if_neg (by simp [byScan, Value.scannable]) ?_
  try refine wpAny_bind (wpAny_pure ?_)
  refine wpAny_bind (searchN_at R keys hx new hu fun K hK => ?_)
  dsimp only
  refine wpAny_bind (wpAny_setState_of ho hd R.fits ?_)
  dsimp only
  obtain ⟨q1, q2, q3, q4, q5, q6, q7⟩ := R.tab.put hK (way_in _ _ _)
  have pl1 : (t.put (way t.mask (shash w S) K)).1.plain = true := by rw [q6]; exact R.pl
  generalize t.put (way t.mask (shash w S) K) = pt at q1 q2 q4 q5 q6 q7 pl1 ⊢
  obtain ⟨t1, p⟩ := pt
  dsimp only at q1 q2 q4 q5 q6 q7 pl1 ⊢
  subst q2
  first
    | refine wpAny_bind (wp_if_pos pl1 (byv_st hx ?_))
    | refine wp_if_pos pl1 (wpAny_bind (byv_st hx ?_))
  simp only [if_true]
  have ins : (SetTable.insertAt es (SetTable.below t.place (way t.mask (shash w S) K)) (shash w S, Value.ref x)).toList = rowsS w (L.take (SetTable.below t.place (way t.mask (shash w S) K)) ++ (x, S) :: L.drop (SetTable.below t.place (way t.mask (shash w S) K))) := by
    rw [SetTable.toList_insertAt, R.rows]
    unfold rowsS
    rw [List.map_append, List.map_cons, List.map_take, List.map_drop]
  generalize SetTable.below t.place (way t.mask (shash w S) K) = p at q3 ins ⊢
  have pm := put_perm L p (x, S)
  have len : (L.take p ++ (x, S) :: L.drop p).length = L.length + 1 := pm.length_eq
  have es1s : (SetTable.insertAt es p (shash w S, Value.ref x)).size = L.length + 1 := by
    have := congrArg List.length ins
    rwa [Array.length_toList, List.length_map, len] at this
  generalize SetTable.insertAt es p (shash w S, Value.ref x) = es1 at ins es1s ⊢
  generalize L.take p ++ (x, S) :: L.drop p = L1 at pm len ins
  refine wpAny_bind (wpAny_storeSet_of ho hd ?_ (by rw [es1s, sizeLine_eq]; omega))
  have sb : Heap.SameBut a s.heap (s.heap.update a (Obj.putSet es1 t1)) := Heap.SameBut.update ..
  have ho1 := store_at (es' := es1) (t' := t1) ho hd
  generalize s.heap.update a (Obj.putSet es1 t1) = h1 at sb ho1 ⊢
  have led1 : w.params.followText "set-order" = true ∨ t1.led = true := by rw [q5]; exact R.led
  by_cases hf : t1.tooFull = true
  · first
      | refine wpAny_bind (wp_if_pos (by simp [hf]) ?_)
      | refine wp_if_pos (by simp [hf]) (wpAny_bind ?_)
    have gr : SetTable.grown (es.size + 1) = (L.length + 1) * 4 := by
      unfold SetTable.grown
      rw [hs, if_neg (by omega)]
    rw [gr]
    exact relayN (s := { s with heap := h1 }) ho1 ⟨hex.1, hex.2.1, hex.2.2⟩ rfl ins q1 len.symm (by rw [q4]; omega) pl1 led1 (by omega) (by rw [len]; omega) fun h2 L2 es2 ep2 t2 sb2 R2 pm2 => wpAny_pure (hQ true h2 L2 es2 ep2 t2 (sb.trans sb2) R2 (pm2.trans pm))
  · first
      | refine wp_if_neg (by simp [hf]) ?_
      | (refine wpAny_bind ?_; refine wp_if_neg (by simp [hf]) ?_; refine wpAny_pure ?_)
    refine wpAny_pure (hQ true h1 L1 es1 (ep + 1) t1 sb ⟨⟨_, ho1, ⟨hex.1, hex.2.1, hex.2.2⟩, rfl⟩, ins, by rw [len]; exact q1, pl1, led1, ?_⟩ pm)
    have h := hf
    unfold SetTable.tooFull at h
    rw [decide_eq_true_eq, q7] at h
    rw [len]
    omega
/-- set(xs), xs a list of unlike standings -/
theorem callSetN {l : Addr} {items : Array Value} {ks : List (Addr × Stg)} {Q : Value → Shared → Prop} (hh : A.handled = none) (hl : s.heap.IsList l items) (hv : items.toList = ks.map fun p => Value.ref p.1) (hk : ∀ p ∈ ks, IsS s.heap p.2 p.1) (nd : (ks.map (·.2)).Nodup) (few : ks.length < 2048) (hu : A.units + 16 < cLine)
    (fin : ∀ (h' : Heap) (tk : Nat) L es ep t, SetN w h' s.heap.objs.size L es ep t → L.Perm ks → Kept s.heap h' → Q (.ref s.heap.objs.size) { s with heap := h', toks := tk }) : wpAny (model P w) A (call (.type "set") [.ref l]) Q E s := by
  have hz : items.size = ks.length := by
    have := congrArg List.length hv
    rwa [Array.length_toList, List.length_map] at this
  refine callSet (fun i h => i ≤ ks.length ∧ ∃ L es ep t, SetN w h s.heap.objs.size L es ep t ∧ L.Perm (ks.take i)) hh hl ?_ ?_ ?_ ?_
  · rintro i h h' keep _ ⟨hi, L, es, ep, t, R, pm⟩
    obtain ⟨o, ho, r⟩ := R.ob
    exact ⟨hi, L, es, ep, t, ⟨⟨o, keep o ho, r⟩, R.rows, R.tab, R.pl, R.led, R.room⟩, pm⟩
  · intro h ho _
    refine ⟨Nat.zero_le _, [], #[], 0, _, ⟨⟨_, ho, ⟨rfl, rfl, rfl⟩, rfl⟩, rfl, ⟨List.Pairwise.nil, rfl, rfl, ⟨3, by decide, by decide, rfl⟩, fun x hx => by cases hx⟩, rfl, ?_, by show 0 * 5 < 7 * 3; decide⟩, .refl _⟩
    show _ ∨ (!w.params.followText "set-order") = true
    cases w.params.followText "set-order"
    · exact .inr rfl
    · exact .inl rfl
  · rintro E' i v s2 Q2 hi kp ⟨hle, L, es, ep, t, R, pm⟩ k
    have hi2 : (ks.map fun p => Value.ref p.1)[i]? = some v := by rw [← hv, Array.getElem?_toList]; exact hi
    rw [List.getElem?_map] at hi2
    obtain ⟨⟨x, S⟩, hp, e⟩ := Option.map_eq_some_iff.mp hi2
    subst e
    have hlt : i < ks.length := (List.getElem?_eq_some_iff.mp hp).1
    have mem : ∀ p ∈ L, p ∈ ks.take i := fun p hpL => pm.mem_iff.mp hpL
    have hx : IsS s2.heap S x := isS_keep (hk (x, S) (List.mem_of_getElem? hp)) kp
    have tk2 : ks.take (i + 1) = ks.take i ++ [(x, S)] := by rw [List.take_add_one, hp]; rfl
    have hu2 : A.in1.in1.in1.units + 8 < cLine := by
      have a1 : A.in1.units = A.units + 1 := Around.in1_units _
      have a2 : A.in1.in1.units = A.in1.units + 1 := Around.in1_units _
      have a3 : A.in1.in1.in1.units = A.in1.in1.units + 1 := Around.in1_units _
      omega
    unfold setAdd
    refine wpAny_holding (wpAny_bind ((nestedKind P w).pyHash hu2 (ka_of hx) ?_))
    refine addN (s := { s2 with toks := s2.toks + (nestedKind P w).draws (nk S) }) R (fun p hpL => isS_keep (hk p (List.mem_of_mem_take (mem p hpL))) kp) hx (fun p hpL e => ?_) hu2 (by rw [pm.length_eq, List.length_take]; omega) fun b h' L' es' ep' t' sb R' pm' => k b h' _ (Nat.le_add_right _ _) sb ⟨hlt, L', es', ep', t', R', ?_⟩
    · have n2 : ((ks.take (i + 1)).map (·.2)).Nodup := by
        rw [List.map_take]
        exact nd.sublist (List.take_sublist _ _)
      rw [tk2, List.map_append] at n2
      exact (List.nodup_append.mp n2).2.2 p.2 (List.mem_map.mpr ⟨p, mem p hpL, rfl⟩) S (by simp) e
    · rw [tk2]
      exact (pm'.trans (pm.cons (x, S))).trans (List.perm_append_singleton (x, S) _).symm
  · rintro h' tk ⟨_, L, es, ep, t, R, pm⟩ kp
    rw [hz, List.take_length] at pm
    exact fin h' tk L es ep t R pm kp
end
end G

namespace G
open PySem PySem.Spec PySem.W PyProof.Rows L2
theorem perm_lift {α β : Type} [DecidableEq α] {f : α → β} : ∀ {l : List β} {L : List α}, l.Perm (L.map f) → ∃ L' : List α, l = L'.map f ∧ L'.Perm L
  | [], L, p => by
    have := p.length_eq
    cases L with
    | nil => exact ⟨[], rfl, .refl _⟩
    | cons _ _ => simp at this
  | b :: l, L, p => by
    obtain ⟨a, ha, e⟩ := List.mem_map.mp (p.mem_iff.mp List.mem_cons_self)
    have q := List.perm_cons_erase ha
    have p2 := p.trans (q.map f)
    rw [List.map_cons, e] at p2
    obtain ⟨L', e2, p3⟩ := perm_lift (List.Perm.cons_inv p2)
    exact ⟨a :: L', by rw [List.map_cons, e, e2], (p3.cons a).trans q.symm⟩
section
variable {X : Cx} {B : Bs} {ss : List SD} {a : Expr} {C : Addr}
theorem sort_setN {pins : List (Addr × Obj)} {σ : St} {H G : Hp} {s : Shared} {Q : VK} {sa : Addr} {L ps : List (Addr × Stg)} {es : Array (Int × Value)} {ep : Nat} {t : SetTable} (hc : X.calm = true) (hu : X.A.units + 64 < cLine) (I : Inv X pins σ H s) (R : SetN X.w s.heap sa L es ep t) (pm : L.Perm ps) (few : ps.length < 2048)
    (f : Same G H) (hk : ∀ p ∈ ps, Rp X.K C G (.ref p.1) (stD p.2)) (ok : SrtOk (ps.map fun p => stD p.2)) (q : ∀ (p : Addr) (ws : List V), H p = none → RpAll X.K C G ws (srtD (ps.map fun p => stD p.2)) → Q (.ref p) (upd H p (.lst ws))) :
    wpAny (model X.prog X.w) X.A (call (.builtin "sorted") [.ref sa]) (EP X pins σ Q) X.xe s := by
  obtain ⟨o, ho, hex, hd⟩ := R.ob
  have hes := R.size
  have pl := pm.length_eq
  refine Calls.call_function_entry kind_sorted plain_sorted entry_sorted (args_sorted1 _) ?_
  unfold Builtin.«sorted»
  refine wpAny_bind (m := checkCount "sorted" 1 1 _) (wpAny_pure (wpAny_bind (collect_set (A := X.A.in1) (I.ok.hd hc) ⟨o, ho, hex.1, hd⟩ R.fits (by unfold scanBound; omega) R.tab.ris R.led fun s2 acc kk gz ge oe pa => ?_)))
  rw [R.rows, List.map_map] at pa
  obtain ⟨L', rfl, pL⟩ := perm_lift (f := fun p : Addr × Stg => Value.ref p.1) pa
  have pLs : L'.Perm ps := pL.trans pm
  have len : (L'.map fun p : Addr × Stg => Value.ref p.1).length = ps.length := by rw [List.length_map, pLs.length_eq]
  have sz : ps.length ≤ sizeLine := by rw [sizeLine_eq]; omega
  refine wpAny_bind (wpAny_newList ?_ (by rw [len]; exact sz))
  have sp : srtD (L'.map fun p => stD p.2) = srtD (ps.map fun p => stD p.2) := by
    have e1 : ∀ l : List (Addr × Stg), (l.map fun p => stD p.2) = (l.map (·.2)).map stD := fun l => by rw [List.map_map]; rfl
    rw [e1, e1, srtD_st, srtD_st, srtS_one (pLs.map _)]
  have mem : ∀ d ∈ L'.map (fun p => stD p.2), d ∈ ps.map fun p => stD p.2 := fun d hd => (pLs.map _).mem_iff.mp hd
  have al : AllAlike (L'.map fun p => stD p.2) := fun d hd d' hd' => ok.al d (mem d hd) d' (mem d' hd')
  have so : Sortable (L'.map fun p => stD p.2) := by
    rcases ok.so with z | z
    · exact .inl fun d hd => z d (mem d hd)
    · exact .inr fun d hd => z d (mem d hd)
  have plD : ∀ d ∈ L'.map (fun p => stD p.2), Pl 8 d := fun d hd => ok.pl d (mem d hd)
  have eR : EachIs (RdV X.K C G) (L'.map fun p : Addr × Stg => Value.ref p.1) (L'.map fun p => stD p.2) := each_at (by rw [List.length_map, List.length_map]) fun j u b e1 e2 => by
    rw [List.getElem?_map] at e1 e2
    cases h : L'[j]? with
    | none => rw [h] at e1; cases e1
    | some p =>
      rw [h] at e1 e2
      obtain rfl := Option.some.inj e1
      obtain rfl := Option.some.inj e2
      exact ⟨.ref p.1, rfl, hk p (pLs.mem_iff.mp (List.mem_of_getElem? h))⟩
  have rd := rdv_reads I f eR plD
  have lenD : (L'.map fun p : Addr × Stg => stD p.2).length = ps.length := by rw [List.length_map, pLs.length_eq]
  generalize L'.map (fun p : Addr × Stg => Value.ref p.1) = acc at len eR rd
  have e0 : ∀ d ∈ (L'.map fun p : Addr × Stg => stD p.2), ∃ S : Stg, d = stD S := fun d hd => by
    obtain ⟨p, _, rfl⟩ := List.mem_map.mp hd
    exact ⟨p.2, rfl⟩
  generalize L'.map (fun p : Addr × Stg => stD p.2) = ds at sp al so plD eR rd lenD e0
  have new : (s2.heap.push { cls := .type "list", data := .seq acc.toArray }).get? s2.heap.objs.size = some (seqObj "list" acc.toArray 0) := Heap.get?_push_size _ rfl
  refine wpAny_bind (wpAny_holding (wpAny_mono (list_sort_data (R := RdV X.K C G) (bs := ds) (enc := fun d => d) (s := { s2 with heap := s2.heap.push { cls := .type "list", data := .seq acc.toArray } })
    (Q := fun v t => ∃ out : List Value, out.length = ds.length ∧ EachIs (RdV X.K C G) out (srtD ds) ∧ t = { s2 with heap := sortedHeap (s2.heap.push { cls := .type "list", data := .seq acc.toArray }) s2.heap.objs.size acc out.toArray })
    (E := X.xe) new eR ?_ (by rw [map_id']; exact al) (by rw [map_id']; exact so) (by rw [lenD]; exact sz) (fun d hd => ?_) (fun out ho eo => ⟨out, ho, eo, rfl⟩)) (fun v t z => ?_) fun _ _ z => z))
  · refine (each_both rd (T := fun b => ∃ S : Stg, b = stD S) e0).mono ?_
    rintro u b ⟨⟨as, ra⟩, S, rfl⟩
    have nl := nolist_st ra
    subst nl
    exact ⟨[], PyProof.Rows.Reads.keeps (fun b o e => Heap.get?_push_of_some _ (kk b o e)) ra, by simp⟩
  · have h1 := (plD d hd).lay.2
    have h2 : X.A.in1.units = X.A.units + 1 := Around.in1_units _
    have h3 : X.A.in1.in1.units = X.A.in1.units + 1 := Around.in1_units _
    omega
  · obtain ⟨out, lo2, eo, rfl⟩ := z
    rw [sp] at eo
    obtain ⟨ws, w1, w2⟩ := each_vals eo
    obtain ⟨ep', he'⟩ := sortedHeap_at (vs := acc) (out := out.toArray) new
    have w3 : ws.length ≤ sizeLine := by rw [w1.length, lo2, lenD]; exact sz
    have fresh : H s2.heap.objs.size = none := I.hok.fresh gz
    have keep : ∀ b u, s.heap.get? b = some u → (sortedHeap (s2.heap.push { cls := .type "list", data := .seq acc.toArray }) s2.heap.objs.size acc out.toArray).get? b = some u := fun b u e => by
      have lt : b < s2.heap.objs.size := Nat.lt_of_lt_of_le (Heap.lt_size e) gz
      rw [sortedHeap_old (Nat.ne_of_lt lt) (by rw [size_push']; exact Nat.lt_succ_of_lt lt)]
      exact Heap.get?_push_of_some _ (kk b u e)
    have J : Inv X pins σ (upd H s2.heap.objs.size (.lst ws)) { s with heap := sortedHeap (s2.heap.push { cls := .type "list", data := .seq acc.toArray }) s2.heap.objs.size acc out.toArray, gens := s2.gens, drawn := s2.drawn, toks := s2.toks } :=
      I.call (ch := []) (Un.laid keep gz fresh) (I.hok.laid keep gz ⟨w3, out, ep', w1, he'⟩) (by rw [ge]; exact I.bare) (fun _ z => nomatch z)
    obtain ⟨h2, g2, d2, t2, o2⟩ := s2
    have oe' : o2 = s.os := oe
    subst oe'
    exact wpAny_pure ⟨_, rfl, .ref h2.objs.size, _, J, rfl, q _ _ fresh w2⟩
def tSortSet (K : PySem.W.Frag) (C : Addr) (ta : TE) : TE := fun σ H Q => ta σ H fun x H1 => ∃ (l : Addr) (ps : List (Addr × Stg)) (G : Hp), x = .ref l ∧ SqL K H1 l (ps.map fun p => V.ref p.1) ∧ Same G H1 ∧ (∀ p ∈ ps, Rp K C G (.ref p.1) (stD p.2)) ∧ (ps.map (·.2)).Nodup ∧ ps.length < 2048 ∧ SrtOk (ps.map fun p => stD p.2) ∧
  ∀ (p : Addr) (ws : List V), H1 p = none → RpAll K C G ws (srtD (ps.map fun p => stD p.2)) → Q (.ref p) (upd H1 p (.lst ws))
theorem refs_vals : ∀ {ps : List (Addr × Stg)} {us : List Value}, Vals (ps.map fun p => V.ref p.1) us → us = ps.map fun p => Value.ref p.1
  | [], _, .nil => rfl
  | p :: ps, _, .cons r t => by
    cases r
    rw [List.map_cons, refs_vals t]
theorem pe_sortSet {p p2 q pos : Pos} {ta : TE} (hc : X.calm = true) (hu : X.A.units + 64 < cLine) (ha : PE X a ta) (hm : X.mg "sorted" = none) (hm2 : X.mg "set" = none) (hv : bootBuiltins "sorted" = some (.builtin "sorted")) (hg : Gl X "sorted") (hg2 : Gl X "set")
    (na : starEach [a] X.env = (false, eval a X.env) :: starEach [] X.env := by rfl) : PE X (.Call (.Name "sorted" p) [.Call (.Name "set" p2) [a] [] q] [] pos) (tSortSet X.K C ta) := by
  refine ⟨fun pins s σ H Q I h => PyProof.Rows.Call_ (ld_blt I hg hm hv ?_)⟩
  refine PyProof.Rows.callWith_builtin1 (PyProof.Rows.args_cons (PyProof.Rows.Call_ (ld_blt I hg2 hm2 PyProof.Rows.boot_set ?_)) rfl) rfl rfl
  refine PyProof.Rows.callWith_type1 (PyProof.Rows.args_cons (thn (ha.run pins s σ H _ I h) fun v s1 ⟨x, H1, I1, r1, q1⟩ => PyProof.Rows.args_nil ?_) na) na rfl
  obtain ⟨l, ps, G, rfl, hq, f, hk, nd, few, ok, q1⟩ := q1
  cases r1
  obtain ⟨its, r, pl, hz⟩ := I1.list hq
  refine callSetN (ks := ps) (I1.ok.hd hc) pl.isList (by simpa using refs_vals r) (fun p hp => ?_) nd few (by omega) fun h' tk L es ep t R pm kp => PyProof.Rows.args_nil ?_
  · obtain ⟨b, e1, e2, ka⟩ := key_is I1 ((hk p hp).mono f) (show RelV (.ref p.1) (Value.ref p.1) from rfl)
    cases e1
    exact ka.1
  · exact sort_setN (s := { s1 with heap := h', toks := tk }) hc hu (I1.kept kp) R pm few f hk ok q1
theorem rp_sts {K : PySem.W.Frag} {F : Hp} : ∀ {l : List Stg} {vs : List V}, RpAll K C F vs (l.map stD) → ∃ ps : List (Addr × Stg), vs = ps.map (fun p => V.ref p.1) ∧ ps.map (·.2) = l ∧ ∀ p ∈ ps, Rp K C F (.ref p.1) (stD p.2)
  | [], _, .nil => ⟨[], rfl, rfl, fun _ z => nomatch z⟩
  | S :: l, _, .cons h t => by
    obtain ⟨ps, e1, e2, e3⟩ := rp_sts t
    obtain ⟨a, rfl⟩ := st_ref h
    refine ⟨(a, S) :: ps, by rw [e1]; rfl, by rw [List.map_cons, e2], fun p hp => ?_⟩
    rcases List.mem_cons.mp hp with e | hp
    · subst e; exact h
    · exact e3 p hp
/-- sorted(set(xs)), xs a list of unlike standings -/
theorem pn_sortSet {l : List Stg} {p p2 q pos : Pos} (cx : Cxt X) (ha : PLi X B a ss (l.map stD)) (nd : l.Nodup) (few : l.length < 2048) (ne : ∀ S ∈ l, S ≠ []) (hm : X.mg "sorted" = none) (hm2 : X.mg "set" = none) (hv : bootBuiltins "sorted" = some (.builtin "sorted") := by decide +kernel) (hg : Gl X "sorted" := by rfl) (hg2 : Gl X "set" := by rfl)
    (na : starEach [a] X.env = (false, eval a X.env) :: starEach [] X.env := by rfl) : PN X B (.Call (.Name "sorted" p) [.Call (.Name "set" p2) [a] [] q] [] pos) ss ((srtS l).map stD) := fun σ F H s Q k =>
  sem_of (pe_sortSet (C := B.C) cx.calm cx.u64 pe_sem hm hm2 hv hg hg2 na) (ha σ F H s _ fun t vs F1 H1 g1 sq r1 => by
    obtain ⟨ps, e1, e2, e3⟩ := rp_sts r1
    subst e1
    have e4 : (ps.map fun p => stD p.2) = l.map stD := by rw [← e2, List.map_map]; rfl
    refine ⟨t, ps, F1, rfl, sq, g1.fh, e3, by rw [e2]; exact nd, by rw [← e2, List.length_map] at few; exact few, by rw [e4]; exact srtOk_st ne, fun u ws hu r => ?_⟩
    rw [e4, srtD_st] at r
    exact k u ws F1 _ (g1.trans (Grow.newO g1.fh hu)) (g1.hh.free hu) (g1.fh.free hu) upd_same r)
end
end G

namespace G
open PySem L2
/-! ### ways -/
def ends (S : Stg) : List LF → Stg
  | [] => S
  | l :: r => ends (behindL S l) r
def valid (f : FL) (S : Stg) : List LF → Prop
  | [] => True
  | l :: r => l ∈ liftsOf f S ∧ valid f (behindL S l) r
theorem ends_take {f : FL} : ∀ {row : List LF} {S : Stg} {k : Nat} {l : LF}, valid f S row → row[k]? = some l → l ∈ liftsOf f (ends S (row.take k)) ∧ ends S (row.take (k + 1)) = behindL (ends S (row.take k)) l
  | [], _, _, _, _, h => by simp at h
  | x :: row, S, 0, l, v, h => by
    have : x = l := by simpa using h
    subst this
    exact ⟨v.1, rfl⟩
  | x :: row, S, k + 1, l, v, h => ends_take (row := row) (S := behindL S x) (k := k) v.2 (by simpa using h)
theorem ends_good {f : FL} : ∀ {row : List LF} {S : Stg} (k : Nat), goodF f S = true → valid f S row → goodF f (ends S (row.take k)) = true ∧ (ends S (row.take k)).flatten.Perm S.flatten
  | [], S, k, g, _ => by rw [List.take_nil]; exact ⟨g, .refl _⟩
  | x :: row, S, 0, g, _ => ⟨g, .refl _⟩
  | x :: row, S, k + 1, g, v => by
    obtain ⟨_, _, g2, p2⟩ := back_in v.1 g
    obtain ⟨a, b⟩ := ends_good (row := row) k g2 v.2
    exact ⟨a, b.trans p2⟩
theorem plan_ok {F : FL} {g : Stg} (w : Few F g) : ∀ (m : Nat) (S : Stg), S ∈ keysE (bfs F g) → (hgt F g S).toNat = m → valid F S (planGo F g m S) ∧ ends S (planGo F g m S) = g ∧ (planGo F g m S).length = m
  | 0, S, hS, hm => by
    have h0 := hgt_pos w hS
    have e : S = g := Classical.byContradiction fun ne => by
      obtain ⟨l, hl, hlt⟩ := low_nbr w hS ne
      have := hgt_pos w (nbr_in w hS (List.mem_map.mpr ⟨l, hl, rfl⟩)).1
      omega
    exact ⟨trivial, e, rfl⟩
  | m + 1, S, hS, hm => by
    have ne : S ≠ g := fun e => by rw [e, hgt_go w] at hm; cases hm
    obtain ⟨l, h1, h2, h3, h4⟩ := lows_head w hS ne
    have h0 := hgt_pos w h3
    obtain ⟨a, b, c⟩ := plan_ok w m (behindL S l) h3 (by omega)
    rw [planGo_on h1]
    exact ⟨⟨h2, a⟩, b, by rw [List.length_cons, c]⟩
/-- a way of n lifts to T -/
inductive Rch (f : FL) (T : Stg) : Stg → Nat → Prop
  | nil : Rch f T T 0
  | cons {S U : Stg} {n : Nat} : U ∈ nbrs f S → Rch f T U n → Rch f T S (n + 1)
theorem Rch.snoc {f : FL} {U T : Stg} (h : T ∈ nbrs f U) : ∀ {S : Stg} {n : Nat}, Rch f U S n → Rch f T S (n + 1)
  | _, _, .nil => .cons h .nil
  | _, _, .cons a r => .cons a (Rch.snoc h r)
theorem Rch.good {f : FL} {T : Stg} : ∀ {S : Stg} {n : Nat}, Rch f T S n → goodF f S = true → goodF f T = true ∧ T.flatten.Perm S.flatten
  | _, _, .nil, g => ⟨g, .refl _⟩
  | _, _, .cons a r, g => by
    obtain ⟨_, g2, p⟩ := nbr_back a g
    obtain ⟨a, b⟩ := r.good g2
    exact ⟨a, b.trans p⟩
theorem Rch.rev {f : FL} {T : Stg} : ∀ {S : Stg} {n : Nat}, Rch f T S n → goodF f S = true → Rch f S T n
  | _, _, .nil, _ => .nil
  | _, _, .cons a r, g => by
    obtain ⟨b, g2, _⟩ := nbr_back a g
    exact Rch.snoc b (r.rev g2)
theorem Rch.keys {f : FL} {T : Stg} (w : Few f T) : ∀ {S : Stg} {n : Nat}, Rch f T S n → goodF f S = true → S ∈ keysE (bfs f T) ∧ hgt f T S ≤ (n : Int)
  | _, _, .nil, _ => ⟨go_in w, by rw [hgt_go w]; exact Int.le_refl _⟩
  | _, _, .cons a r, g => by
    obtain ⟨b, g2, _⟩ := nbr_back a g
    obtain ⟨k, le⟩ := r.keys w g2
    obtain ⟨k2, le2⟩ := nbr_up w k b
    exact ⟨k2, by omega⟩
theorem keys_rch {f : FL} {g : Stg} (w : Few f g) : ∀ (m : Nat) (U : Stg), U ∈ keysE (bfs f g) → (hgt f g U).toNat ≤ m → ∃ n, Rch f g U n := by
  intro m
  induction m with
  | zero =>
    intro U hU hm
    by_cases e : U = g
    · subst e; exact ⟨0, .nil⟩
    · obtain ⟨l, hl, hlt⟩ := low_nbr w hU e
      have := hgt_pos w (nbr_in w hU (List.mem_map.mpr ⟨l, hl, rfl⟩)).1
      omega
  | succ m ih =>
    intro U hU hm
    by_cases e : U = g
    · subst e; exact ⟨0, .nil⟩
    · obtain ⟨l, hl, hlt⟩ := low_nbr w hU e
      have hT : behindL U l ∈ nbrs f U := List.mem_map.mpr ⟨l, hl, rfl⟩
      have hk := (nbr_in w hU hT).1
      have := hgt_pos w hk
      obtain ⟨n, r⟩ := ih _ hk (by omega)
      exact ⟨n + 1, .cons hT r⟩
theorem keys_sym {f : FL} {S g : Stg} (wS : Few f S) (wg : Few f g) (h : g ∈ keysE (bfs f S)) : S ∈ keysE (bfs f g) := by
  obtain ⟨n, r⟩ := keys_rch wS _ g h (Nat.le_refl _)
  exact ((r.rev wg.gd).keys wg wS.gd).1
/-! ### so many standings of a few crates -/
theorem lens_one : ∀ {a b : List Nat}, a.length = b.length → a.sum = b.sum → a.dropLast = b.dropLast → a = b
  | [], [], _, _, _ => rfl
  | [], _ :: _, h, _, _ => by simp at h
  | _ :: _, [], h, _, _ => by simp at h
  | [x], [y], _, h, _ => by simpa using h
  | [x], y :: z :: r, h, _, _ => by simp at h
  | x :: z :: r, [y], h, _, _ => by simp at h
  | x :: x2 :: a, y :: y2 :: b, h1, h2, h3 => by
    rw [List.dropLast_cons₂, List.dropLast_cons₂] at h3
    injection h3 with e1 e2
    rw [e1, lens_one (a := x2 :: a) (b := y2 :: b) (by simpa using h1) (by
      have h5 : x + (x2 :: a).sum = y + (y2 :: b).sum := by rw [← List.sum_cons, ← List.sum_cons]; exact h2
      omega) e2]
theorem count_few {l : List Stg} {g : Stg} {n : Nat} (nd : l.Nodup) (h : ∀ S ∈ l, S.flatten.Perm g.flatten ∧ S.length = n + 1) : l.length ≤ g.flatten.length ^ g.flatten.length * (g.flatten.length + 1) ^ n := by
  have nd' : (l.map fun S => (S.flatten, (S.map List.length).dropLast)).Nodup := by
    refine List.pairwise_map.mpr (List.Pairwise.imp_of_mem (fun {a b} ha hb hab e => hab ?_) nd)
    injection e with e1 e2
    obtain ⟨p1, q1⟩ := h a ha
    obtain ⟨p2, q2⟩ := h b hb
    refine split_inj e1 (lens_one (by rw [List.length_map, List.length_map, q1, q2]) ?_ e2)
    have s1 := List.length_flatten (L := a)
    have s2 := List.length_flatten (L := b)
    have := p1.length_eq
    have := p2.length_eq
    omega
  have sub := len_le _ ((words g.flatten g.flatten.length).flatMap fun w => (words (List.range (g.flatten.length + 1)) n).map fun v => (w, v)) nd' fun x hx => by
    obtain ⟨S, hS, rfl⟩ := List.mem_map.mp hx
    obtain ⟨p, q⟩ := h S hS
    refine List.mem_flatMap.mpr ⟨S.flatten, ?_, List.mem_map.mpr ⟨(S.map List.length).dropLast, ?_, rfl⟩⟩
    · have := mem_words (c := g.flatten) (w := S.flatten) fun y hy => p.mem_iff.mp hy
      rwa [p.length_eq] at this
    · have := mem_words (c := List.range (g.flatten.length + 1)) (w := (S.map List.length).dropLast) fun y hy => by
        obtain ⟨r, hr, rfl⟩ := List.mem_map.mp (List.dropLast_subset _ hy)
        have l1 := mem_flat_le hr
        rw [p.length_eq] at l1
        exact List.mem_range.mpr (by omega)
      rwa [List.length_dropLast, List.length_map, q, Nat.add_sub_cancel] at this
  rw [List.length_map, len_fm _ ((g.flatten.length + 1) ^ n) _ fun w _ => by rw [List.length_map, words_len, List.length_range], words_len] at sub
  exact sub
/-- few enough for a set -/
structure Sml (f : FL) (g : Stg) : Prop where
  w : Few f g
  c3 : f.1 = 3 → g.flatten.length ≤ 3
  c4 : f.1 = 4 → g.flatten.length ≤ 2
theorem pw {a b c d : Nat} (h1 : a ≤ b) (h2 : c ≤ d) (hb : 0 < b) : a ^ c ≤ b ^ d := Nat.le_trans (Nat.pow_le_pow_left h1 c) (Nat.pow_le_pow_right hb h2)
theorem keys_few {f : FL} {g : Stg} (s : Sml f g) : (keysE (bfs f g)).length < 2048 := by
  have w := s.w
  have fl := w.fl
  have cr := w.cr
  have lg : (g.length : Int) = f.1 := good_len w.gd
  obtain ⟨n, hn⟩ : ∃ n, g.length = n + 1 := ⟨g.length - 1, by omega⟩
  have c := count_few (l := keysE (bfs f g)) (g := g) (n := n) (bfs_bi w).nd fun S hS => by
    obtain ⟨a, b⟩ := key_good w hS
    have : (S.length : Int) = f.1 := good_len a
    exact ⟨b, by omega⟩
  have s3 := s.c3
  have s4 := s.c4
  generalize g.flatten.length = k at c cr s3 s4
  have key : ∀ K N, k ≤ K → n ≤ N → 0 < K → K ^ K * (K + 1) ^ N < 2048 → (keysE (bfs f g)).length < 2048 := fun K N h1 h2 h3 h4 => by
    have a1 : k ^ k ≤ K ^ K := pw h1 h1 h3
    have a2 : (k + 1) ^ n ≤ (K + 1) ^ N := pw (by omega) h2 (by omega)
    rw [List.length_map] at c ⊢
    exact Nat.lt_of_le_of_lt (Nat.le_trans c (Nat.mul_le_mul a1 a2)) h4
  have : f.1 = 2 ∨ f.1 = 3 ∨ f.1 = 4 := by omega
  rcases this with e | e | e
  · exact key 4 1 (by omega) (by omega) (by decide) (by decide)
  · have := s3 e
    exact key 3 2 (by omega) (by omega) (by decide) (by decide)
  · have := s4 e
    exact key 2 3 (by omega) (by omega) (by decide) (by decide)
end G

namespace G
open PySem L2
def topS (i : Nat) : Stmt := PySem.Challenge.pw_cranefloor_k06_whole_a_plan.main.body.getD i (.Pass ⟨0, 0, 0, 0⟩)
abbrev s_see_bans : Stmt := topS 7
abbrev s_Floor_init : Stmt := inClass (topS 8) 0
abbrev s_Floor_stacks : Stmt := inClass (topS 8) 1
abbrev s_Floor_height : Stmt := inClass (topS 8) 2
abbrev s_Floor_lift : Stmt := inClass (topS 8) 3
abbrev s_Floor_bans : Stmt := inClass (topS 8) 4
abbrev s_crates_of : Stmt := topS 9
abbrev s_stack_is_good : Stmt := topS 10
abbrev s_is_good : Stmt := topS 11
abbrev s_see_standing : Stmt := topS 13
abbrev s_behind : Stmt := topS 14
abbrev s_all_lifts : Stmt := topS 15
abbrev s_see_few : Stmt := topS 18
abbrev s_told_heights : Stmt := topS 19
abbrev s_come_to : Stmt := topS 20
abbrev s_heights : Stmt := topS 21
abbrev s_plan : Stmt := topS 22
abbrev s_law_cell_at : Stmt := topS 24
abbrev s_law_whole : Stmt := topS 25
abbrev s_law_floor : Stmt := topS 26
abbrev s_law_good : Stmt := topS 27
abbrev s_law_standing : Stmt := topS 28
abbrev s_law_behind : Stmt := topS 29
abbrev s_law_lifts : Stmt := topS 30
abbrev s_law_tuple : Stmt := topS 31
abbrev s_law_stands : Stmt := topS 32
abbrev s_law_small : Stmt := topS 33
abbrev s_law_crates : Stmt := topS 34
abbrev s_law_walked : Stmt := topS 35
abbrev s_law_shut : Stmt := topS 36
abbrev s_law_right : Stmt := topS 37
abbrev s_law_great : Stmt := topS 38
abbrev s_law : Stmt := topS 39
end G

namespace G
open PySem L2
theorem sc_crates_of : FnScope ["standing", "found", "stack"] ["standing"] (defScope s_crates_of) := ⟨rfl, rfl, rfl, by decide +kernel, rfl, by decide +kernel, by decide +kernel⟩
abbrev sp_crates_of (K : PySem.W.Frag) (C : Addr) : Sp := spO K C (fun S : List (List Int) => [dSt S]) (fun S => S.flatten.length ≤ 1000) (fun S => .new (dIs (isort S.flatten)))
theorem ok_crates_of {P : Program} {w : World} {K : PySem.W.Frag} {mg : Str → Option Value} {base : Heap} {C f : Addr} {fd : FuncData} (T : Bl mg) (F : L2.Fun K "crates_of" "crates_of" s_crates_of f fd) :
    FnOk P w K mg base (L2.CX P w) 1 f fd ["standing"] (sp_crates_of K C) := by
  refine ok_fn F sc_crates_of (fun _ => rfl) (fun cdv A outer s H F0 S Q E X hX cx hr tk hp ho => ?_)
  subst hX
  refine go_asgN 1 cx.nd (pn_lst pds_nil) ?_
  refine go_for 2 (fun i ss => ∃ z, ss = [.dat (dSt S), .own (dIs (S.take i).flatten), z]) cx (PD.itt (pd_var 0)) ⟨_, rfl⟩ ?_ ?_
  · rintro Fp i r _ hi ⟨z, rfl⟩
    refine go_extend 1 rfl (PN.da (pn_list (PIs.it (PD.itt (pd_var 2))) T.list)) (go_end ⟨.dat (dRow r), ?_⟩) ?_
    · simp [dIs, flatten_take hi]
    · rw [List.length_map, List.length_map, ← List.length_append, ← flatten_take hi]
      exact sz1000 (Nat.le_trans (flatten_take_le _ _) hp)
  · rintro _ ⟨z, rfl⟩
    rw [List.take_length]
    exact go_retN (pn_sorted (pl_own 1) T.sorted (hms := fun l h1 h2 => isort_is h1 h2)) ho
end G

namespace G
open PySem L2
theorem sc_stack_is_good : FnScope ["floor", "stack", "k"] ["floor", "stack"] (defScope s_stack_is_good) := ⟨rfl, rfl, rfl, by decide +kernel, rfl, by decide +kernel, by decide +kernel⟩
abbrev sp_stack_is_good (K : PySem.W.Frag) (C : Addr) : Sp := spO K C (fun u : FL × List Int => [dFl u.1, dRow u.2]) (fun u => u.2.length ≤ 1000) (fun u => .val (.bool (stackOk u.1.2.1 u.1.2.2.2 u.2)))
theorem ok_stack_is_good {P : Program} {w : World} {K : PySem.W.Frag} {mg : Str → Option Value} {base : Heap} {C f : Addr} {fd : FuncData} (T : Bl mg) (TF : FlT K mg C) (F : L2.Fun K "stack_is_good" "stack_is_good" s_stack_is_good f fd) :
    FnOk P w K mg base (L2.CX P w) 1 f fd ["floor", "stack"] (sp_stack_is_good K C) := by
  refine ok_fn F sc_stack_is_good (fun _ => rfl) (fun cdv A outer s H F0 u Q E X hX cx hr tk hp ho => ?_)
  subst hX
  obtain ⟨⟨m, h, t, bs⟩, r⟩ := u
  dsimp only [dFl] at hp ho ⊢
  refine go_if (td_cmp op_gt (PD.bo (pd_len (PD.tp (pd_var 1)) T.len)) (PD.bo (pd_fldI (pd_var 0) TF.cl TF.nH (lk_high _ _ _))) ob_gt (nomark _)) (fun c => ?_) (fun c => go_on ?_)
  · refine go_ret (pd_bl.eq ?_) ho
    show PyData.bool false = .bool (stackOk h bs r)
    have c' := of_decide_eq_true c
    rw [List.length_map] at c'
    unfold stackOk
    rw [decide_eq_false (by omega)]; rfl
  · have c' := of_decide_eq_false c
    rw [List.length_map] at c'
    refine go_rng2 2 (fun i ss => (∃ z, ss = [.dat (flr m h t (dPrs bs)), .dat (dRow r), z]) ∧ ∀ k, k < i → (r.getD (k + 1) 0, r.getD k 0) ∉ bs) cx pd_int (pd_len (PD.tp (pd_var 1)) T.len) ?_ ⟨⟨_, rfl⟩, fun k hk => by omega⟩ ?_ ?_ T.range
    · rw [List.length_map]; omega
    · rintro i _ hi ⟨⟨z, rfl⟩, hk⟩
      rw [List.length_map] at hi
      refine go_if (td_cmp (op_inD cx.units) (PD.bo (pd_tup (pds_cons (pd_ix (PD.tp (pd_var 1)) (pd_var 2) (at_nat (j := i + 1) ?_ (row_at ?_))) (pds_cons (pd_ix (PD.tp (pd_var 1)) (pd_sub (pd_var 2) pd_int) (at_nat (j := i) ?_ (row_at ?_))) pds_nil))))
        (PD.bo (pd_fldB (pd_var 0) TF.cl TF.nB)) (ob_inD (pl_pr (_, _)) (pl_prs bs) (by decide) (by decide)) rfl) (fun q => ?_) (fun q => go_on (go_end ⟨⟨_, rfl⟩, fun k hk' => ?_⟩))
      · push_cast; omega
      · omega
      · omega
      · omega
      · refine go_ret (pd_bl.eq ?_) ho
        have q := (any_pr bs (r.getD (i + 1) 0, r.getD i 0)).symm.trans q
        show PyData.bool false = .bool (stackOk h bs r)
        unfold stackOk
        rw [rowOk_no (k := i) (by omega) (of_decide_eq_true q), Bool.and_false]
      · have q := (any_pr bs (r.getD (i + 1) 0, r.getD i 0)).symm.trans q
        by_cases e : k = i
        · subst e; exact of_decide_eq_false q
        · exact hk k (by omega)
    · rintro _ ⟨⟨z, rfl⟩, hk⟩
      rw [List.length_map] at hk
      refine go_ret (pd_bl.eq ?_) ho
      show PyData.bool true = .bool (stackOk h bs r)
      unfold stackOk
      rw [decide_eq_true (by omega), rowOk_yes (fun k hk' => hk k (by omega))]; rfl
end G

namespace G
open PySem L2
theorem sc_is_good : FnScope ["floor", "standing", "crates", "stack"] ["floor", "standing"] (defScope s_is_good) := ⟨rfl, rfl, rfl, by decide +kernel, rfl, by decide +kernel, by decide +kernel⟩
abbrev sp_is_good (K : PySem.W.Frag) (C : Addr) : Sp := spO K C (fun u : FL × List (List Int) => [dFl u.1, dSt u.2]) (fun u => u.2.flatten.length ≤ 1000) (fun u => .val (.bool (good u.1.1 u.1.2.1 u.1.2.2.2 u.2)))
theorem ok_is_good {P : Program} {w : World} {K : PySem.W.Frag} {mg : Str → Option Value} {base : Heap} {C f : Addr} {fd : FuncData} (T : Bl mg) (F : L2.Fun K "is_good" "is_good" s_is_good f fd) (TF : FlT K mg C)
    (cC : Cal P w K mg base "crates_of" 1 (sp_crates_of K C)) (cS : Cal P w K mg base "stack_is_good" 1 (sp_stack_is_good K C)) :
    FnOk P w K mg base (L2.CX P w) 2 f fd ["floor", "standing"] (sp_is_good K C) := by
  refine ok_fn F sc_is_good (fun _ => rfl) (fun cdv A outer s H F0 u Q E X hX cx hr tk hp ho => ?_)
  subst hX
  obtain ⟨⟨m, h, t, bs⟩, S⟩ := u
  dsimp only [dFl] at hp ho ⊢
  refine go_asgN 2 cx.nd (pn_call cC hr S (pds_cons (pd_var 1) pds_nil) rfl hp) ?_
  have hz : (isort S.flatten).length ≤ 4000 := by rw [isort_length]; omega
  refine go_if (TW.t (tw_or (td_cmp op_ne (PD.bo (pd_len (PD.tp (pd_var 1)) T.len)) (PD.bo (pd_fldI (pd_var 0) TF.cl TF.nM (lk_many _ _ _))) ob_neI (nomark _))
    fun _ => tw_or1 (td_cmp op_lt (PD.bo (pd_lenSet cx (pl_own 2) hz T.len T.set)) (PD.bo (pd_len (pi_own 2) T.len)) ob_lt (nomark _)))) (fun c => ?_) (fun c => go_on ?_)
  · refine go_ret (pd_bl.eq ?_) ho
    show PyData.bool false = .bool (good m h bs S)
    rw [List.length_map, List.length_map, dcount_lt] at c
    unfold good
    rcases Bool.or_eq_true_iff.mp c with c | c
    · have : ¬ ((S.length : Int) = m) := by simpa using c
      rw [decide_eq_false this]; rfl
    · have : ¬ S.flatten.Nodup := by
        have q : ¬ (isort S.flatten).Nodup := by simpa using c
        exact fun z => q ((nodup_isort _).mpr z)
      rw [decide_eq_false this]; simp
  · rw [List.length_map, List.length_map, dcount_lt] at c
    obtain ⟨c1, c2⟩ := Bool.or_eq_false_iff.mp c
    have h1 : (S.length : Int) = m := by simpa using c1
    have h2 : S.flatten.Nodup := (nodup_isort _).mp (by simpa using c2)
    refine go_if (TW.t (tw_or (td_cmp op_lt (PD.bo (pd_minDf cx (pl_own 2) pd_int T.min)) (PD.bo pd_int) ob_lt (nomark _)) fun _ => tw_or1 (td_cmp op_gt (PD.bo (pd_maxDf cx (pl_own 2) pd_int T.max)) (PD.bo pd_int) ob_gt (nomark _)))) (fun q => ?_) (fun q => go_on ?_)
    · refine go_ret (pd_bl.eq ?_) ho
      show PyData.bool false = .bool (good m h bs S)
      rw [minDf_neg, maxDf_nine, all_isort, all_isort] at q
      have : S.flatten.all (fun c => decide (0 ≤ c) && decide (c ≤ 9)) = false := by
        rw [all_and2]
        rcases Bool.or_eq_true_iff.mp q with q | q
        · rw [of_not_true q, Bool.false_and]
        · rw [of_not_true q, Bool.and_false]
      unfold good
      rw [this]; simp
    · rw [minDf_neg, maxDf_nine, all_isort, all_isort] at q
      obtain ⟨q1, q2⟩ := Bool.or_eq_false_iff.mp q
      have h3 : S.flatten.all (fun c => decide (0 ≤ c) && decide (c ≤ 9)) = true := by
        rw [all_and2]
        rw [of_not_false q1, of_not_false q2]; rfl
      refine go_for 3 (fun i ss => (∃ y z, ss = [.dat (flr m h t (dPrs bs)), .dat (dSt S), y, z]) ∧ ∀ k, k < i → ∀ r, S[k]? = some r → stackOk h bs r = true) cx (PD.itt (pd_var 1)) ⟨⟨_, _, rfl⟩, fun k hk => by omega⟩ ?_ ?_
      · rintro Fp i r _ hi ⟨⟨y, z, rfl⟩, hk⟩
        have hrl : r.length ≤ 1000 := by
          have := flatten_take_le S (i + 1)
          rw [flatten_take hi, List.length_append] at this
          omega
        refine go_if (td_not (td_val (pd_call cS (hr.mono (by decide)) ((m, h, t, bs), r) (pds_cons (pd_var 0) (pds_cons (pd_var 3) pds_nil)) rfl hrl))) (fun q => ?_) (fun q => go_on (go_end ⟨⟨_, _, rfl⟩, fun k hk' r' hr' => ?_⟩))
        · refine go_ret (pd_bl.eq ?_) ho
          show PyData.bool false = .bool (good m h bs S)
          have : S.all (stackOk h bs) = false := List.all_eq_false.mpr ⟨r, List.mem_of_getElem? hi, by simpa using q⟩
          unfold good
          rw [this]; simp
        · by_cases e : k = i
          · subst e
            rw [hi] at hr'; cases hr'
            simpa using q
          · exact hk k (by omega) r' hr'
      · rintro _ ⟨⟨y, z, rfl⟩, hk⟩
        refine go_ret (pd_bl.eq ?_) ho
        show PyData.bool true = .bool (good m h bs S)
        have : S.all (stackOk h bs) = true := List.all_eq_true.mpr fun r hr' => by
          obtain ⟨k, hk', e⟩ := List.mem_iff_getElem.mp hr'
          exact hk k hk' r (by rw [List.getElem?_eq_getElem hk', e])
        unfold good
        rw [this, h3, decide_eq_true h1, decide_eq_true h2]; rfl
end G

namespace G
open PySem L2
theorem sc_behind : FnScope ["standing", "lift", "cut", "row"] ["standing", "lift"] (defScope s_behind) := ⟨rfl, rfl, rfl, by decide +kernel, rfl, by decide +kernel, by decide +kernel⟩
def liftIn (S : List (List Int)) (l : LF) : Prop := l.1 < S.length ∧ l.2.1 < S.length ∧ l.2.2 ≤ (S.getD l.1 []).length
abbrev sp_behind (K : PySem.W.Frag) (C : Addr) : Sp := spO K C (fun u : List (List Int) × LF => [dSt u.1, dLf u.2]) (fun u => liftIn u.1 u.2 ∧ u.1.flatten.length ≤ 1000) (fun u => .val (dSt (behindL u.1 u.2)))
theorem ok_behind {P : Program} {w : World} {K : PySem.W.Frag} {mg : Str → Option Value} {base : Heap} {C f : Addr} {fd : FuncData} (T : Bl mg) (F : L2.Fun K "behind" "behind" s_behind f fd) :
    FnOk P w K mg base (L2.CX P w) 1 f fd ["standing", "lift"] (sp_behind K C) := by
  refine ok_fn F sc_behind (fun _ => rfl) (fun cdv A outer s H F0 u Q E X hX cx hr tk hp ho => ?_)
  subst hX
  obtain ⟨S, a, b, k⟩ := u
  obtain ⟨⟨ha, hb, hk⟩, hz⟩ := hp
  dsimp only at ha hb hk hz ho ⊢
  have l1 := row_le (S := S) a
  have l2 := row_le (S := S) b
  refine go_asg 2 cx.nd (PD.eq (pd_sub (pd_len (PD.tp (pd_ix (PD.tp (pd_var 0)) (pd_ix (PD.tp (pd_var 1)) pd_int (at_nat (j := 0) rfl rfl)) (at_nat (j := a) rfl (st_at ha)))) T.len) (pd_ix (PD.tp (pd_var 1)) pd_int (at_nat (j := 2) rfl rfl))) (x := .int (((S.getD a []).length - k : Nat) : Int)) ?_) ?_
  · rw [List.length_map]; congr 1; dsimp only; omega
  refine go_asgN 3 cx.nd (pn_list (PD.tp (pd_var 0)) T.list) ?_
  refine go_setL 3 (hs0 := rfl) (k := (b : Int)) (m := b) (pd_catT (pd_ix (PD.tp (pd_var 0)) (pd_ix (PD.tp (pd_var 1)) pd_int (at_nat (j := 1) rfl rfl)) (at_nat (j := b) rfl (st_at hb)))
    (pd_slT (pd_ix (PD.tp (pd_var 0)) (pd_ix (PD.tp (pd_var 1)) pd_int (at_nat (j := 0) rfl rfl)) (at_nat (j := a) rfl (st_at ha))) (pod_some (pd_var 2)) pod_none) ?_) (pd_ix (PD.tp (pd_var 1)) pd_int (at_nat (j := 1) rfl rfl)) (ixN_nat (by rw [List.length_map]; exact hb)) ?_
  · rw [cut_from (by rw [List.length_map]; omega), List.length_map, List.length_drop, List.length_map]
    exact sz4000 (by omega)
  rw [cut_from (by rw [List.length_map]; omega)]
  refine go_setL 3 (hs0 := rfl) (k := (a : Int)) (m := a) (pd_slT (pd_ix (PD.tp (pd_var 0)) (pd_ix (PD.tp (pd_var 1)) pd_int (at_nat (j := 0) rfl rfl)) (at_nat (j := a) rfl (st_at ha))) pod_none (pod_some (pd_var 2)))
    (pd_ix (PD.tp (pd_var 1)) pd_int (at_nat (j := 0) rfl rfl)) (ixN_nat (by rw [List.length_set, List.length_map]; exact ha)) ?_
  rw [cut_to (by rw [List.length_map]; omega)]
  refine go_ret (PD.eq (pd_tuple (pl_own 3) T.tuple) ?_) ho
  simp [behindL, dRow, List.map_set, List.map_drop, List.map_take]
end G

namespace G
open PySem L2
theorem sc_all_lifts : FnScope ["floor", "standing", "found", "start", "goal", "many"] ["floor", "standing"] (defScope s_all_lifts) := ⟨rfl, rfl, rfl, by decide +kernel, rfl, by decide +kernel, by decide +kernel⟩
abbrev dLfs (ls : List LF) : List PyData := ls.map dLf
/-- a standing that may be lifted from -/
def fits (f : FL) (S : List (List Int)) : Prop := (S.length : Int) = f.1 ∧ S.flatten.length ≤ 1000 ∧ S.length ≤ 8 ∧ f.2.2.1.toNat ≤ 10 ∧ 0 ≤ f.2.2.1
abbrev sp_all_lifts (K : PySem.W.Frag) (C : Addr) : Sp := spO K C (fun u : FL × List (List Int) => [dFl u.1, dSt u.2]) (fun u => fits u.1 u.2) (fun u => .new (dLfs (liftsOf u.1 u.2)))
theorem ok_all_lifts {P : Program} {w : World} {K : PySem.W.Frag} {mg : Str → Option Value} {base : Heap} {C f : Addr} {fd : FuncData} (T : Bl mg) (F : L2.Fun K "all_lifts" "all_lifts" s_all_lifts f fd) (TF : FlT K mg C)
    (cB : Cal P w K mg base "behind" 1 (sp_behind K C)) (cG : Cal P w K mg base "is_good" 2 (sp_is_good K C)) :
    FnOk P w K mg base (L2.CX P w) 3 f fd ["floor", "standing"] (sp_all_lifts K C) := by
  refine ok_fn F sc_all_lifts (fun _ => rfl) (fun cdv A outer s H F0 u Q E X hX cx hr tk hp ho => ?_)
  subst hX
  obtain ⟨⟨m, h, t, bs⟩, S⟩ := u
  obtain ⟨hm, hz, h8, h10, ht⟩ := hp
  dsimp only [dFl] at hm hz h8 h10 ht ho ⊢
  have hrg : -(2 ^ 62) ≤ m ∧ m < 2 ^ 62 := by omega
  have hmN : m.toNat = S.length := by omega
  let fl : FL := (m, h, t, bs)
  let fA : Nat → List LF := fun a => (List.range S.length).flatMap fun b => liftsAB fl S a b (topN fl S a)
  have lenAB : ∀ a b, (liftsAB fl S a b (topN fl S a)).length ≤ 10 := fun a b => Nat.le_trans (lab_le _ _ _ _ _) (Nat.le_trans (Nat.min_le_left _ _) h10)
  have lenB : ∀ a n, n ≤ 8 → ((List.range n).flatMap fun b => liftsAB fl S a b (topN fl S a)).length ≤ 80 := fun a n hn => by
    have := fm_le (fun b => liftsAB fl S a b (topN fl S a)) 10 (lenAB a) n
    omega
  have lenA : ∀ n, n ≤ 8 → ((List.range n).flatMap fA).length ≤ 640 := fun n hn => by
    have := fm_le fA 80 (fun a => lenB a _ h8) n
    omega
  refine go_asgN 2 cx.nd (pn_lst pds_nil) ?_
  refine go_rng1 3 (fun i ss => ∃ x y z, ss = [.dat (flr m h t (dPrs bs)), .dat (dSt S), .own (dLfs ((List.range i).flatMap fA)), x, y, z]) cx (pd_fldI (pd_var 0) TF.cl TF.nM (lk_many _ _ _)) hrg ⟨_, _, _, rfl⟩ ?_ ?_ T.range
  · rintro a _ ha ⟨x, y, z, rfl⟩
    have haS : a < S.length := by omega
    refine go_rng1 4 (fun j ss => ∃ y z, ss = [.dat (flr m h t (dPrs bs)), .dat (dSt S), .own (dLfs ((List.range a).flatMap fA ++ (List.range j).flatMap fun b => liftsAB fl S a b (topN fl S a))), .dat (.int (a : Int)), y, z]) cx (pd_fldI (pd_var 0) TF.cl TF.nM (lk_many _ _ _)) hrg ⟨y, z, ?_⟩ ?_ ?_ T.range
    · simp
    · rintro b _ hb ⟨y, z, rfl⟩
      have hbS : b < S.length := by omega
      refine go_rng2 (n := (topN fl S a : Nat) + 1) 5 (fun k ss => ∃ z, ss = [.dat (flr m h t (dPrs bs)), .dat (dSt S), .own (dLfs (((List.range a).flatMap fA ++ (List.range b).flatMap fun b => liftsAB fl S a b (topN fl S a)) ++ liftsAB fl S a b k)), .dat (.int (a : Int)), .dat (.int (b : Int)), z]) cx pd_int
        (pd_add (PD.eq (pd_min2 cx.calm (pd_fldI (pd_var 0) TF.cl TF.nS (lk_strong _ _ _)) (pd_len (PD.tp (pd_ix (PD.tp (pd_var 1)) (pd_var 3) (at_nat (j := a) rfl (st_at haS)))) T.len) T.min) ?_) pd_int) ?_ ⟨z, ?_⟩ ?_ ?_ T.range
      · rw [List.length_map]
        congr 1
        unfold topN
        show (if ((S.getD a []).length : Int) < t then ((S.getD a []).length : Int) else t) = ((min t.toNat (S.getD a []).length : Nat) : Int)
        split <;> omega
      · have : topN fl S a ≤ 10 := Nat.le_trans (Nat.min_le_left _ _) h10
        omega
      · simp [liftsAB]
      · rintro k _ hk ⟨z, rfl⟩
        have hkt : k < topN fl S a := by omega
        have hkl : k + 1 ≤ (S.getD a []).length := Nat.le_trans hkt (Nat.min_le_right _ _)
        have e1 : ((1 : Int) + (k : Int)) = ((k + 1 : Nat) : Int) := by omega
        rw [e1]
        have hlen : (((List.range a).flatMap fA ++ (List.range b).flatMap fun b => liftsAB fl S a b (topN fl S a)) ++ liftsAB fl S a b k).length ≤ 1000 := by
          rw [List.length_append, List.length_append]
          have := lenA a (by omega)
          have := lenB a b (by omega)
          have := lab_le fl S a b k
          have : topN fl S a ≤ 10 := Nat.le_trans (Nat.min_le_left _ _) h10
          omega
        refine go_if (TW.t (tw_and (td_cmp op_ne (PD.bo (pd_var 3)) (PD.bo (pd_var 4)) ob_neI (nomark _)) (v := goodF fl (behindL S (a, b, k + 1))) fun c => tw_and1 ?_)) (fun q => ?_) (fun q => go_on (go_end ⟨.dat (.int ((k + 1 : Nat) : Int)), ?_⟩))
        · have hab : a ≠ b := by
            intro e
            subst e
            simp at c
          have hbl : (behindL S (a, b, k + 1)).flatten.length = S.flatten.length := (behind_perm (l := (a, b, k + 1)) haS hbS hab).length_eq
          exact td_val (pd_call cG (hr.mono (by decide)) ((m, h, t, bs), behindL S (a, b, k + 1)) (pds_cons (pd_var 0) (pds_cons (pd_call cB (hr.mono (by decide)) (S, (a, b, k + 1)) (pds_cons (pd_var 1) (pds_cons (pd_tup (pds_cons (pd_var 3) (pds_cons (pd_var 4) (pds_cons (pd_var 5) pds_nil)))) pds_nil)) rfl ⟨⟨haS, hbS, hkl⟩, hz⟩) pds_nil)) rfl (by show _ ≤ 1000; rw [hbl]; exact hz))
        · refine go_append 2 rfl (pd_tup (pds_cons (pd_var 3) (pds_cons (pd_var 4) (pds_cons (pd_var 5) pds_nil)))) (go_on (go_end ⟨.dat (.int ((k + 1 : Nat) : Int)), ?_⟩)) ?_
          · have q' : (decide (a ≠ b) && goodF fl (behindL S (a, b, k + 1))) = true := by
              rw [← q]; congr 1
              by_cases e : a = b
              · subst e; simp
              · have : ¬ ((a : Int) = (b : Int)) := by omega
                simp [e, this]
            rw [lab_succ, if_pos q']
            simp [dLf]
          · rw [List.length_map]
            exact szBig (by omega)
        · have q' : (decide (a ≠ b) && goodF fl (behindL S (a, b, k + 1))) = false := by
            rw [← q]; congr 1
            by_cases e : a = b
            · subst e; simp
            · have : ¬ ((a : Int) = (b : Int)) := by omega
              simp [e, this]
          rw [lab_succ, if_neg (by rw [q']; decide)]
          simp
      · rintro _ ⟨z, rfl⟩
        refine go_end ⟨.dat (.int (b : Int)), z, ?_⟩
        have : (((topN fl S a : Nat) : Int) + 1 - 1).toNat = topN fl S a := by omega
        rw [this, fm_succ]
        simp
    · rintro _ ⟨y, z, rfl⟩
      refine go_end ⟨.dat (.int (a : Int)), y, z, ?_⟩
      rw [hmN, fm_succ]
  · rintro _ ⟨x, y, z, rfl⟩
    refine go_retO 2 rfl (k := ?_)
    rw [hmN]
    exact ho
end G

namespace G
open PySem L2
theorem sc_see_standing : FnScope ["floor", "standing"] ["floor", "standing"] (defScope s_see_standing) := ⟨rfl, rfl, rfl, by decide +kernel, rfl, by decide +kernel, by decide +kernel⟩
abbrev sp_see_standing (K : PySem.W.Frag) (C cNS : Addr) : Sp := spO K C (fun u : FL × List (List Int) => [dFl u.1, dSt u.2]) (fun u => u.2.flatten.length ≤ 1000) (fun u => if goodF u.1 u.2 = true then .val .none else .exc cNS)
theorem ok_see_standing {P : Program} {w : World} {K : PySem.W.Frag} {mg : Str → Option Value} {base : Heap} {C cNS f : Addr} {fd : FuncData} (F : L2.Fun K "see_standing" "see_standing" s_see_standing f fd) (TN : ExT K mg "NoStanding" cNS)
    (cG : Cal P w K mg base "is_good" 2 (sp_is_good K C)) :
    FnOk P w K mg base (L2.CX P w) 3 f fd ["floor", "standing"] (sp_see_standing K C cNS) := by
  refine ok_fn F sc_see_standing (fun _ => rfl) (fun cdv A outer s H F0 u Q E X hX cx hr tk hp ho => ?_)
  subst hX
  obtain ⟨⟨m, h, t, bs⟩, S⟩ := u
  dsimp only [dFl] at hp ho ⊢
  refine go_if (td_not (td_val (pd_call cG hr ((m, h, t, bs), S) (pds_cons (pd_var 0) (pds_cons (pd_var 1) pds_nil)) rfl hp))) (fun q => ?_) (fun q => go_on ?_)
  · rw [if_neg (by rw [show goodF (m, h, t, bs) S = false from of_not_true q]; decide)] at ho
    exact go_raise cx.calm tk TN (fun σ F H' sa => ho H' sa.g.hh)
  · rw [if_pos (of_not_false q)] at ho
    exact go_nil fun σ F H' sa => ho _ F H' sa.g .non
/-- a floor that may be, a standing of not too much -/
def sizes (f : FL) (S : List (List Int)) : Prop := S.flatten.length ≤ 1000 ∧ (2 ≤ f.1 ∧ f.1 ≤ 4) ∧ (1 ≤ f.2.2.1 ∧ f.2.2.1 ≤ 3)
theorem fits_of {f : FL} {S : List (List Int)} (z : sizes f S) (h : goodF f S = true) : fits f S := by
  obtain ⟨h1, h2, h3⟩ := z
  have := good_len h
  exact ⟨this, h1, by omega, by omega, by omega⟩
theorem lift_in {f : FL} {S : List (List Int)} {l : LF} (h : l ∈ liftsOf f S) : liftIn S l := by
  obtain ⟨h1, h2, _, _, h5, _⟩ := mem_liftsOf.mp h
  exact ⟨h1, h2, Nat.le_trans h5 (Nat.min_le_right _ _)⟩
end G

namespace G
open PySem L2
theorem sc_see_bans : FnScope ["bans", "one", "other"] ["bans"] (defScope s_see_bans) := ⟨rfl, rfl, rfl, by decide +kernel, rfl, by decide +kernel, by decide +kernel⟩
abbrev sp_see_bans (K : PySem.W.Frag) (C cNF : Addr) : Sp := spG K C (fun bs : List (Int × Int) => [.bor (.list (dPrs bs))]) (fun _ => True) (fun bs => if bansOk bs = true then .val .none else .exc cNF)
section
variable {P : Program} {w : World} {K : PySem.W.Frag} {mg : Str → Option Value} {base : Heap}
theorem ok_see_bans {C cNF f : Addr} {fd : FuncData} (T : Bl mg) (F : L2.Fun K "see_bans" "see_bans" s_see_bans f fd) (TN : ExT K mg "NoFloor" cNF) :
    FnOk P w K mg base (L2.CX P w) 1 f fd ["bans"] (sp_see_bans K C cNF) := by
  refine ok_fnG F sc_see_bans (fun _ => rfl) (fun cdv A outer s H F0 bs Q E X hX cx hr tk hp ho => ?_)
  subst hX
  refine go_if (td_cmp op_gt (PD.bo (pd_lenB (pb_bor 0) T.len)) (PD.bo pd_int) ob_gt (nomark _)) (fun c => ?_) (fun c => go_on ?_)
  · have c' := of_decide_eq_true c
    rw [List.length_map] at c'
    have : bansOk bs = false := by unfold bansOk; rw [decide_eq_false (by omega)]; rfl
    rw [if_neg (by rw [this]; decide)] at ho
    exact go_raise cx.calm tk TN (fun σ F H' sa => ho H' sa.g.hh)
  · have c' := of_decide_eq_false c
    rw [List.length_map] at c'
    refine go_for2 1 2 (fun i ss => (∃ x y, ss = [.bor (.list (dPrs bs)), x, y]) ∧ ∀ k, k < i → ∀ u, bs[k]? = some u → okPair u = true) cx (pip_bor 0) ⟨⟨_, _, rfl⟩, fun k hk => by omega⟩ ?_ ?_
    · rintro Fp i u _ hi ⟨⟨x, y, rfl⟩, hk⟩
      refine go_if (TW.t (tw_or (td_not (td_chain op_le op_le pd_int (pd_var 1) pd_int (pt_chain op_le op_le pe_sem pe_sem pe_sem rfl))) fun _ => tw_or (td_not (td_chain op_le op_le pd_int (pd_var 2) pd_int (pt_chain op_le op_le pe_sem pe_sem pe_sem rfl))) fun _ => tw_or1 (td_cmp op_eq (PD.bo (pd_var 1)) (PD.bo (pd_var 2)) ob_eqI (nomark _)))) (fun q => ?_) (fun q => go_on (go_end ⟨⟨_, _, rfl⟩, fun k hk' v hv => ?_⟩))
      · have hbad : okPair u = false := by
          unfold okPair
          rcases Bool.or_eq_true_iff.mp q with q | q
          · rw [of_not_true q]; rfl
          · rcases Bool.or_eq_true_iff.mp q with q | q
            · rw [of_not_true q, Bool.and_false, Bool.false_and]
            · have := of_decide_eq_true q
              rw [decide_eq_false (by omega : ¬ u.1 ≠ u.2), Bool.and_false]
        have : bansOk bs = false := by unfold bansOk; rw [List.all_eq_false.mpr ⟨u, List.mem_of_getElem? hi, by rw [hbad]; decide⟩, Bool.and_false]
        rw [if_neg (by rw [this]; decide)] at ho
        exact go_raise cx.calm tk TN (fun σ F H' sa => ho H' sa.g.hh)
      · by_cases e : k = i
        · subst e
          rw [hi] at hv; cases hv
          obtain ⟨q1, q2⟩ := Bool.or_eq_false_iff.mp q
          obtain ⟨q2, q3⟩ := Bool.or_eq_false_iff.mp q2
          unfold okPair
          rw [of_not_false q1, of_not_false q2, decide_eq_true (of_decide_eq_false q3)]; rfl
        · exact hk k (by omega) v hv
    · rintro _ ⟨⟨x, y, rfl⟩, hk⟩
      have : bansOk bs = true := by
        unfold bansOk
        rw [decide_eq_true (by omega), Bool.true_and]
        refine List.all_eq_true.mpr fun u hu => ?_
        obtain ⟨k, hk', e⟩ := List.mem_iff_getElem.mp hu
        exact hk k hk' u (by rw [List.getElem?_eq_getElem hk', e])
      rw [if_pos this] at ho
      exact go_nil fun σ F H' sa => ho _ F H' sa.g .non
theorem sc_init : FnScope ["self", "stacks", "height", "lift", "bans", "one", "other"] ["self", "stacks", "height", "lift", "bans"] (defScope s_Floor_init) := ⟨rfl, rfl, rfl, by decide +kernel, rfl, by decide +kernel, by decide +kernel⟩
theorem putF_cons (f g : Str) (v x : V) (r : List (Str × V)) : putF f v ((g, x) :: r) = if g = f then (g, v) :: r else (g, x) :: putF f v r := rfl
theorem putF_nil (f : Str) (v : V) : putF f v [] = [(f, v)] := rfl
abbrev f1 (m : Int) : List (Str × V) := [("many", .int m)]
abbrev f2 (m h : Int) : List (Str × V) := [("many", .int m), ("high", .int h)]
abbrev f3 (m h t : Int) : List (Str × V) := [("many", .int m), ("high", .int h), ("strong", .int t)]
theorem fl_many (m : Int) : putF "many" (.int m) [] = f1 m := rfl
theorem fl_high (m h : Int) : putF "high" (.int h) (f1 m) = f2 m h := by
  rw [putF_cons, if_neg (by decide +kernel), putF_nil]
theorem fl_strong (m h t : Int) : putF "strong" (.int t) (f2 m h) = f3 m h t := by
  rw [putF_cons, if_neg (by decide +kernel), putF_cons, if_neg (by decide +kernel), putF_nil]
theorem fl_banned (m h t : Int) (b : Addr) : putF "banned" (.ref b) (f3 m h t) = flF m h t b := by
  rw [putF_cons, if_neg (by decide +kernel), putF_cons, if_neg (by decide +kernel), putF_cons, if_neg (by decide +kernel), putF_nil]
theorem okPair_64 {bs : List (Int × Int)} (h : bansOk bs = true) : bs.length < 64 ∧ ∀ u ∈ bs, (0 ≤ u.1 ∧ u.1 < 64) ∧ 0 ≤ u.2 ∧ u.2 < 64 := by
  unfold bansOk at h
  obtain ⟨h1, h2⟩ := Bool.and_eq_true_iff.mp h
  have h1 := of_decide_eq_true h1
  refine ⟨by omega, fun u hu => ?_⟩
  have := List.all_eq_true.mp h2 u hu
  unfold okPair at this
  simp only [Bool.and_eq_true, decide_eq_true_eq] at this
  omega
theorem ok_init {C cNF f : Addr} {fd : FuncData} (T : Bl mg) (TF : FlT K mg C) (F : L2.Fun K "__init__" "Floor.__init__" s_Floor_init f fd) (TN : ExT K mg "NoFloor" cNF)
    (cB : Cal P w K mg base "see_bans" 1 (sp_see_bans K C cNF)) :
    FnOk P w K mg base (L2.CX P w) 2 f fd ["self", "stacks", "height", "lift", "bans"] (spInit K C cNF) := by
  refine F.okX sc_init (fun vs H Q E h => ?_) (fun cdv A outer s H vs Q E hr h => ?_)
  · obtain ⟨f, p, dx, v, F0, H1, rfl, _⟩ := h
    rfl
  · obtain ⟨⟨m, hh, t, bs⟩, p, dx, v, F0, H1, rfl, rfl, hp, hdx, hne, hf, rv, kOk, kEx⟩ := h
    dsimp only at rv kOk kEx ⊢
    refine ⟨_, pss_sem, ?_⟩
    generalize hH : upd (upd H1 dx (.own p)) p (.ins C dx []) = H at hr ⊢
    generalize hX : cxOf (L2.CX P w) P w K mg base ["self", "stacks", "height", "lift", "bans", "one", "other"] "Floor.__init__" (defScope s_Floor_init) f cdv A outer s H E = X
    have cx : Cxt X := by subst hX; exact ⟨rfl, sc_init.nd, passes_of rfl, by have := hr.un; show (A.deeper _).units + 65 < cLine; omega⟩
    have tk : Takes X (dW E) := by subst hX; exact takes_of rfl rfl rfl rfl
    have hrX : Room 1 X.A := by subst hX; exact hr
    have same1 : Same H1 H := by
      subst hH
      exact fun b o e => by rw [upd_ne (ne_of_none e hp), upd_ne (ne_of_none e hdx)]; exact e
    have hpF : F0 p = none := hf.free hp
    have hHp : H p = some (.ins C dx []) := by subst hH; exact upd_same
    -- the slots at the start: self is told by its object
    let P0 : V → Hp → Hp → Prop := fun u F' H' => u = .ref p ∧ F' p = none ∧ H' p = some (.ins C dx [])
    have start : Sat K ⟨C, F0, H1, F0⟩ [.raw P0, .dat (.int m), .dat (.int hh), .dat (.int t), .bor (.list (dPrs bs)), .un, .un] (L2.start ["self", "stacks", "height", "lift", "bans", "one", "other"] [.ref p, .int m, .int hh, .int t, v]) F0 H := by
      refine ⟨⟨same1, Same.refl _, hf.trans same1, fun _ _ _ n => n⟩, Same.refl _, rfl, fun i sd e => ?_, fun i j xs ys hij e1 e2 => ?_⟩
      · match i, e with
        | 0, e => cases e; exact ⟨.ref p, rfl, fun F' H' g => ⟨rfl, g.own p _ hHp hpF, g.hh p _ hHp⟩⟩
        | 1, e => cases e; exact ⟨_, rfl, .int _⟩
        | 2, e => cases e; exact ⟨_, rfl, .int _⟩
        | 3, e => cases e; exact ⟨_, rfl, .int _⟩
        | 4, e => cases e; exact ⟨_, rfl, rv⟩
        | 5, e => cases e; trivial
        | 6, e => cases e; trivial
        | i + 7, e => simp at e
      · match i, e1 with
        | 0, e => cases e
        | 1, e => cases e
        | 2, e => cases e
        | 3, e => cases e
        | 4, e => cases e
        | 5, e => cases e
        | 6, e => cases e
        | i + 7, e => simp at e
    have main : Go X ⟨C, F0, H1, F0⟩ (defBody s_Floor_init) [.raw P0, .dat (.int m), .dat (.int hh), .dat (.int t), .bor (.list (dPrs bs)), .un, .un] (dE Q) := by
      subst hX
      refine go_if (TW.t (tw_or (td_not (td_chain op_le op_le pd_int (pd_var 1) pd_int (pt_chain op_le op_le pe_sem pe_sem pe_sem rfl))) fun _ => tw_or (td_not (td_chain op_le op_le pd_int (pd_var 2) pd_int (pt_chain op_le op_le pe_sem pe_sem pe_sem rfl))) fun _ => tw_or1 (td_not (td_chain op_le op_le pd_int (pd_var 3) pd_int (pt_chain op_le op_le pe_sem pe_sem pe_sem rfl))))) (fun q => ?_) (fun q => go_on ?_)
      · have : floorOk (m, hh, t, bs) = false := by
          unfold floorOk numsOk
          dsimp only
          rcases Bool.or_eq_true_iff.mp q with q | q
          · rw [of_not_true q]; rfl
          · rcases Bool.or_eq_true_iff.mp q with q | q
            · rw [of_not_true q, Bool.and_false]; rfl
            · rw [of_not_true q, Bool.and_false]; rfl
        exact go_raise cx.calm tk TN (fun σ F H' sa => kEx this H' sa.g.hh)
      · obtain ⟨q1, q2⟩ := Bool.or_eq_false_iff.mp q
        obtain ⟨q2, q3⟩ := Bool.or_eq_false_iff.mp q2
        have nok : numsOk m hh t = true := by
          unfold numsOk
          rw [of_not_false q1, of_not_false q2, of_not_false q3]; rfl
        by_cases hb : bansOk bs = true
        · have fok : floorOk (m, hh, t, bs) = true := by unfold floorOk; rw [nok, hb]; rfl
          refine go_drop (pd_callG cB hrX bs (pga_bor (pb_bor 4) pga_nil) (if_pos hb) trivial) ?_
          obtain ⟨b1, b2⟩ := okPair_64 hb
          intro σ F H' sa
          obtain ⟨vp, ep, hP⟩ := sa.slot 0 _ rfl
          obtain ⟨rfl, hpF', hpH'⟩ := hP F H' (Grow.refl sa.fh)
          have em : σ[1]? = some (some (.int m)) := by obtain ⟨u, e, r⟩ := sa.slot 1 _ rfl; cases r; exact e
          have eh : σ[2]? = some (some (.int hh)) := by obtain ⟨u, e, r⟩ := sa.slot 2 _ rfl; cases r; exact e
          have et : σ[3]? = some (some (.int t)) := by obtain ⟨u, e, r⟩ := sa.slot 3 _ rfl; cases r; exact e
          -- the three numbers
          refine ss_of (pss_cons (ps_fld (pv 0) (pv 1) rfl) (pss_cons (ps_fld (pv 0) (pv 2) rfl) (pss_cons (ps_fld (pv 0) (pv 3) rfl) (pss_cons (ps_fld (pv 0) pe_sem rfl) pss_nil)))) ?_
          refine ⟨_, em, _, ep, p, C, dx, [], rfl, hpH', TF.cl, TF.nM, (by show 0 < 1000; decide), ?_⟩
          rw [fl_many]
          refine ⟨_, eh, _, ep, p, C, dx, _, rfl, upd_same, TF.cl, TF.nH, (by show 1 < 1000; decide), ?_⟩
          rw [fl_high, upd_upd]
          refine ⟨_, et, _, ep, p, C, dx, _, rfl, upd_same, TF.cl, TF.nS, (by show 2 < 1000; decide), ?_⟩
          rw [fl_strong, upd_upd]
          -- the bans, over a heap in which p has changed
          have sa0 : Sat K ⟨C, F0, H1, F0⟩ [.un, .dat (.int m), .dat (.int hh), .dat (.int t), .bor (.list (dPrs bs)), .un, .un] σ F H' := sa.weak (.un (Wk.refl _))
          have sa1 := Sat.upd (a := p) (o := .ins C dx (f3 m hh t)) sa0 hp hpF' rfl (fun j es e => by
            match j, e with
            | 0, e => cases e
            | 1, e => cases e
            | 2, e => cases e
            | 3, e => cases e
            | 4, e => cases e
            | 5, e => cases e
            | 6, e => cases e
            | j + 7, e => simp at e) (nx_ins hpH')
          refine (pn_sortedSet (B := ⟨C, F0, H1, F0⟩) (ss := [.un, .dat (.int m), .dat (.int hh), .dat (.int t), .bor (.list (dPrs bs)), .un, .un]) cx (PN.li (PLc.n (pl_lc2 (g := dPr) 5 6 cx (pip_bor 4) (fun Fp u hu s5 H5 C5 cl5 fp5 => pd_tup (pds_cons (pd_var 5) (pds_cons (pd_var 6) pds_nil))) (by have := sizeLine_eq; omega) (by decide)) cx)) b1 b2 T.sorted T.set) σ F _ sa1 _ fun l ws F2 H2 g2 n2 nf2 h2 r2 => ?_
          refine ⟨_, ep, p, C, dx, _, rfl, g2.hh _ _ upd_same, TF.cl, TF.nB, (by show 3 < 1000; decide), ?_⟩
          rw [fl_banned]
          have hpl : p ≠ l := ne_of_none upd_same n2
          have hp2 : F2 p = none := g2.own p _ upd_same hpF'
          -- what is known for good: the list, the floor
          have e2 : Grow F H' (upd (upd F2 l (.lst ws)) p (.ins C dx (flF m hh t l))) (upd H2 p (.ins C dx (flF m hh t l))) → True := fun _ => trivial
          have hH1p : ∀ b o, H1 b = some o → upd H2 p (.ins C dx (flF m hh t l)) b = some o := fun b o e => by
            rw [upd_ne (ne_of_none e hp)]
            exact g2.hh b o (by rw [upd_ne (ne_of_none e hp)]; exact sa.g.hh b o e)
          have nl1 : H1 l = none := by
            cases q : H1 l with
            | none => rfl
            | some o =>
              have : upd H' p (.ins C dx (f3 m hh t)) l = some o := by
                rw [upd_ne (ne_of_none q hp)]; exact sa.g.hh l o q
              rw [n2] at this; cases this
          refine kOk fok (upd (upd F2 l (.lst ws)) p (.ins C dx (flF m hh t l))) _ ⟨hH1p, fun b o e => ?_, fun b o e => ?_, fun b o e n => ?_⟩ ?_
          · rw [upd_ne (ne_of_none e hpF)]
            have e' : F2 b = some o := g2.ff b o (sa.g.ff b o e)
            rw [upd_ne (ne_of_none e' nf2)]; exact e'
          · by_cases hb' : b = p
            · subst hb'; rw [upd_same] at e ⊢; exact e
            · rw [upd_ne hb'] at e ⊢
              by_cases hl : b = l
              · subst hl; rw [upd_same] at e; rw [h2]; exact e
              · rw [upd_ne hl] at e; exact g2.fh b o e
          · rw [upd_ne (ne_of_none e hp), upd_ne (ne_of_none e nl1)]
            exact g2.own b o (by rw [upd_ne (ne_of_none e hp)]; exact sa.g.hh b o e) (sa.g.own b o e n)
          · have sm : Same F2 (upd (upd F2 l (.lst ws)) p (.ins C dx (flF m hh t l))) := fun b o e => by
              rw [upd_ne (ne_of_none e hp2), upd_ne (ne_of_none e nf2)]; exact e
            exact .flr (b := l) upd_same (by rw [upd_ne (Ne.symm hpl), upd_same]) (r2.mono sm)
        · have fok : floorOk (m, hh, t, bs) = false := by
            unfold floorOk; rw [nok]; dsimp only; rw [show bansOk bs = false from Bool.eq_false_iff.mpr hb]; rfl
          exact go_dropX (px_callG tk cB hrX bs (pga_bor (pb_bor 4) pga_nil) (if_neg hb) trivial) (fun σ F H' sa H2 e => kEx fok H2 (sa.g.hh.trans e))
    have rs := main (L2.start ["self", "stacks", "height", "lift", "bans", "one", "other"] [.ref p, .int m, .int hh, .int t, v]) F0 H (by subst hX; exact start)
    subst hX
    exact rs
end
end G

namespace G
open PySem L2
section
variable {P : Program} {w : World} {K : PySem.W.Frag} {mg : Str → Option Value} {base : Heap}
theorem sc_cell_at : FnScope ["script", "k"] ["script", "k"] (defScope s_law_cell_at) := ⟨rfl, rfl, rfl, by decide +kernel, rfl, by decide +kernel, by decide +kernel⟩
abbrev sp_cell_at (K : PySem.W.Frag) (C : Addr) : Sp := spO K C (fun u : List Int × Int => [scr u.1, .int u.2]) (fun u => 0 ≤ u.2) (fun u => .val (.int (cellAt u.1 u.2)))
theorem ok_cell_at {C f : Addr} {fd : FuncData} (T : Bl mg) (F : L2.Fun K "_law_cell_at" "_law_cell_at" s_law_cell_at f fd) :
    FnOk P w K mg base (L2.CX P w) 1 f fd ["script", "k"] (sp_cell_at K C) := by
  refine ok_fn F sc_cell_at (fun _ => rfl) (fun cdv A outer s H F0 u Q E X hX cx hr tk hp ho => ?_)
  subst hX
  obtain ⟨ns, k⟩ := u
  dsimp only at hp ho ⊢
  refine go_if (td_cmp op_lt (PD.bo (pd_var 1)) (PD.bo (pd_len (PIs.it (PD.its (pd_var 0))) T.len)) ob_lt (nomark _)) (fun c => ?_) (fun c => go_on ?_)
  · have c' := of_decide_eq_true c
    rw [List.length_map] at c'
    have hk : k.toNat < ns.length := by omega
    refine go_ret (PD.eq (pd_ix (PIs.it (PD.its (pd_var 0))) (pd_var 1) (at_nat (j := k.toNat) (by omega) (row_at hk))) ?_) ho
    unfold cellAt
    rw [List.getD_eq_getElem?_getD]
  · have c' := of_decide_eq_false c
    rw [List.length_map] at c'
    refine go_ret (PD.eq pd_int ?_) ho
    unfold cellAt
    rw [List.getElem?_eq_none (by omega)]; rfl
end
end G

namespace G
open PySem L2
section
variable {P : Program} {w : World} {K : PySem.W.Frag} {mg : Str → Option Value} {base : Heap}
theorem sc_law_floor : FnScope ["script", "first", "most", "cell", "bans", "k", "pair", "one", "other"] ["script", "first", "most"] (defScope s_law_floor) := ⟨rfl, rfl, rfl, by decide +kernel, rfl, by decide +kernel, by decide +kernel⟩
abbrev sp_law_floor (K : PySem.W.Frag) (C : Addr) : Sp := spO K C (fun u : List Int × Int × Int => [scr u.1, .int u.2.1, .int u.2.2]) (fun u => 0 ≤ u.2.1 ∧ 0 < u.2.2 ∧ u.2.2 ≤ 10) (fun u => .val (dF4 (lawFl u.1 u.2.1 u.2.2)))
theorem ok_law_floor {C f : Addr} {fd : FuncData} (T : Bl mg) (F : L2.Fun K "_law_floor" "_law_floor" s_law_floor f fd) (cA : Cal P w K mg base "_law_cell_at" 1 (sp_cell_at K C)) :
    FnOk P w K mg base (L2.CX P w) 2 f fd ["script", "first", "most"] (sp_law_floor K C) := by
  refine ok_fn F sc_law_floor (fun _ => rfl) (fun cdv A outer s H F0 u Q E X hX cx hr tk hp ho => ?_)
  subst hX
  obtain ⟨ns, first, most⟩ := u
  obtain ⟨h1, h2, h3⟩ := hp
  dsimp only at h1 h2 h3 ho ⊢
  have hdv : ∀ i, CDiv i most := fun i => ⟨h2, by omega⟩
  refine go_asg 3 cx.nd (pd_call cA hr (ns, first) (pds_cons (pd_var 0) (pds_cons (pd_var 1) pds_nil)) rfl h1) ?_
  refine go_asgN 4 cx.nd (pn_lst pds_nil) ?_
  refine go_rng1 5 (fun i ss => ∃ q, q = lawBans ns first most i ∧ ss = [.dat (scr ns), .dat (.int first), .dat (.int most), .dat (.int (cellAt ns first)), .own (dPrs q), .un, .un, .un, .un]) cx (pd_mod (pd_div (pd_var 3) pd_int) pd_int) (by omega) ⟨_, rfl, rfl⟩ ?_ ?_ T.range
  · rintro i _ hi ⟨_, rfl, rfl⟩
    refine go_asg 6 cx.nd (pd_call cA hr (ns, first + 1 + (i : Int)) (pds_cons (pd_var 0) (pds_cons (pd_add (pd_add (pd_var 1) pd_int) (pd_var 5)) pds_nil)) rfl (by show 0 ≤ first + 1 + (i : Int); omega)) ?_
    refine go_asg 7 cx.nd (pd_mod (pd_var 6) (pd_var 2) h2) ?_
    refine go_asg 8 cx.nd (pd_mod (pd_div (pd_var 6) (pd_var 2) (hdv _)) (pd_var 2) h2) ?_
    have hs := lawBans_succ ns first most i
    dsimp only at hs ⊢
    refine go_if (td_cmp op_ne (PD.bo (pd_var 7)) (PD.bo (pd_var 8)) ob_neI (nomark _)) (fun c => ?_) (fun c => go_on (go_end ⟨lawBans ns first most i, ?_, rfl⟩ (by repeat (first | exact Wk.nil | apply Wk.same | apply Wk.un))))
    · rw [if_neg (by simpa using c)] at hs
      refine go_append 4 rfl (pd_tup (pds_cons (pd_var 7) (pds_cons (pd_var 8) pds_nil))) ?_ ?_
      · rw [prs_app, ← hs]
        exact go_on (go_end ⟨_, rfl, rfl⟩ (by repeat (first | exact Wk.nil | apply Wk.same | apply Wk.un)))
      · rw [List.length_map]
        have := lawBans_len ns first most i
        exact szBig (by omega)
    · rw [hs, if_pos (by simpa using c), List.append_nil]
  · rintro _ ⟨q, hq, rfl⟩
    subst hq
    refine go_freeze 4 rfl ?_
    exact go_ret (pd_tup (pds_cons (pd_add pd_int (pd_mod (pd_var 3) pd_int)) (pds_cons (pd_add pd_int (pd_mod (pd_div (pd_var 3) pd_int) pd_int)) (pds_cons (pd_add pd_int (pd_mod (pd_div (pd_var 3) pd_int) pd_int)) (pds_cons (pd_var 4) pds_nil))))) ho
theorem sc_law_good : FnScope ["floor", "standing", "crates", "stack", "k"] ["floor", "standing"] (defScope s_law_good) := ⟨rfl, rfl, rfl, by decide +kernel, rfl, by decide +kernel, by decide +kernel⟩
abbrev sp_law_good (K : PySem.W.Frag) (C : Addr) : Sp := spO K C (fun u : FL × Bool × List (List Int) => [dF4 u.1, dSqs u.2.1 u.2.2]) (fun u => u.2.2.flatten.length ≤ 1000) (fun u => .val (.bool (goodF u.1 u.2.2)))
theorem ok_law_good {C f : Addr} {fd : FuncData} (T : Bl mg) (F : L2.Fun K "_law_good" "_law_good" s_law_good f fd) :
    FnOk P w K mg base (L2.CX P w) 1 f fd ["floor", "standing"] (sp_law_good K C) := by
  refine ok_fn F sc_law_good (fun _ => rfl) (fun cdv A outer s H F0 u Q E X hX cx hr tk hp ho => ?_)
  subst hX
  obtain ⟨⟨m, h, t, bs⟩, tp, S⟩ := u
  dsimp only at hp ho ⊢
  let fl : PyData := dF4 (m, h, t, bs)
  refine go_asgN 2 cx.nd (pn_lst pds_nil) ?_
  refine go_for 3 (fun i ss => ∃ z, ss = [.dat fl, .dat (dSqs tp S), .own (dIs (S.take i).flatten), z, .un]) cx (PD.isqs (pd_var 1)) ⟨_, rfl⟩ ?_ ?_
  · rintro Fp i r _ hi ⟨z, rfl⟩
    refine go_extend 2 rfl (PN.da (pn_list (PIs.it (PD.isq (tp := tp) (r := r) (pd_var 3))) T.list)) (go_end ⟨.dat (dSq tp r), ?_⟩) ?_
    · simp [dIs, flatten_take hi]
    · rw [List.length_map, List.length_map, ← List.length_append, ← flatten_take hi]
      exact sz1000 (Nat.le_trans (flatten_take_le _ _) hp)
  rintro _ ⟨z, rfl⟩
  rw [List.take_length]
  have hz : S.flatten.length ≤ 4000 := by omega
  refine go_if (TW.t (tw_or (td_cmp op_ne (PD.bo (pd_len (PIs.it (PD.isqs (tp := tp) (S := S) (pd_var 1))) T.len)) (PD.bo (pd_ix (PD.tp (pd_var 0)) pd_int (at_nat (j := 0) rfl rfl))) ob_neI (nomark _))
    fun _ => tw_or1 (td_cmp op_lt (PD.bo (pd_lenSet cx (pl_own 2) hz T.len T.set)) (PD.bo (pd_len (pi_own 2) T.len)) ob_lt (nomark _)))) (fun c => ?_) (fun c => go_on ?_)
  · refine go_ret (pd_bl.eq ?_) ho
    show PyData.bool false = .bool (good m h bs S)
    rw [List.length_map, List.length_map, dcount_lt] at c
    unfold good
    rcases Bool.or_eq_true_iff.mp c with c | c
    · have : ¬ ((S.length : Int) = m) := by simpa using c
      rw [decide_eq_false this]; rfl
    · have : ¬ S.flatten.Nodup := by simpa using c
      rw [decide_eq_false this]; simp
  · rw [List.length_map, List.length_map, dcount_lt] at c
    obtain ⟨c1, c2⟩ := Bool.or_eq_false_iff.mp c
    have h1 : (S.length : Int) = m := by simpa using c1
    have h2 : S.flatten.Nodup := by simpa using c2
    let rg : List Int → Prop := fun r => stackOk h bs r = true ∧ r.all (fun c => decide (0 ≤ c) && decide (c ≤ 9)) = true
    refine go_for 3 (fun i ss => (∃ y z, ss = [.dat fl, .dat (dSqs tp S), .own (dIs S.flatten), y, z]) ∧ ∀ k, k < i → ∀ r, S[k]? = some r → rg r) cx (PD.isqs (pd_var 1)) ⟨⟨_, _, rfl⟩, fun k hk => by omega⟩ ?_ ?_
    · rintro Fp i r _ hi ⟨⟨y, z, rfl⟩, hk⟩
      have hrS : r ∈ S := List.mem_of_getElem? hi
      have hrl : r.length ≤ 1000 := by
        have := flatten_take_le S (i + 1)
        rw [flatten_take hi, List.length_append] at this
        omega
      refine go_if (td_cmp op_gt (PD.bo (pd_len (PIs.it (PD.isq (tp := tp) (r := r) (pd_var 3))) T.len)) (PD.bo (pd_ix (PD.tp (pd_var 0)) pd_int (at_nat (j := 1) rfl rfl))) ob_gt (nomark _)) (fun c => ?_) (fun c => go_on ?_)
      · refine go_ret (pd_bl.eq ?_) ho
        have c' := of_decide_eq_true c
        rw [List.length_map] at c'
        dsimp only at c'
        show PyData.bool false = .bool (good m h bs S)
        have : S.all (stackOk h bs) = false := List.all_eq_false.mpr ⟨r, hrS, by unfold stackOk; rw [decide_eq_false (by omega), Bool.false_and]; decide⟩
        unfold good
        rw [this]; simp
      · have c' := of_decide_eq_false c
        rw [List.length_map] at c'
        dsimp only at c'
        refine go_rng1 (n := (r.length : Int)) 4 (fun n ss => (∃ z, ss = [.dat fl, .dat (dSqs tp S), .own (dIs S.flatten), .dat (dSq tp r), z]) ∧ ∀ k, k < n → (0 ≤ r.getD k 0 ∧ r.getD k 0 ≤ 9) ∧ (0 < k → (r.getD k 0, r.getD (k - 1) 0) ∉ bs)) cx
          (PD.eq (pd_len (PIs.it (PD.isq (tp := tp) (r := r) (pd_var 3))) T.len) (by rw [List.length_map])) (by omega) ⟨⟨_, rfl⟩, fun k hk => by omega⟩ ?_ ?_ T.range
        · rintro k _ hkn ⟨⟨z, rfl⟩, hk'⟩
          have hkl : k < r.length := by omega
          refine go_if (TW.t (tw_or (td_not (td_chain op_le op_le pd_int (pd_ix (PIs.it (PD.isq (tp := tp) (r := r) (pd_var 3))) (pd_var 4) (at_nat (j := k) rfl (row_at hkl))) pd_int (pt_chain op_le op_le pe_sem pe_sem pe_sem rfl)))
            (v := decide ((0 : Int) < k) && decide ((r.getD k 0, r.getD (k - 1) 0) ∈ bs)) fun _ => tw_or1 (TW.t (tw_and (td_cmp op_gt (PD.bo (pd_var 4)) (PD.bo pd_int) ob_gt (nomark _)) fun kp => tw_and1 (TD.eq
              (td_cmp (op_inD cx.units) (PD.bo (pd_tup (pds_cons (pd_ix (PIs.it (PD.isq (tp := tp) (r := r) (pd_var 3))) (pd_var 4) (at_nat (j := k) rfl (row_at hkl))) (pds_cons (pd_ix (PIs.it (PD.isq (tp := tp) (r := r) (pd_var 3))) (pd_sub (pd_var 4) pd_int) (at_nat (j := k - 1) ?_ (row_at (by omega)))) pds_nil))))
                (PD.bo (pd_ix (PD.tp (pd_var 0)) pd_int (at_nat (j := 3) rfl rfl))) (ob_inD (pl_pr (_, _)) (pl_prs bs) (by decide) (by decide)) rfl) (any_pr bs (r.getD k 0, r.getD (k - 1) 0))))))) (fun q => ?_) (fun q => go_on (go_end ⟨⟨_, rfl⟩, fun k' hk2 => ?_⟩))
          · have := of_decide_eq_true kp
            omega
          · refine go_ret (pd_bl.eq ?_) ho
            show PyData.bool false = .bool (good m h bs S)
            rcases Bool.or_eq_true_iff.mp q with q | q
            · have hmem : r.getD k 0 ∈ S.flatten := List.mem_flatten.mpr ⟨r, hrS, by rw [List.getD_eq_getElem?_getD, List.getElem?_eq_getElem hkl]; exact List.getElem_mem hkl⟩
              have : S.flatten.all (fun c => decide (0 ≤ c) && decide (c ≤ 9)) = false := List.all_eq_false.mpr ⟨_, hmem, by rw [of_not_true q]; decide⟩
              unfold good
              rw [this]; simp
            · obtain ⟨q1, q2⟩ := Bool.and_eq_true_iff.mp q
              have q1 := of_decide_eq_true q1
              have q2 := of_decide_eq_true q2
              have hk0 : k - 1 + 1 = k := by omega
              have : rowOk bs r = false := rowOk_no (k := k - 1) (by omega) (by rw [hk0]; exact q2)
              have : S.all (stackOk h bs) = false := List.all_eq_false.mpr ⟨r, hrS, by unfold stackOk; rw [this, Bool.and_false]; decide⟩
              unfold good
              rw [this]; simp
          · by_cases e : k' = k
            · subst e
              obtain ⟨q1, q2⟩ := Bool.or_eq_false_iff.mp q
              have q1 := of_not_false q1
              rw [Bool.and_eq_true, decide_eq_true_eq, decide_eq_true_eq] at q1
              refine ⟨q1, fun h0 hm => ?_⟩
              rw [decide_eq_true (by omega : (0 : Int) < k'), decide_eq_true hm] at q2
              cases q2
            · exact hk' k' (by omega)
        · rintro _ ⟨⟨z, rfl⟩, hk'⟩
          rw [Int.toNat_natCast] at hk'
          refine go_end ⟨⟨.dat (dSq tp r), z, rfl⟩, fun k hk2 r' hr' => ?_⟩
          by_cases e : k = i
          · subst e
            rw [hi] at hr'; cases hr'
            refine ⟨?_, List.all_eq_true.mpr fun x hx => ?_⟩
            · unfold stackOk
              rw [decide_eq_true (by omega), rowOk_yes (fun j hj => ?_)]; rfl
              exact (hk' (j + 1) (by omega)).2 (by omega)
            · obtain ⟨j, hj, e⟩ := List.mem_iff_getElem.mp hx
              have := (hk' j hj).1
              rw [List.getD_eq_getElem?_getD, List.getElem?_eq_getElem hj, Option.getD_some, e] at this
              rw [decide_eq_true this.1, decide_eq_true this.2]; rfl
          · exact hk k (by omega) r' hr'
    · rintro _ ⟨⟨y, z, rfl⟩, hk⟩
      refine go_ret (pd_bl.eq ?_) ho
      show PyData.bool true = .bool (good m h bs S)
      have all : ∀ r ∈ S, rg r := fun r hr' => by
        obtain ⟨k, hk', e⟩ := List.mem_iff_getElem.mp hr'
        exact hk k hk' r (by rw [List.getElem?_eq_getElem hk', e])
      have h4 : S.all (stackOk h bs) = true := List.all_eq_true.mpr fun r hr' => (all r hr').1
      have h3 : S.flatten.all (fun c => decide (0 ≤ c) && decide (c ≤ 9)) = true := List.all_eq_true.mpr fun x hx => by
        obtain ⟨r, hr', hxr⟩ := List.mem_flatten.mp hx
        exact List.all_eq_true.mp (all r hr').2 x hxr
      unfold good
      rw [h4, h3, decide_eq_true h1, decide_eq_true h2]; rfl
end
end G

namespace G
open PySem L2
/-! ### the law's standing -/
def nextC (c : Int) : Int := (c * 48271 + 17) % 2147483647
def placeStep (f : FL) (c : Int) (k : Nat) (u : List (List Int) × Option Int) : List (List Int) × Option Int :=
  match u.2 with
  | none => u
  | some x =>
    let sp := ((c / 61 + (k : Int)) % f.1).toNat
    let W := u.1.set sp (u.1.getD sp [] ++ [x])
    if goodF f W = true then (W, none) else u
def place (f : FL) (c x : Int) (R : List (List Int)) : Nat → List (List Int) × Option Int
  | 0 => (R, some x)
  | n + 1 => placeStep f c n (place f c x R n)
def lawSt (f : FL) : Nat → Int → List Int → List (List Int) → List (List Int)
  | 0, _, _, R => R
  | n + 1, c, l, R =>
    let c' := nextC c
    let j := (c' / 7 % (l.length : Int)).toNat
    lawSt f n c' (l.eraseIdx j) (place f c' (l.getD j 0) R f.1.toNat).1
def emptyR (f : FL) : List (List Int) := List.replicate f.1.toNat []
def lawStand (f : FL) (c : Int) (l : List Int) : List (List Int) := lawSt f l.length c l (emptyR f)
theorem set_one {S : List (List Int)} {i : Nat} (x : Int) (h : i < S.length) : (S.set i (S.getD i [] ++ [x])).flatten.Perm (x :: S.flatten) := by
  have h1 := set_perm S i (S.getD i [] ++ [x]) h
  have h2 : ((S.set i (S.getD i [] ++ [x])).flatten ++ S.getD i []).Perm ((x :: S.flatten) ++ S.getD i []) := by
    refine h1.trans ?_
    have e : S.flatten ++ (S.getD i [] ++ [x]) = (S.flatten ++ S.getD i []) ++ [x] := by rw [List.append_assoc]
    rw [e]
    exact List.perm_append_comm
  exact (List.perm_append_right_iff _).mp h2
theorem place_inv {f : FL} {c x : Int} {R : List (List Int)} (hf : 0 < f.1) (hR : (R.length : Int) = f.1) : ∀ n : Nat,
    (place f c x R n).1.length = R.length ∧ (((place f c x R n).2 = some x ∧ (place f c x R n).1 = R) ∨ ((place f c x R n).2 = none ∧ goodF f (place f c x R n).1 = true ∧ (place f c x R n).1.flatten.Perm (x :: R.flatten)))
  | 0 => ⟨rfl, .inl ⟨rfl, rfl⟩⟩
  | n + 1 => by
    obtain ⟨h1, h2⟩ := place_inv (c := c) (x := x) hf hR n
    have hstep : place f c x R (n + 1) = placeStep f c n (place f c x R n) := rfl
    rw [hstep]
    generalize place f c x R n = U at h1 h2
    obtain ⟨W, o⟩ := U
    dsimp only at h1 h2
    rcases h2 with ⟨h2, h3⟩ | ⟨h2, h3⟩
    · subst h2 h3
      have hlt : ((c / 61 + (n : Int)) % f.1).toNat < W.length := by
        have a1 := Int.emod_nonneg (c / 61 + (n : Int)) (show f.1 ≠ 0 by omega)
        have a2 := Int.emod_lt_of_pos (c / 61 + (n : Int)) hf
        omega
      have p := set_one (S := W) x hlt
      unfold placeStep
      dsimp only
      split
      · rename_i hg
        exact ⟨List.length_set, .inr ⟨rfl, hg, p⟩⟩
      · exact ⟨rfl, .inl ⟨rfl, rfl⟩⟩
    · subst h2
      exact ⟨h1, .inr ⟨rfl, h3⟩⟩
theorem erase_perm : ∀ (l : List Int) {j : Nat} (h : j < l.length), (l[j] :: l.eraseIdx j).Perm l
  | [], _, h => absurd h (Nat.not_lt_zero _)
  | _ :: _, 0, _ => .refl _
  | a :: l, j + 1, h => (List.Perm.swap a _ _).trans ((erase_perm l (j := j) (Nat.lt_of_succ_lt_succ h)).cons a)
theorem erase_map : ∀ (l : List Int) (j : Nat), (dIs l).eraseIdx j = dIs (l.eraseIdx j)
  | [], _ => rfl
  | _ :: _, 0 => rfl
  | a :: l, j + 1 => congrArg (PyData.int a :: ·) (erase_map l j)
theorem lawSt_inv {f : FL} (hf : 0 < f.1) : ∀ (n : Nat) (c : Int) (l : List Int) (R : List (List Int)), l.length = n → (R.length : Int) = f.1 → goodF f R = true →
    goodF f (lawSt f n c l R) = true ∧ ∃ rest, ((lawSt f n c l R).flatten ++ rest).Perm (R.flatten ++ l)
  | 0, c, l, R, hl, hR, hg => ⟨hg, l, .refl _⟩
  | n + 1, c, l, R, hl, hR, hg => by
    have hc : nextC c / 7 % (l.length : Int) < l.length := Int.emod_lt_of_pos _ (by omega)
    have hc0 : 0 ≤ nextC c / 7 % (l.length : Int) := Int.emod_nonneg _ (by omega)
    unfold lawSt
    dsimp only
    generalize hj : (nextC c / 7 % (l.length : Int)).toNat = j
    have hjl : j < l.length := by omega
    obtain ⟨p1, p2⟩ := place_inv (f := f) (c := nextC c) (x := l.getD j 0) hf hR f.1.toNat
    have ej : (l.eraseIdx j).length = n := by rw [List.length_eraseIdx_of_lt hjl]; omega
    have lp : (l.getD j 0 :: l.eraseIdx j).Perm l := by
      rw [List.getD_eq_getElem?_getD, List.getElem?_eq_getElem hjl]
      exact erase_perm l hjl
    have hg2 : goodF f (place f (nextC c) (l.getD j 0) R f.1.toNat).1 = true := by
      rcases p2 with ⟨_, p2⟩ | ⟨_, p2, _⟩
      · rw [p2]; exact hg
      · exact p2
    obtain ⟨i1, rest, i2⟩ := lawSt_inv hf n (nextC c) (l.eraseIdx j) _ ej (by rw [p1]; exact hR) hg2
    refine ⟨i1, ?_⟩
    rcases p2 with ⟨_, p2⟩ | ⟨_, _, p2⟩
    · refine ⟨l.getD j 0 :: rest, ?_⟩
      rw [p2] at i2 ⊢
      have a1 : (List.flatten (lawSt f n (nextC c) (l.eraseIdx j) R) ++ l.getD j 0 :: rest).Perm (l.getD j 0 :: (List.flatten (lawSt f n (nextC c) (l.eraseIdx j) R) ++ rest)) := List.perm_middle
      have a2 : (l.getD j 0 :: (R.flatten ++ l.eraseIdx j)).Perm (R.flatten ++ l.getD j 0 :: l.eraseIdx j) := List.perm_middle.symm
      exact a1.trans ((i2.cons _).trans (a2.trans (lp.append_left _)))
    · refine ⟨rest, i2.trans ((p2.append_right _).trans ?_)⟩
      have a2 : (l.getD j 0 :: (R.flatten ++ l.eraseIdx j)).Perm (R.flatten ++ l.getD j 0 :: l.eraseIdx j) := List.perm_middle.symm
      exact a2.trans (lp.append_left _)
theorem empty_good {f : FL} (h1 : 0 ≤ f.1) (h2 : 0 ≤ f.2.1) : goodF f (emptyR f) = true := by
  unfold goodF good emptyR
  have : (List.replicate f.1.toNat ([] : List Int)).flatten = [] := by simp
  rw [this, List.length_replicate, decide_eq_true (by omega)]
  have : (List.replicate f.1.toNat ([] : List Int)).all (stackOk f.2.1 f.2.2.2) = true := by
    rw [List.all_eq_true]
    intro r hr
    rw [List.mem_replicate] at hr
    rw [hr.2]
    unfold stackOk rowOk
    simp [h2]
  rw [this]; simp
theorem stand_good {f : FL} (h1 : 0 < f.1) (h2 : 0 ≤ f.2.1) (c : Int) (l : List Int) : goodF f (lawStand f c l) = true :=
  (lawSt_inv h1 _ c l _ rfl (by unfold emptyR; rw [List.length_replicate]; omega) (empty_good (by omega) h2)).1
theorem stand_perm {f : FL} (h1 : 0 < f.1) (h2 : 0 ≤ f.2.1) (c : Int) (l : List Int) : ∃ rest, ((lawStand f c l).flatten ++ rest).Perm l := by
  have := (lawSt_inv h1 _ c l _ rfl (by unfold emptyR; rw [List.length_replicate]; omega) (empty_good (by omega) h2)).2
  have e : (emptyR f).flatten = [] := by unfold emptyR; simp
  rw [e] at this
  exact this
theorem stand_len {f : FL} (h1 : 0 < f.1) (h2 : 0 ≤ f.2.1) (c : Int) (l : List Int) : (lawStand f c l).flatten.length ≤ l.length := by
  obtain ⟨rest, p⟩ := stand_perm h1 h2 c l
  have := p.length_eq
  rw [List.length_append] at this
  omega
abbrev dOpt : Option Int → PyData
  | none => .none
  | some x => .int x
section
variable {P : Program} {w : World} {K : PySem.W.Frag} {mg : Str → Option Value} {base : Heap}
theorem sc_law_standing : FnScope ["floor", "cell", "crates", "rows", "k", "left", "crate", "spot", "wider", "row"] ["floor", "cell", "crates"] (defScope s_law_standing) := ⟨rfl, rfl, rfl, by decide +kernel, rfl, by decide +kernel, by decide +kernel⟩
abbrev sp_law_standing (K : PySem.W.Frag) (C : Addr) : Sp := spO K C (fun u : FL × Int × List Int => [dF4 u.1, .int u.2.1, .list (dIs u.2.2)]) (fun u => (2 ≤ u.1.1 ∧ u.1.1 ≤ 4) ∧ 0 ≤ u.1.2.1 ∧ u.2.2.length ≤ 100) (fun u => .val (dSt (lawStand u.1 u.2.1 u.2.2)))
theorem eqv_nil (ds : List PyData) : PyData.eqv (.list ds) (.list []) = decide (ds = []) := by
  cases ds with
  | nil => simp [PyData.eqv, PyData.eqvAll]
  | cons d r => simp [PyData.eqv, PyData.eqvAll]
theorem pl_ints (r : List Int) : Pl 1 (.list (dIs r)) := .lst (Pl.map fun _ _ => .int)
theorem ok_law_standing {C f : Addr} {fd : FuncData} (T : Bl mg) (F : L2.Fun K "_law_standing" "_law_standing" s_law_standing f fd) (cG : Cal P w K mg base "_law_good" 1 (sp_law_good K C)) :
    FnOk P w K mg base (L2.CX P w) 2 f fd ["floor", "cell", "crates"] (sp_law_standing K C) := by
  refine ok_fn F sc_law_standing (fun _ => rfl) (fun cdv A outer s H F0 u Q E X hX cx hr tk hp ho => ?_)
  subst hX
  obtain ⟨f, cell, crates⟩ := u
  obtain ⟨⟨hm1, hm2⟩, hh, hlen⟩ := hp
  dsimp only at hm1 hm2 hh hlen ho ⊢
  have hf0 : 0 < f.1 := by omega
  have pdM : ∀ {X' : Cx} {B' : Bs} {ss : List SD} {p p2 : Pos} {j : Nat} {e : Expr}, PD X' B' e ss (dF4 f) → (hx : PlainIx (.Constant (.int 0) j p)) → PD X' B' (.Subscript e (.Constant (.int 0) j p) p2) ss (.int f.1) := fun h hx => pd_ix (PD.tp h) pd_int (at_nat (j := 0) rfl rfl) hx
  refine go_asgC 3 cx (pl_lcR (g := fun _ => dSq false []) 4 cx (pdM (pd_var 0) (by intro _ _; rfl)) (by omega) (fun i hi s5 H5 C5 cl5 fp5 => PN.da (pn_lst pds_nil)) T.range) ?_
  refine go_freeze 3 rfl ?_
  refine go_asgN 5 cx.nd (pn_list (PD.ls (pd_var 2)) T.list) ?_
  have e0 : (.list ((List.range f.1.toNat).map fun _ => dSq false []) : PyData) = dSqs false (emptyR f) := by
    unfold emptyR
    show PyData.list _ = PyData.list _
    rw [List.map_replicate]
    rw [List.map_const', List.length_range]
  have hE : (emptyR f).flatten = [] := by unfold emptyR; simp
  refine go_while (fun m ss => ∃ (c : Int) (l : List Int) (R : List (List Int)), ss = [.dat (dF4 f), .dat (.int c), .dat (.list (dIs crates)), .dat (dSqs false R), .un, .own (dIs l), .un, .un, .un, .un] ∧ l.length = m ∧ (R.length : Int) = f.1 ∧ R.flatten.length + l.length ≤ 100 ∧ lawSt f m c l R = lawStand f cell crates)
    crates.length cx ⟨cell, crates, emptyR f, by rw [← e0]; rfl, rfl, by unfold emptyR; rw [List.length_replicate]; omega, by rw [hE]; simpa using hlen, rfl⟩ ?_
  rintro m _ ⟨c, l, R, rfl, hl, hR, hz, hfin⟩
  refine ⟨!decide (dIs l = []), TD.eq (td_cmp (op_neD cx.u64) (pb_own 5) (PN.bo (pn_lst pds_nil)) (ob_neD (pl_ints l) (Pl.lst (n := 1) fun _ h => nomatch h) (by decide) (by decide)) (nomark _)) (by rw [eqv_nil]), fun c1 => ?_, fun c1 => ?_⟩
  · have hl0 : l ≠ [] := fun e => by subst e; cases c1
    have hpos : 0 < l.length := List.length_pos_iff.mpr hl0
    obtain ⟨m', rfl⟩ : ∃ m', m = m' + 1 := ⟨m - 1, by omega⟩
    have b1 : -(2 ^ 64) < (48271 : Int) ∧ (48271 : Int) < 2 ^ 64 := by decide
    refine go_asg 1 cx.nd (pd_mod (pd_add (pd_mul (pd_var 1) pd_int (Or.inr b1)) pd_int) pd_int) ?_
    show Go _ _ _ [.dat (dF4 f), .dat (.int (nextC c)), .dat (.list (dIs crates)), .dat (dSqs false R), .un, .own (dIs l), .un, .un, .un, .un] _
    have hc : nextC c / 7 % (l.length : Int) < l.length := Int.emod_lt_of_pos _ (by omega)
    have hc0 : 0 ≤ nextC c / 7 % (l.length : Int) := Int.emod_nonneg _ (by omega)
    generalize hj : (nextC c / 7 % (l.length : Int)).toNat = j
    have hjl : j < l.length := by omega
    have hle : (dIs l).length = l.length := List.length_map _
    refine go_pop 6 5 (k := nextC c / 7 % (l.length : Int)) (m := j) cx.nd (by decide) rfl (PD.eq (pd_mod (pd_div (pd_var 1) pd_int) (pd_len (pi_own 5) T.len) (by rw [hle]; omega)) (by rw [hle])) (by rw [hle, show nextC c / 7 % (l.length : Int) = (j : Int) by omega]; exact ixN_nat hjl) (row_at hjl) (by rw [hle]; omega) ?_
      rfl (ps_set cx.nd rfl (Or.inl rfl) (pe_bm PySem.F.plainAttrs_list PySem.F.slot_list_pop PySem.F.type_list_pop mt_popAt (pe_var rfl (by first | exact Or.inl rfl | exact Or.inr (Or.inl rfl) | exact Or.inr (Or.inr rfl)) (by decide) (by decide)) (pa_cons pe_sem pa_nil)))
    have ej : (dIs l).eraseIdx j = dIs (l.eraseIdx j) := erase_map l j
    rw [ej]
    generalize hx : l.getD j 0 = q
    obtain ⟨p1, p2⟩ := place_inv (f := f) (c := nextC c) (x := q) hf0 hR f.1.toNat
    have hflen : ∀ n, (place f (nextC c) q R n).1.flatten.length + (if (place f (nextC c) q R n).2 = none then 0 else 1) = R.flatten.length + 1 := fun n => by
      obtain ⟨_, p2⟩ := place_inv (f := f) (c := nextC c) (x := q) hf0 hR n
      rcases p2 with ⟨p2, p3⟩ | ⟨p2, _, p3⟩
      · rw [p2, p3]; rfl
      · rw [p2, p3.length_eq, List.length_cons]; rfl
    refine go_rng1 4 (fun n ss => ∃ U, U = place f (nextC c) q R n ∧ ss = [.dat (dF4 f), .dat (.int (nextC c)), .dat (.list (dIs crates)), .dat (dSqs false U.1), .un, .own (dIs (l.eraseIdx j)), .dat (dOpt U.2), .un, .un, .un]) cx
      (pdM (pd_var 0) (by intro _ _; rfl)) (by omega) ⟨_, rfl, rfl⟩ ?_ ?_ T.range
    · rintro n _ hn ⟨_, rfl, rfl⟩
      have a1 := Int.emod_nonneg (nextC c / 61 + (n : Int)) (show f.1 ≠ 0 by omega)
      have a2 := Int.emod_lt_of_pos (nextC c / 61 + (n : Int)) hf0
      obtain ⟨r1, r2⟩ := place_inv (f := f) (c := nextC c) (x := q) hf0 hR n
      have r3 := hflen n
      have hstep : place f (nextC c) q R (n + 1) = placeStep f (nextC c) n (place f (nextC c) q R n) := rfl
      generalize hpl : place f (nextC c) q R n = U at r1 r2 r3 hstep
      obtain ⟨W, o⟩ := U
      dsimp only at r1 r2 r3 ⊢
      refine go_asg 7 cx.nd (pd_mod (pd_add (pd_div (pd_var 1) pd_int) (pd_var 4)) (pdM (pd_var 0) (by intro _ _; rfl)) hf0) ?_
      generalize hsp : ((nextC c / 61 + (n : Int)) % f.1) = sp at a1 a2
      have hspl : sp.toNat < W.length := by omega
      refine go_if (td_cmp op_notN (PD.bo (pd_var 6)) (PD.bo pd_non) ob_notN (nomark _)) (fun d1 => ?_) (fun d1 => ?_)
      · cases o with
        | none => cases d1
        | some x' =>
          have hx' : x' = q := by
            rcases r2 with ⟨r2, _⟩ | ⟨r2, _⟩
            · exact Option.some.inj r2
            · cases r2
          subst hx'
          have hstep2 : placeStep f (nextC c) n (W, some x') = if goodF f (W.set sp.toNat (W.getD sp.toNat [] ++ [x'])) = true then (W.set sp.toNat (W.getD sp.toNat [] ++ [x']), none) else (W, some x') := by
            unfold placeStep
            dsimp only
            rw [hsp]
          have wat : (W.map (dSq false))[sp.toNat]? = some (dSq false (W.getD sp.toNat [])) := by
            rw [List.getElem?_map, List.getElem?_eq_getElem hspl, List.getD_eq_getElem?_getD, List.getElem?_eq_getElem hspl] <;> rfl
          have wrl : (W.getD sp.toNat []).length ≤ 1000 := by
            have := row_le (S := W) sp.toNat
            rw [if_neg (by intro z; cases z)] at r3
            omega
          refine go_asgN 8 cx.nd (pn_list (PIs.it (PD.isqs (tp := false) (S := W) (pd_var 3))) T.list) ?_
          refine go_setL 8 (hs0 := rfl) (k := sp) (m := sp.toNat) (PN.da (pn_cat (pd_ix (PIs.it (PD.isqs (tp := false) (S := W) (pd_var 3))) (pd_var 7) (at_nat (j := sp.toNat) (by omega) wat)) (PN.da (pn_lst (pds_cons (pd_var 6) pds_nil))) ?_)) (pd_var 7) (by
              rw [List.length_map, show sp = ((sp.toNat : Nat) : Int) by omega]; exact ixN_nat hspl) ?_
          · refine sz4000 ?_
            rw [List.length_map]
            show _ + 1 ≤ 4000
            omega
          have eW : (W.map (dSq false)).set sp.toNat (.list ((W.getD sp.toNat []).map PyData.int ++ [dOpt (some x')])) = (W.set sp.toNat (W.getD sp.toNat [] ++ [x'])).map (dSq false) := by
            rw [List.map_set]
            simp
          refine go_eq (congrArg (fun q => [SD.dat (dF4 f), .dat (.int (nextC c)), .dat (.list (dIs crates)), .dat (dSqs false W), .dat (.int (n : Int)), .own (dIs (l.eraseIdx j)), .dat (dOpt (some x')), .dat (.int sp), .own q, .un]) eW) ?_
          have hWl : (W.set sp.toNat (W.getD sp.toNat [] ++ [x'])).flatten.length ≤ 1000 := by
            have := (set_one (S := W) x' hspl).length_eq
            rw [this, List.length_cons]
            rw [if_neg (by intro z; cases z)] at r3
            omega
          generalize hV : W.set sp.toNat (W.getD sp.toNat [] ++ [x']) = V at *
          refine go_freeze 8 rfl ?_
          refine go_if (td_val (pd_call cG (hr.mono (by decide)) (f, false, V) (pds_cons (pd_var 0) (pds_cons (pd_var 8) pds_nil)) rfl hWl)) (fun g1 => ?_) (fun g1 => go_on (go_on (go_end ⟨(W, some x'), ?_, rfl⟩ (by repeat (first | exact Wk.nil | apply Wk.same | apply Wk.un)))))
          · refine go_asg 3 cx.nd (pd_var 8) ?_
            refine go_asg 6 cx.nd pd_non (go_on (go_on (go_end ⟨(V, none), ?_, rfl⟩ (by repeat (first | exact Wk.nil | apply Wk.same | apply Wk.un)))))
            rw [hstep, hstep2, if_pos g1] <;> rfl
          · rw [hstep, hstep2, if_neg (by rw [g1]; decide)] <;> rfl
      · refine go_on (go_end ⟨(W, o), ?_, rfl⟩ (by repeat (first | exact Wk.nil | apply Wk.same | apply Wk.un)))
        cases o with
        | none =>
          rw [hstep] <;> rfl
        | some x' => cases d1
    · rintro _ ⟨_, rfl, rfl⟩
      have hle2 : (l.eraseIdx j).length = m' := by rw [List.length_eraseIdx_of_lt hjl]; omega
      refine go_end ⟨m', Nat.lt_succ_self _, nextC c, l.eraseIdx j, (place f (nextC c) q R f.1.toNat).1, rfl, hle2, by rw [p1]; exact hR, ?_, ?_⟩ (by repeat (first | exact Wk.nil | apply Wk.same | apply Wk.un))
      · have := hflen f.1.toNat
        split at this <;> omega
      · rw [← hfin]
        show _ = lawSt f m' (nextC c) (l.eraseIdx ((nextC c / 7 % (l.length : Int)).toNat)) (place f (nextC c) (l.getD ((nextC c / 7 % (l.length : Int)).toNat) 0) R f.1.toNat).1
        rw [hj, hx]
  · have hl0 : l = [] := by
      cases l with
      | nil => rfl
      | cons a b => simp at c1
    subst hl0
    have hm0 : m = 0 := by simpa using hl.symm
    subst hm0
    have hRf : R = lawStand f cell crates := hfin
    refine go_ret (PD.eq (pd_tupleN (PLc.n (pl_lc (g := dRow) 9 cx (PD.isqs (tp := false) (S := R) (pd_var 3)) (fun Fp r hr' s5 H5 C5 cl5 fp5 => pd_tuple (PD.li (pd_var 9)) T.tuple) (by
      have := sizeLine_eq; omega)) cx) T.tuple) ?_) ho
    rw [hRf]
end
end G

namespace G
open PySem L2
section
variable {P : Program} {w : World} {K : PySem.W.Frag} {mg : Str → Option Value} {base : Heap}
theorem sc_law_behind : FnScope ["standing", "lift", "rows", "stack", "taken", "row"] ["standing", "lift"] (defScope s_law_behind) := ⟨rfl, rfl, rfl, by decide +kernel, rfl, by decide +kernel, by decide +kernel⟩
abbrev sp_law_behind (K : PySem.W.Frag) (C : Addr) : Sp := spO K C (fun u : List (List Int) × LF => [dSt u.1, dLf u.2]) (fun u => liftIn u.1 u.2 ∧ u.2.1 ≠ u.2.2.1 ∧ u.1.flatten.length ≤ 1000 ∧ u.1.length ≤ 1000) (fun u => .val (dSt (behindL u.1 u.2)))
theorem row_atL {S : List (List Int)} {j : Nat} (h : j < S.length) : (S.map (dSq false))[j]? = some (dSq false (S.getD j [])) := by
  rw [List.getElem?_map, List.getElem?_eq_getElem h, List.getD_eq_getElem?_getD, List.getElem?_eq_getElem h] <;> rfl
theorem ok_law_behind {C f : Addr} {fd : FuncData} (T : Bl mg) (F : L2.Fun K "_law_behind" "_law_behind" s_law_behind f fd) : FnOk P w K mg base (L2.CX P w) 1 f fd ["standing", "lift"] (sp_law_behind K C) := by
  refine ok_fn F sc_law_behind (fun _ => rfl) (fun cdv A outer s H F0 u Q E X hX cx hr tk hp ho => ?_)
  subst hX
  obtain ⟨S, a, b, k⟩ := u
  obtain ⟨⟨ha, hb, hk⟩, hab, hz, hz2⟩ := hp
  dsimp only at ha hb hk hab hz hz2 ho ⊢
  have l1 := row_le (S := S) a
  have l2 := row_le (S := S) b
  refine go_asgC 2 cx (pl_lc (f := dRow) (g := dSq false) 3 cx (PD.itt (pd_var 0)) (fun Fp r hr' s5 H5 C5 cl5 fp5 => PN.da (pn_list (PD.tp (pd_var 3)) T.list)) (szBig (by omega))) ?_
  refine go_asgN 4 cx.nd (pn_sl (PD.li (pd_ix (d := dSq false (S.getD a [])) (pi_own 2) (pd_ix (PD.tp (pd_var 1)) pd_int (at_nat (j := 0) rfl rfl)) (at_nat (j := a) rfl (row_atL ha))))
    (pod_some (PD.eq (pd_sub (pd_len (PD.ls (pd_ix (d := dSq false (S.getD a [])) (pi_own 2) (pd_ix (PD.tp (pd_var 1)) pd_int (at_nat (j := 0) rfl rfl)) (at_nat (j := a) rfl (row_atL ha)))) T.len) (pd_ix (PD.tp (pd_var 1)) pd_int (at_nat (j := 2) rfl rfl))) (x := .int (((S.getD a []).length - k : Nat) : Int)) (by rw [List.length_map]; congr 1; dsimp only; omega))) pod_none) ?_
  rw [cut_from (by rw [List.length_map]; omega)]
  refine go_freeze 4 rfl ?_
  refine go_setL 2 (hs0 := rfl) (k := (a : Int)) (m := a) (PN.da (pn_sl (PD.li (pd_ix (d := dSq false (S.getD a [])) (pi_own 2) (pd_ix (PD.tp (pd_var 1)) pd_int (at_nat (j := 0) rfl rfl)) (at_nat (j := a) rfl (row_atL ha)))) pod_none
    (pod_some (PD.eq (pd_sub (pd_len (PD.ls (pd_ix (d := dSq false (S.getD a [])) (pi_own 2) (pd_ix (PD.tp (pd_var 1)) pd_int (at_nat (j := 0) rfl rfl)) (at_nat (j := a) rfl (row_atL ha)))) T.len) (pd_ix (PD.tp (pd_var 1)) pd_int (at_nat (j := 2) rfl rfl))) (x := .int (((S.getD a []).length - k : Nat) : Int)) (by rw [List.length_map]; congr 1; dsimp only; omega)))))
    (pd_ix (PD.tp (pd_var 1)) pd_int (at_nat (j := 0) rfl rfl)) (ixN_nat (by rw [List.length_map]; exact ha)) ?_
  rw [cut_to (by rw [List.length_map]; omega)]
  have e1 : (S.map (dSq false)).set a (.list (((S.getD a []).map PyData.int).take ((S.getD a []).length - k))) = (S.set a ((S.getD a []).take ((S.getD a []).length - k))).map (dSq false) := by
    rw [List.map_set, ← List.map_take] <;> rfl
  rw [e1]
  have hU : (S.set a ((S.getD a []).take ((S.getD a []).length - k))).getD b [] = S.getD b [] := getD_set_ne hab _
  have hUl : (S.set a ((S.getD a []).take ((S.getD a []).length - k))).length = S.length := List.length_set
  have hbU : b < (S.set a ((S.getD a []).take ((S.getD a []).length - k))).length := by rw [hUl]; exact hb
  have hbeh : behindL S (a, b, k) = (S.set a ((S.getD a []).take ((S.getD a []).length - k))).set b (S.getD b [] ++ (S.getD a []).drop ((S.getD a []).length - k)) := by
    unfold behindL
    dsimp only
    rw [List.set_comm _ _ (Ne.symm hab)]
  generalize S.set a ((S.getD a []).take ((S.getD a []).length - k)) = U at hU hUl hbU hbeh
  refine go_setL 2 (hs0 := rfl) (k := (b : Int)) (m := b) (PN.da (pn_cat (pd_ix (d := dSq false (S.getD b [])) (pi_own 2) (pd_ix (PD.tp (pd_var 1)) pd_int (at_nat (j := 1) rfl rfl)) (at_nat (j := b) rfl (by rw [← hU]; exact row_atL hbU))) (pd_var 4) (by
    refine sz4000 ?_
    rw [List.length_map, List.length_drop, List.length_map]; omega)))
    (pd_ix (PD.tp (pd_var 1)) pd_int (at_nat (j := 1) rfl rfl)) (ixN_nat (by rw [List.length_map]; exact hbU)) ?_
  have e2 : (U.map (dSq false)).set b (.list ((S.getD b []).map PyData.int ++ ((S.getD a []).map PyData.int).drop ((S.getD a []).length - k))) = (behindL S (a, b, k)).map (dSq false) := by
    rw [hbeh, List.map_set]
    simp [List.map_drop]
  rw [e2]
  refine go_freeze 2 rfl ?_
  have hbl := behind_length S (a, b, k)
  generalize behindL S (a, b, k) = V at ho hbl
  exact go_ret (pd_tupleN (PLc.n (pl_lc (f := dSq false) (g := dRow) 5 cx (PD.isqs (tp := false) (S := V) (pd_var 2)) (fun Fp r hr' s5 H5 C5 cl5 fp5 => pd_tuple (PD.li (pd_var 5)) T.tuple) (szBig (by omega))) cx) T.tuple) ho
end
end G

namespace G
open PySem L2
section
variable {P : Program} {w : World} {K : PySem.W.Frag} {mg : Str → Option Value} {base : Heap}
theorem sc_law_lifts : FnScope ["floor", "standing", "found", "a", "b", "many", "lift"] ["floor", "standing"] (defScope s_law_lifts) := ⟨rfl, rfl, rfl, by decide +kernel, rfl, by decide +kernel, by decide +kernel⟩
abbrev sp_law_lifts (K : PySem.W.Frag) (C : Addr) : Sp := spO K C (fun u : FL × List (List Int) => [dF4 u.1, dSt u.2]) (fun u => fits u.1 u.2) (fun u => .new (dLfs (liftsOf u.1 u.2)))
theorem ok_law_lifts {C f : Addr} {fd : FuncData} (T : Bl mg) (F : L2.Fun K "_law_lifts" "_law_lifts" s_law_lifts f fd) (cB : Cal P w K mg base "_law_behind" 1 (sp_law_behind K C)) (cG : Cal P w K mg base "_law_good" 1 (sp_law_good K C)) :
    FnOk P w K mg base (L2.CX P w) 2 f fd ["floor", "standing"] (sp_law_lifts K C) := by
  refine ok_fn F sc_law_lifts (fun _ => rfl) (fun cdv A outer s H F0 u Q E X hX cx hr tk hp ho => ?_)
  subst hX
  obtain ⟨⟨m, h, t, bs⟩, S⟩ := u
  obtain ⟨hm, hz, h8, h10, ht⟩ := hp
  dsimp only at hm hz h8 h10 ht ho ⊢
  have hrg : -(2 ^ 62) ≤ m ∧ m < 2 ^ 62 := by omega
  have hmN : m.toNat = S.length := by omega
  let fl : FL := (m, h, t, bs)
  let fA : Nat → List LF := fun a => (List.range S.length).flatMap fun b => liftsAB fl S a b (topN fl S a)
  have lenAB : ∀ a b, (liftsAB fl S a b (topN fl S a)).length ≤ 10 := fun a b => Nat.le_trans (lab_le _ _ _ _ _) (Nat.le_trans (Nat.min_le_left _ _) h10)
  have lenB : ∀ a n, n ≤ 8 → ((List.range n).flatMap fun b => liftsAB fl S a b (topN fl S a)).length ≤ 80 := fun a n hn => by
    have := fm_le (fun b => liftsAB fl S a b (topN fl S a)) 10 (lenAB a) n
    omega
  have lenA : ∀ n, n ≤ 8 → ((List.range n).flatMap fA).length ≤ 640 := fun n hn => by
    have := fm_le fA 80 (fun a => lenB a _ h8) n
    omega
  refine go_asgN 2 cx.nd (pn_lst pds_nil) ?_
  refine go_rng1 3 (fun i ss => ∃ q, q = (List.range i).flatMap fA ∧ ss = [.dat (dF4 fl), .dat (dSt S), .own (dLfs q), .un, .un, .un, .un]) cx (pd_ix (PD.tp (pd_var 0)) pd_int (at_nat (j := 0) rfl rfl)) hrg ⟨_, rfl, rfl⟩ ?_ ?_ T.range
  · rintro a _ ha ⟨_, rfl, rfl⟩
    have haS : a < S.length := by omega
    refine go_rng1 4 (fun j ss => ∃ q, q = (List.range a).flatMap fA ++ ((List.range j).flatMap fun b => liftsAB fl S a b (topN fl S a)) ∧ ss = [.dat (dF4 fl), .dat (dSt S), .own (dLfs q), .dat (.int (a : Int)), .un, .un, .un]) cx (pd_ix (PD.tp (pd_var 0)) pd_int (at_nat (j := 0) rfl rfl)) hrg ⟨_, by simp, rfl⟩ ?_ ?_ T.range
    · rintro b _ hb ⟨_, rfl, rfl⟩
      have hbS : b < S.length := by omega
      have hXl : ((List.range a).flatMap fA ++ ((List.range b).flatMap fun b => liftsAB fl S a b (topN fl S a))).length ≤ 900 := by
        rw [List.length_append]
        have := lenA a (by omega)
        have := lenB a b (by omega)
        omega
      have hsc := fm_succ (fun b => liftsAB fl S a b (topN fl S a)) b
      rw [hsc, ← List.append_assoc]
      generalize ((List.range a).flatMap fA ++ ((List.range b).flatMap fun b => liftsAB fl S a b (topN fl S a))) = XX at hXl ⊢
      refine go_rng2 (n := 1 + (topN fl S a : Nat)) 5 (fun k ss => ∃ q, q = XX ++ liftsAB fl S a b k ∧ ss = [.dat (dF4 fl), .dat (dSt S), .own (dLfs q), .dat (.int (a : Int)), .dat (.int (b : Int)), .un, .un]) cx pd_int
        (pd_add pd_int (PD.eq (pd_min2 cx.calm (pd_ix (PD.tp (pd_var 0)) pd_int (at_nat (j := 2) rfl rfl)) (pd_len (PD.tp (pd_ix (PD.tp (pd_var 1)) (pd_var 3) (at_nat (j := a) rfl (st_at haS)))) T.len) T.min) ?_)) ?_ ⟨_, ?_, rfl⟩ ?_ ?_ T.range
      · rw [List.length_map]
        congr 1
        unfold topN
        show (if ((S.getD a []).length : Int) < t then ((S.getD a []).length : Int) else t) = ((min t.toNat (S.getD a []).length : Nat) : Int)
        split <;> omega
      · have : topN fl S a ≤ 10 := Nat.le_trans (Nat.min_le_left _ _) h10
        omega
      · simp [liftsAB]
      · rintro k _ hk ⟨_, rfl, rfl⟩
        have hkt : k < topN fl S a := by omega
        have hkl : k + 1 ≤ (S.getD a []).length := Nat.le_trans hkt (Nat.min_le_right _ _)
        have e1 : ((1 : Int) + (k : Int)) = ((k + 1 : Nat) : Int) := by omega
        rw [e1]
        have hlen : (XX ++ liftsAB fl S a b k).length ≤ 1000 := by
          rw [List.length_append]
          have := lab_le fl S a b k
          have : topN fl S a ≤ 10 := Nat.le_trans (Nat.min_le_left _ _) h10
          omega
        refine go_asg 6 cx.nd (pd_tup (pds_cons (pd_var 3) (pds_cons (pd_var 4) (pds_cons (pd_var 5) pds_nil)))) ?_
        have ls := lab_succ fl S a b k
        refine go_if (TW.t (tw_and (td_cmp op_ne (PD.bo (pd_var 3)) (PD.bo (pd_var 4)) ob_neI (nomark _)) (v := goodF fl (behindL S (a, b, k + 1))) fun c => tw_and1 ?_)) (fun q => ?_) (fun q => go_on (go_end ⟨_, ?_, rfl⟩ (by repeat (first | exact Wk.nil | apply Wk.same | apply Wk.un))))
        · have hab : a ≠ b := by
            intro e
            subst e
            simp at c
          have hbl : (behindL S (a, b, k + 1)).flatten.length = S.flatten.length := (behind_perm (l := (a, b, k + 1)) haS hbS hab).length_eq
          exact td_val (pd_call cG hr (fl, true, behindL S (a, b, k + 1)) (pds_cons (pd_var 0) (pds_cons (pd_call cB hr (S, (a, b, k + 1)) (pds_cons (pd_var 1) (pds_cons (pd_var 6) pds_nil)) rfl ⟨⟨haS, hbS, hkl⟩, hab, hz, by show S.length ≤ 1000; omega⟩) pds_nil)) rfl (by show _ ≤ 1000; rw [hbl]; exact hz))
        · have q' : (decide (a ≠ b) && goodF fl (behindL S (a, b, k + 1))) = true := by
            rw [← q]; congr 1
            by_cases e : a = b
            · subst e; simp
            · have : ¬ ((a : Int) = (b : Int)) := by omega
              simp [e, this]
          rw [if_pos q'] at ls
          refine go_append 2 rfl (pd_var 6) ?_ (by rw [List.length_map]; exact szBig (by omega))
          rw [show ∀ q : List LF, dLfs q ++ [.tuple [.int (a : Int), .int (b : Int), .int ((k + 1 : Nat) : Int)]] = dLfs (q ++ [(a, b, k + 1)]) from fun q => by simp [dLfs]]
          exact go_on (go_end ⟨XX ++ liftsAB fl S a b k ++ [(a, b, k + 1)], by rw [ls, List.append_assoc], rfl⟩ (by repeat (first | exact Wk.nil | apply Wk.same | apply Wk.un)))
        · have q' : (decide (a ≠ b) && goodF fl (behindL S (a, b, k + 1))) = false := by
            rw [← q]; congr 1
            by_cases e : a = b
            · subst e; simp
            · have : ¬ ((a : Int) = (b : Int)) := by omega
              simp [e, this]
          rw [ls, if_neg (by rw [q']; decide), List.append_nil]
      · rintro _ ⟨_, rfl, rfl⟩
        have e0 : (1 + ((topN fl S a : Nat) : Int) - 1).toNat = topN fl S a := by omega
        rw [e0]
        exact go_end ⟨_, rfl, rfl⟩ (by repeat (first | exact Wk.nil | apply Wk.same | apply Wk.un))
    · rintro _ ⟨_, rfl, rfl⟩
      rw [hmN]
      exact go_end ⟨(List.range a).flatMap fA ++ fA a, by rw [fm_succ], rfl⟩ (by repeat (first | exact Wk.nil | apply Wk.same | apply Wk.un))
  · rintro _ ⟨_, rfl, rfl⟩
    refine go_retO 2 rfl (k := ?_)
    rw [hmN]
    exact ho
end
end G

namespace G
open PySem L2
theorem sc_law_crates : FnScope ["standing", "found", "stack"] ["standing"] (defScope s_law_crates) := ⟨rfl, rfl, rfl, by decide +kernel, rfl, by decide +kernel, by decide +kernel⟩
abbrev sp_law_crates (K : PySem.W.Frag) (C : Addr) : Sp := spO K C (fun S : List (List Int) => [dSt S]) (fun S => S.flatten.length ≤ 1000) (fun S => .new (dIs (isort S.flatten)))
theorem ok_law_crates {P : Program} {w : World} {K : PySem.W.Frag} {mg : Str → Option Value} {base : Heap} {C f : Addr} {fd : FuncData} (T : Bl mg) (F : L2.Fun K "_law_crates" "_law_crates" s_law_crates f fd) :
    FnOk P w K mg base (L2.CX P w) 1 f fd ["standing"] (sp_law_crates K C) := by
  refine ok_fn F sc_law_crates (fun _ => rfl) (fun cdv A outer s H F0 S Q E X hX cx hr tk hp ho => ?_)
  subst hX
  refine go_asgN 1 cx.nd (pn_lst pds_nil) ?_
  refine go_for 2 (fun i ss => ∃ z, ss = [.dat (dSt S), .own (dIs (S.take i).flatten), z]) cx (PD.itt (pd_var 0)) ⟨_, rfl⟩ ?_ ?_
  · rintro Fp i r _ hi ⟨z, rfl⟩
    refine go_extend 1 rfl (PN.da (pn_list (PIs.it (PD.itt (pd_var 2))) T.list)) (go_end ⟨.dat (dRow r), ?_⟩) ?_
    · simp [dIs, flatten_take hi]
    · rw [List.length_map, List.length_map, ← List.length_append, ← flatten_take hi]
      exact sz1000 (Nat.le_trans (flatten_take_le _ _) hp)
  · rintro _ ⟨z, rfl⟩
    rw [List.take_length]
    exact go_retN (pn_sorted (pl_own 1) T.sorted (hms := fun l h1 h2 => isort_is h1 h2)) ho
end G

namespace G
open PySem L2
section
variable {P : Program} {w : World} {K : PySem.W.Frag} {mg : Str → Option Value} {base : Heap}
theorem sc_law_whole : FnScope ["found"] ["found"] (defScope s_law_whole) := ⟨rfl, rfl, rfl, by decide +kernel, rfl, by decide +kernel, by decide +kernel⟩
abbrev sp_law_whole (K : PySem.W.Frag) (C : Addr) : Sp := spO K C (fun i : Int => [.int i]) (fun _ => True) (fun _ => .val (.bool true))
theorem ok_law_whole {C f : Addr} {fd : FuncData} (T : Bl mg) (F : L2.Fun K "_law_whole" "_law_whole" s_law_whole f fd) : FnOk P w K mg base (L2.CX P w) 1 f fd ["found"] (sp_law_whole K C) := by
  refine ok_fn F sc_law_whole (fun _ => rfl) (fun cdv A outer s H F0 i Q E X hX cx hr tk hp ho => ?_)
  subst hX
  exact go_ret (PD.eq (pd_and (pd_isi "int" (PD.bo (pd_var 0)) rfl (k := true) (by decide +kernel) T.isinstance T.int) fun _ => pd_one (pd_not (pd_isi "bool" (PD.bo (pd_var 0)) rfl (k := false) (by decide +kernel) T.isinstance T.bool))) rfl) ho
end
end G

namespace G
open PySem L2
section
variable {P : Program} {w : World} {K : PySem.W.Frag} {mg : Str → Option Value} {base : Heap}
theorem sc_law_tuple : FnScope ["found", "due", "k"] ["found", "due"] (defScope s_law_tuple) := ⟨rfl, rfl, rfl, by decide +kernel, rfl, by decide +kernel, by decide +kernel⟩
abbrev sp_law_tuple (K : PySem.W.Frag) (C : Addr) : Sp := spO K C (fun u : List Int × List Int => [dRow u.1, dRow u.2]) (fun u => u.2.length ≤ 1000) (fun u => .val (.bool (decide (u.1 = u.2))))
theorem list_ext {r t : List Int} (h : r.length = t.length) (k : ∀ i, i < t.length → r.getD i 0 = t.getD i 0) : r = t := by
  apply List.ext_getElem h
  intro i h1 h2
  have := k i h2
  rw [List.getD_eq_getElem?_getD, List.getD_eq_getElem?_getD, List.getElem?_eq_getElem h1, List.getElem?_eq_getElem h2] at this
  exact this
theorem ok_law_tuple {C f : Addr} {fd : FuncData} (T : Bl mg) (F : L2.Fun K "_law_tuple" "_law_tuple" s_law_tuple f fd) (cW : Cal P w K mg base "_law_whole" 1 (sp_law_whole K C)) : FnOk P w K mg base (L2.CX P w) 2 f fd ["found", "due"] (sp_law_tuple K C) := by
  refine ok_fn F sc_law_tuple (fun _ => rfl) (fun cdv A outer s H F0 u Q E X hX cx hr tk hp ho => ?_)
  subst hX
  obtain ⟨r, t⟩ := u
  dsimp only at hp ho ⊢
  refine go_if (TW.t (tw_or (td_not (td_val (pd_isi "tuple" (PD.bo (pd_var 0)) rfl (k := true) (by decide +kernel) T.isinstance T.tuple))) fun _ => tw_or1 (td_cmp op_ne (PD.bo (pd_len (PD.tp (pd_var 0)) T.len)) (PD.bo (pd_len (PD.tp (pd_var 1)) T.len)) ob_neI (nomark _)))) (fun c => ?_) (fun c => go_on ?_)
  · rw [List.length_map, List.length_map] at c
    refine go_ret (pd_bl.eq ?_) ho
    have : ¬ r = t := fun e => by subst e; simp at c
    rw [decide_eq_false this]
  · rw [List.length_map, List.length_map] at c
    have hlen : r.length = t.length := by
      have := of_decide_eq_true (of_not_false ((Bool.or_eq_false_iff.mp c).2))
      omega
    refine go_rng1 (n := (t.length : Int)) 2 (fun i ss => (∃ z, ss = [.dat (dRow r), .dat (dRow t), z]) ∧ ∀ k, k < i → r.getD k 0 = t.getD k 0) cx (PD.eq (pd_len (PD.tp (pd_var 1)) T.len) (by rw [List.length_map])) (by omega) ⟨⟨_, rfl⟩, fun k hk => by omega⟩ ?_ ?_ T.range
    · rintro i _ hi ⟨⟨z, rfl⟩, hk⟩
      refine go_if (TW.t (tw_or (td_not (td_val (pd_call cW (hr.mono (by decide)) (r.getD i 0) (pds_cons (pd_ix (PD.tp (pd_var 0)) (pd_var 2) (at_nat (j := i) rfl (row_at (by omega)))) pds_nil) rfl trivial))) fun _ => tw_or1 (td_cmp op_ne (PD.bo (pd_ix (PD.tp (pd_var 0)) (pd_var 2) (at_nat (j := i) rfl (row_at (by omega))))) (PD.bo (pd_ix (PD.tp (pd_var 1)) (pd_var 2) (at_nat (j := i) rfl (row_at (by omega))))) ob_neI (nomark _)))) (fun c => ?_) (fun c => go_on (go_end ⟨⟨_, rfl⟩, fun k hk' => ?_⟩))
      · refine go_ret (pd_bl.eq ?_) ho
        have : ¬ r = t := fun e => by subst e; simp at c
        rw [decide_eq_false this]
      · have c2 := of_decide_eq_true (of_not_false ((Bool.or_eq_false_iff.mp c).2))
        by_cases e : k = i
        · subst e; exact c2
        · exact hk k (by omega)
    · rintro _ ⟨⟨z, rfl⟩, hk⟩
      rw [Int.toNat_natCast] at hk
      refine go_ret (pd_bl.eq ?_) ho
      rw [decide_eq_true (list_ext hlen hk)]
end
end G

namespace G
open PySem L2
section
variable {P : Program} {w : World} {K : PySem.W.Frag} {mg : Str → Option Value} {base : Heap}
theorem sc_law_stands : FnScope ["found", "due", "k"] ["found", "due"] (defScope s_law_stands) := ⟨rfl, rfl, rfl, by decide +kernel, rfl, by decide +kernel, by decide +kernel⟩
abbrev sp_law_stands (K : PySem.W.Frag) (C : Addr) : Sp := spO K C (fun u : List (List Int) × List (List Int) => [dSt u.1, dSt u.2]) (fun u => u.2.length ≤ 1000 ∧ u.2.flatten.length ≤ 1000) (fun u => .val (.bool (decide (u.1 = u.2))))
theorem list_ext2 {r t : List (List Int)} (h : r.length = t.length) (k : ∀ i, i < t.length → r.getD i [] = t.getD i []) : r = t := by
  apply List.ext_getElem h
  intro i h1 h2
  have := k i h2
  rw [List.getD_eq_getElem?_getD, List.getD_eq_getElem?_getD, List.getElem?_eq_getElem h1, List.getElem?_eq_getElem h2] at this
  exact this
theorem ok_law_stands {C f : Addr} {fd : FuncData} (T : Bl mg) (F : L2.Fun K "_law_stands" "_law_stands" s_law_stands f fd) (cT : Cal P w K mg base "_law_tuple" 2 (sp_law_tuple K C)) : FnOk P w K mg base (L2.CX P w) 3 f fd ["found", "due"] (sp_law_stands K C) := by
  refine ok_fn F sc_law_stands (fun _ => rfl) (fun cdv A outer s H F0 u Q E X hX cx hr tk hp ho => ?_)
  subst hX
  obtain ⟨r, t⟩ := u
  dsimp only at hp ho ⊢
  obtain ⟨hp, hp2⟩ := hp
  refine go_if (TW.t (tw_or (td_not (td_val (pd_isi "tuple" (PD.bo (pd_var 0)) rfl (k := true) (by decide +kernel) T.isinstance T.tuple))) fun _ => tw_or1 (td_cmp op_ne (PD.bo (pd_len (PD.tp (pd_var 0)) T.len)) (PD.bo (pd_len (PD.tp (pd_var 1)) T.len)) ob_neI (nomark _)))) (fun c => ?_) (fun c => go_on ?_)
  · rw [List.length_map, List.length_map] at c
    refine go_ret (pd_bl.eq ?_) ho
    have : ¬ r = t := fun e => by subst e; simp at c
    rw [decide_eq_false this]
  · rw [List.length_map, List.length_map] at c
    have hlen : r.length = t.length := by
      have := of_decide_eq_true (of_not_false ((Bool.or_eq_false_iff.mp c).2))
      omega
    refine go_rng1 (n := (t.length : Int)) 2 (fun i ss => (∃ z, ss = [.dat (dSt r), .dat (dSt t), z]) ∧ ∀ k, k < i → r.getD k [] = t.getD k []) cx (PD.eq (pd_len (PD.tp (pd_var 1)) T.len) (by rw [List.length_map])) (by omega) ⟨⟨_, rfl⟩, fun k hk => by omega⟩ ?_ ?_ T.range
    · rintro i _ hi ⟨⟨z, rfl⟩, hk⟩
      have hl1 := row_le (S := t) i
      refine go_if (td_not (td_val (pd_call cT hr (r.getD i [], t.getD i []) (pds_cons (pd_ix (PD.tp (pd_var 0)) (pd_var 2) (at_nat (j := i) rfl (st_at (by omega)))) (pds_cons (pd_ix (PD.tp (pd_var 1)) (pd_var 2) (at_nat (j := i) rfl (st_at (by omega)))) pds_nil)) rfl (by show (t.getD i []).length ≤ 1000; omega)))) (fun c => ?_) (fun c => go_on (go_end ⟨⟨_, rfl⟩, fun k hk' => ?_⟩))
      · refine go_ret (pd_bl.eq ?_) ho
        have : ¬ r = t := fun e => by subst e; simp at c
        rw [decide_eq_false this]
      · have c2 := of_decide_eq_true (of_not_false c)
        by_cases e : k = i
        · subst e; exact c2
        · exact hk k (by omega)
    · rintro _ ⟨⟨z, rfl⟩, hk⟩
      rw [Int.toNat_natCast] at hk
      refine go_ret (pd_bl.eq ?_) ho
      rw [decide_eq_true (list_ext2 hlen hk)]
end
end G

namespace G
open PySem L2
section
variable {P : Program} {w : World} {K : PySem.W.Frag} {mg : Str → Option Value} {base : Heap}
theorem sc_see_few : FnScope ["standing"] ["standing"] (defScope s_see_few) := ⟨rfl, rfl, rfl, by decide +kernel, rfl, by decide +kernel, by decide +kernel⟩
abbrev sp_see_few (K : PySem.W.Frag) (C cTM : Addr) : Sp := spO K C (fun S : Stg => [dSt S]) (fun S => S.flatten.length ≤ 1000) (fun S => if S.flatten.length ≤ 4 then .val .none else .exc cTM)
theorem ok_see_few {C cTM f : Addr} {fd : FuncData} {tm : Nat} (T : Bl mg) (F : L2.Fun K "see_few" "see_few" s_see_few f fd) (hM : mg "MOST" = some (Value.int 4 tm)) (TM : ExT K mg "TooMany" cTM) (cC : Cal P w K mg base "crates_of" 1 (sp_crates_of K C)) :
    FnOk P w K mg base (L2.CX P w) 2 f fd ["standing"] (sp_see_few K C cTM) := by
  refine ok_fn F sc_see_few (fun _ => rfl) (fun cdv A outer s H F0 S Q E X hX cx hr tk hp ho => ?_)
  subst hX
  have hl : (dIs (isort S.flatten)).length = S.flatten.length := by rw [List.length_map, isort_length]
  refine go_if (td_cmp op_gt (PD.bo (pd_len (PN.it (pn_call cC hr S (pds_cons (pd_var 0) pds_nil) rfl hp)) T.len)) (PD.bo (pd_glob (v := .int 4) hM ⟨tm, rfl⟩ (fun _ => .int 4))) ob_gt (nomark _)) (fun q => ?_) (fun q => go_on ?_)
  · have q := of_decide_eq_true q
    rw [hl] at q
    rw [if_neg (by omega)] at ho
    exact go_raise cx.calm tk TM (fun σ F H' sa => ho H' sa.g.hh)
  · have q := of_decide_eq_false q
    rw [hl] at q
    rw [if_pos (by omega)] at ho
    exact go_nil fun σ F H' sa => ho _ F H' sa.g .non
theorem sc_told_heights : FnScope ["floor", "goal", "found", "row", "at", "here", "lift", "there"] ["floor", "goal"] (defScope s_told_heights) := ⟨rfl, rfl, rfl, by decide +kernel, rfl, by decide +kernel, by decide +kernel⟩
abbrev sp_told (K : PySem.W.Frag) (C : Addr) (w : World) : Sp := spO K C (fun u : FL × Stg => [dFl u.1, dSt u.2]) (fun u => Few u.1 u.2) (fun u => .raw fun _ v F _ => frP K C w (dicV (bfs u.1 u.2)) v F)
theorem few_fits {f : FL} {g S : Stg} (wf : Few f g) (h : goodF f S = true) (p : S.flatten.Perm g.flatten) : fits f S := by
  have l := p.length_eq
  have := wf.cr
  exact fits_of ⟨by omega, wf.fl, wf.li⟩ h
theorem nbrs_take {f : FL} {S : Stg} {k : Nat} {l : LF} (h : (liftsOf f S)[k]? = some l) (n : Int) (es : List Ent) : insA n es ((nbrs f S).take (k + 1)) = insE n (insA n es ((nbrs f S).take k)) (behindL S l) := by
  rw [List.take_add_one]
  unfold nbrs
  rw [List.getElem?_map, h]
  unfold insA
  rw [List.foldl_append]
  rfl
theorem take_pre (n : Int) (es : List Ent) (Ts : List Stg) (k : Nat) : ∃ more, insA n es Ts = insA n es (Ts.take k) ++ more := by
  obtain ⟨more, e⟩ := insA_pre n (Ts.drop k) (insA n es (Ts.take k))
  refine ⟨more, ?_⟩
  rw [← e]
  unfold insA
  rw [← List.foldl_append, List.take_append_drop]
theorem dicV_snoc (es : List Ent) (T : Stg) (n : Int) : dicV (es ++ [(T, n)]) = dicV es ++ [(T, .int n)] := by
  unfold dicV
  rw [List.map_append]
  rfl
set_option maxHeartbeats 2000000 in
theorem ok_told {C f : Addr} {fd : FuncData} (T : Bl mg) (F : L2.Fun K "told_heights" "told_heights" s_told_heights f fd) (cA : Cal P w K mg base "all_lifts" 3 (sp_all_lifts K C)) (cB : Cal P w K mg base "behind" 1 (sp_behind K C)) :
    FnOk P w K mg base (L2.CX P w) 4 f fd ["floor", "goal"] (sp_told K C w) := by
  refine ok_fn F sc_told_heights (fun _ => rfl) (fun cdv A outer s H F0 u Q E X hX cx hr tk wf ho => ?_)
  subst hX
  obtain ⟨f, g⟩ := u
  dsimp only at wf ho ⊢
  refine go_asgDic1 (vv := .int 0) 2 cx (pd_var 1) pd_int ?_
  refine go_asgN 3 cx.nd (pn_lst (pds_cons (pd_var 1) pds_nil)) ?_
  refine go_asg 4 cx.nd pd_int ?_
  refine go_while (fun m ss => ∃ es i x y z, m + i = bfsN ∧ bfsGo f m es i = bfs f g ∧ BI f g es i ∧ ss = [.dat (dFl f), .dat (dSt g), .dic w (dicV es), .own (es.map fun q => dSt q.1), .dat (.int ((i : Nat) : Int)), x, y, z]) bfsN cx ⟨[(g, 0)], 0, _, _, _, rfl, rfl, bi_start wf.gd, rfl⟩ ?_
  rintro m _ ⟨es, i, x, y, z, hm, hb, bi, rfl⟩
  have hl := bi_len bi wf
  refine ⟨_, td_cmp op_lt (PD.bo (pd_var 4)) (PD.bo (pd_len (pi_own 3) T.len)) ob_lt (nomark _), fun q => ?_, fun q => ?_⟩
  · have q := of_decide_eq_true q
    rw [List.length_map] at q
    have hi : i < es.length := by omega
    obtain ⟨⟨S, n⟩, hq⟩ : ∃ q, es[i]? = some q := ⟨_, List.getElem?_eq_getElem hi⟩
    obtain ⟨m, rfl⟩ : ∃ m', m = m' + 1 := ⟨m - 1, by omega⟩
    have hmem : (S, n) ∈ es := List.mem_of_getElem? hq
    obtain ⟨hg, hp⟩ := bi.st _ hmem
    dsimp only at hg hp
    have b2 := bi_step bi hq
    dsimp only at b2
    have hl2 := bi_len b2 wf
    have hz : S.flatten.length ≤ 1000 := by
      have := hp.length_eq
      have := wf.cr
      omega
    refine go_asg 5 cx.nd (d := dSt S) (pd_ix (pi_own 3) (pd_var 4) (at_nat rfl (by rw [List.getElem?_map, hq]; rfl))) ?_
    refine go_asg 4 cx.nd (pd_add (pd_var 4) pd_int) ?_
    refine go_for (xs := liftsOf f S) (f := dLf) 6 (fun k ss => ∃ y z, ss = [.dat (dFl f), .dat (dSt g), .dic w (dicV (insA (n + 1) es ((nbrs f S).take k))), .own ((insA (n + 1) es ((nbrs f S).take k)).map fun q => dSt q.1), .dat (.int ((i : Nat) + 1 : Int)), .dat (dSt S), y, z]) cx
      (PN.its (pn_call cA (hr.mono (by decide)) (f, S) (pds_cons (pd_var 0) (pds_cons (pd_var 5) pds_nil)) rfl (few_fits wf hg hp))) ⟨_, _, rfl⟩ ?_ ?_
    · rintro Fp k l _ hk ⟨y, z, rfl⟩
      have hlm : l ∈ liftsOf f S := List.mem_of_getElem? hk
      obtain ⟨more, em⟩ := take_pre (n + 1) es (nbrs f S) k
      have em1 := nbrs_take hk (n + 1) es
      obtain ⟨more0, em0⟩ := insA_pre (n + 1) ((nbrs f S).take k) es
      have nd : (keysE (insA (n + 1) es ((nbrs f S).take k))).Nodup := insA_nd bi.nd
      have hin : (S, n) ∈ insA (n + 1) es ((nbrs f S).take k) := by rw [em0]; exact List.mem_append_left _ hmem
      have hlen : (insA (n + 1) es ((nbrs f S).take k)).length ≤ bfsN := by
        rw [em, List.length_append] at hl2
        omega
      generalize insA (n + 1) es ((nbrs f S).take k) = ek at em1 nd hin hlen ⊢
      refine go_asg 7 cx.nd (pd_call cB (hr.mono (by decide)) (S, l) (pds_cons (pd_var 5) (pds_cons (pd_var 6) pds_nil)) rfl ⟨lift_in hlm, hz⟩) ?_
      refine go_if (td_notInDic (kvs := dicV ek) (S := behindL S l) cx.u64 (pd_var 7) (pdc_dic 2)) (fun q2 => ?_) (fun q2 => go_on ?_)
      · rw [valV_some] at q2
        have hnk : behindL S l ∉ keysE ek := by simpa using q2
        refine go_setDic (vv := .int (n + 1)) (S := behindL S l) 2 cx rfl (pd_add (pd_getDic (S := S) (n := n) cx.u64 (pdc_dic 2) (pd_var 5) (valV_at nd hin)) pd_int) (pd_var 7) (valK_none.mpr (by rw [dicV_keys]; exact hnk)) ?_ ?_
        · unfold dicV; rw [List.length_map]
          exact szBig (by unfold bfsN at hlen; omega)
        · refine go_append 3 rfl (pd_var 7) (go_on (go_end ⟨.dat (dLf l), .dat (dSt (behindL S l)), ?_⟩)) ?_
          · rw [em1]
            unfold insE
            rw [if_neg hnk, dicV_snoc, List.map_append]
            rfl
          · rw [List.length_map]
            exact szBig (by unfold bfsN at hlen; omega)
      · rw [valV_some] at q2
        have hnk : behindL S l ∈ keysE ek := by simpa using q2
        refine go_end ⟨.dat (dLf l), .dat (dSt (behindL S l)), ?_⟩
        rw [em1]
        unfold insE
        rw [if_pos hnk]
        rfl
    · rintro _ ⟨y, z, rfl⟩
      have ef : (nbrs f S).take (liftsOf f S).length = nbrs f S := List.take_of_length_le (by unfold nbrs; rw [List.length_map]; exact Nat.le_refl _)
      rw [ef]
      refine go_end ⟨m, by omega, _, i + 1, _, _, _, by omega, ?_, b2, rfl⟩
      rw [← hb, bfsGo_on hq]
  · have q := of_decide_eq_false q
    rw [List.length_map] at q
    have e : bfsGo f m es i = es := bfsGo_end (by omega)
    rw [← hb, e] at ho
    refine go_weak (ss' := [.dat (dFl f), .dat (dSt g), .dic w (dicV es), .own (es.map fun q => dSt q.1), .dat (.int ((i : Nat) : Int)), .un, .un, .un]) (.same (.same (.same (.same (.same (.un (.un (.un .nil)))))))) ?_
    refine go_frzD 2 rfl ?_
    exact go_retFro 2 rfl (fun v F H g r => ho v F H g r)
end
end G

namespace G
open PySem L2
theorem eqv_intsP (r t : List Int) : PyData.eqv (.list (dIs r)) (.list (dIs t)) = decide (r = t) := by
  rw [PyData.eqv]; exact eqv_ints r t
theorem pl_intsP (r : List Int) : Pl 1 (.list (dIs r)) := .lst (Pl.map fun _ _ => .int)
theorem st_ne {f : FL} {S : Stg} (h2 : 2 ≤ f.1) (h : goodF f S = true) : S ≠ [] := fun e => by
  have := good_len h
  subst e
  simp at this
  omega
theorem keys_ok {f : FL} {g : Stg} (w : Few f g) : SrtOk ((dicV (bfs f g)).map fun q => stD q.1) := by
  have e : ((dicV (bfs f g)).map fun q => stD q.1) = (keysE (bfs f g)).map stD := by unfold dicV; rw [List.map_map, List.map_map]; rfl
  rw [e]
  exact srtOk_st fun S hS => st_ne w.fl.1 (key_good w hS).1
theorem keys_srt (f : FL) (g : Stg) : srtD ((dicV (bfs f g)).map fun q => stD q.1) = (srtS (keysE (bfs f g))).map stD := by
  have e : ((dicV (bfs f g)).map fun q => stD q.1) = (keysE (bfs f g)).map stD := by unfold dicV; rw [List.map_map, List.map_map]; rfl
  rw [e, srtD_st]
theorem lifts_le {f : FL} {S : Stg} (h : fits f S) : (liftsOf f S).length ≤ 1000 := by
  obtain ⟨_, _, h8, h10, _⟩ := h
  have l1 : ∀ a b, (liftsAB f S a b (topN f S a)).length ≤ 10 := fun a b => Nat.le_trans (lab_le _ _ _ _ _) (Nat.le_trans (Nat.min_le_left _ _) h10)
  have l2 : ∀ a, ((List.range S.length).flatMap fun b => liftsAB f S a b (topN f S a)).length ≤ 80 := fun a => by
    have := fm_le (fun b => liftsAB f S a b (topN f S a)) 10 (l1 a) S.length
    omega
  have := fm_le (fun a => (List.range S.length).flatMap fun b => liftsAB f S a b (topN f S a)) 80 l2 S.length
  unfold liftsOf
  omega
/-- a height is not above the place -/
def HI (es : List Ent) : Prop := ∀ (i : Nat) (q : Ent), es[i]? = some q → q.2 ≤ (i : Int)
theorem hi_ins {n : Int} {T : Stg} {es : List Ent} (h : HI es) (hn : n ≤ es.length) : HI (insE n es T) ∧ n ≤ (insE n es T).length := by
  unfold insE
  split
  · exact ⟨h, hn⟩
  · refine ⟨fun i q hq => ?_, by rw [List.length_append]; omega⟩
    by_cases hi : i < es.length
    · rw [List.getElem?_append_left hi] at hq
      exact h i q hq
    · have hl := (List.getElem?_eq_some_iff.mp hq).1
      rw [List.length_append, List.length_singleton] at hl
      have : i = es.length := by omega
      subst this
      rw [List.getElem?_append_right (Nat.le_refl _), Nat.sub_self] at hq
      rw [← Option.some.inj hq]
      exact hn
theorem hi_insA {n : Int} : ∀ {Ts : List Stg} {es : List Ent}, HI es → n ≤ es.length → HI (insA n es Ts)
  | [], _, h, _ => h
  | T :: Ts, es, h, hn => by
    obtain ⟨a, b⟩ := hi_ins (T := T) h hn
    exact hi_insA (Ts := Ts) a b
theorem hi_go {f : FL} : ∀ (m : Nat) (es : List Ent) (i : Nat), HI es → HI (bfsGo f m es i)
  | 0, _, _, h => h
  | m + 1, es, i, h => by
    cases e : es[i]? with
    | none => rw [bfsGo, e]; exact h
    | some q =>
      rw [bfsGo_on e]
      have h1 := h i q e
      have h2 := (List.getElem?_eq_some_iff.mp e).1
      exact hi_go m _ _ (hi_insA h (by omega))
theorem hgt_le {f : FL} {g S : Stg} (w : Few f g) (h : S ∈ keysE (bfs f g)) : hgt f g S ≤ 160000 := by
  obtain ⟨j, hj, e⟩ := List.mem_iff_getElem.mp (hgt_in w h)
  have h1 := hi_go (f := f) bfsN [(g, 0)] 0 (fun i q hq => by
    have hi := (List.getElem?_eq_some_iff.mp hq).1
    have : i = 0 := by simp at hi; omega
    subst this
    rw [← Option.some.inj hq]
    show (0 : Int) ≤ ((0 : Nat) : Int)
    decide) j (S, hgt f g S) (by rw [← e]; exact List.getElem?_eq_getElem hj)
  have h2 := bi_len (bfs_bi w) w
  unfold bfsN at h2
  have h3 : j < (bfs f g).length := hj
  have h4 : hgt f g S ≤ (j : Int) := h1
  omega
section
variable {P : Program} {w : World} {K : PySem.W.Frag} {mg : Str → Option Value} {base : Heap}
theorem sc_heights : FnScope ["floor", "goal", "found", "standing"] ["floor", "goal"] (defScope s_heights) := ⟨rfl, rfl, rfl, by decide +kernel, rfl, by decide +kernel, by decide +kernel⟩
abbrev dHt (f : FL) (g S : Stg) : PyData := .tuple [dSt S, .int (hgt f g S)]
abbrev sp_heights (K : PySem.W.Frag) (C cNS cTM : Addr) : Sp := spO K C (fun u : FL × Stg => [dFl u.1, dSt u.2]) (fun u => sizes u.1 u.2) (fun u => if goodF u.1 u.2 = true then (if u.2.flatten.length ≤ 4 then .new ((srtS (keysE (bfs u.1 u.2))).map (dHt u.1 u.2)) else .exc cTM) else .exc cNS)
theorem ok_heights {C cNS cTM f : Addr} {fd : FuncData} (T : Bl mg) (F : L2.Fun K "heights" "heights" s_heights f fd) (cS : Cal P w K mg base "see_standing" 3 (sp_see_standing K C cNS)) (cF : Cal P w K mg base "see_few" 2 (sp_see_few K C cTM)) (cT : Cal P w K mg base "told_heights" 4 (sp_told K C w)) :
    FnOk P w K mg base (L2.CX P w) 5 f fd ["floor", "goal"] (sp_heights K C cNS cTM) := by
  refine ok_fn F sc_heights (fun _ => rfl) (fun cdv A outer s H F0 u Q E X hX cx hr tk hp ho => ?_)
  subst hX
  obtain ⟨f, S⟩ := u
  dsimp only at hp ho ⊢
  by_cases g : goodF f S = true
  · rw [if_pos g] at ho
    refine go_drop (pd_call cS (hr.mono (by decide)) (f, S) (pds_cons (pd_var 0) (pds_cons (pd_var 1) pds_nil)) (if_pos g) hp.1) ?_
    by_cases c : S.flatten.length ≤ 4
    · rw [if_pos c] at ho
      have wf : Few f S := ⟨g, hp.2.1, hp.2.2, c⟩
      refine go_drop (pd_call cF (hr.mono (by decide)) S (pds_cons (pd_var 1) pds_nil) (if_pos c) hp.1) ?_
      refine go_asgFro 2 cx.nd (pr_call cT hr (f, S) (pds_cons (pd_var 0) (pds_cons (pd_var 1) pds_nil)) rfl wf (fun _ r => r)) ?_
      have hl := bi_len (bfs_bi wf) wf
      refine go_retN (PLc.n (pl_lc (xs := srtS (keysE (bfs f S))) (f := dSt) (g := dHt f S) 3 cx (PN.its (PN.eq (pn_sortDic cx (pdc_fro 2) (keys_ok wf) T.sorted) (keys_srt f S))) (fun Fp u hu s5 H5 C5 cl5 fp5 => ?_) ?_) cx) ho
      · have hu' : u ∈ keysE (bfs f S) := (srtS_perm _).mem_iff.mp hu
        exact pd_tup (pds_cons (pd_var 3) (pds_cons (pd_getDic (S := u) (n := hgt f S u) cx.u64 (pdc_fro 2) (pd_var 3) (hgt_V wf hu')) pds_nil))
      · rw [(srtS_perm _).length_eq, List.length_map]
        exact szBig (by unfold bfsN at hl; omega)
    · rw [if_neg c] at ho
      exact go_dropX (px_call tk cF (hr.mono (by decide)) S (pds_cons (pd_var 1) pds_nil) (if_neg c) hp.1) (fun σ F H' sa H2 e => ho H2 (sa.g.hh.trans e))
  · rw [if_neg g] at ho
    exact go_dropX (px_call tk cS (hr.mono (by decide)) (f, S) (pds_cons (pd_var 0) (pds_cons (pd_var 1) pds_nil)) (if_neg g) hp.1) (fun σ F H' sa H2 e => ho H2 (sa.g.hh.trans e))
end
end G

namespace G
open PySem L2
def manyL : List Int := [0, 1, 2, 3, 3, 2, 3, 4]
def minI (a b : Int) : Int := if b < a then b else a
def cut1 (c n m : Int) : Int := if ((decide (n = 3) && decide (c / 72 % 4 > 0)) || decide (n = 4)) = true then minI m 2 else m
def cut2 (n m : Int) : Int := if n = 3 then minI m 3 else m
def smallM (c n : Int) : Int := cut2 n (cut1 c n (manyL.getD (c % 8).toNat 0))
def smallL (c n : Int) : List Int := (List.range (smallM c n).toNat).map fun (i : Nat) => c / 8 % 3 + (i : Int)
theorem minI_le (a b : Int) : minI a b ≤ a ∧ minI a b ≤ b ∧ (0 ≤ a → 0 ≤ b → 0 ≤ minI a b) := by
  unfold minI
  split <;> omega
theorem manyL_le (j : Nat) : 0 ≤ manyL.getD j 0 ∧ manyL.getD j 0 ≤ 4 := by
  by_cases h : j < 8
  · match j, h with
    | 0, _ => decide
    | 1, _ => decide
    | 2, _ => decide
    | 3, _ => decide
    | 4, _ => decide
    | 5, _ => decide
    | 6, _ => decide
    | 7, _ => decide
    | n + 8, h => omega
  · rw [List.getD_eq_getElem?_getD, List.getElem?_eq_none (by show 8 ≤ j; omega)]
    decide
theorem cut1_le {c n m : Int} (h : 0 ≤ m ∧ m ≤ 4) : 0 ≤ cut1 c n m ∧ cut1 c n m ≤ 4 := by
  unfold cut1
  have := minI_le m 2
  split <;> omega
theorem cut2_le {n m : Int} (h : 0 ≤ m ∧ m ≤ 4) : 0 ≤ cut2 n m ∧ cut2 n m ≤ 4 := by
  unfold cut2
  have := minI_le m 3
  split <;> omega
theorem small_le (c n : Int) : 0 ≤ smallM c n ∧ smallM c n ≤ 4 := cut2_le (cut1_le (manyL_le _))
theorem smallL_len (c n : Int) : (smallL c n).length ≤ 4 := by
  have := small_le c n
  unfold smallL
  rw [List.length_map, List.length_range]
  omega
section
variable {P : Program} {w : World} {K : PySem.W.Frag} {mg : Str → Option Value} {base : Heap}
theorem sc_law_small : FnScope ["script", "first", "floor", "many", "names", "k"] ["script", "first", "floor"] (defScope s_law_small) := ⟨rfl, rfl, rfl, by decide +kernel, rfl, by decide +kernel, by decide +kernel⟩
abbrev sp_law_small (K : PySem.W.Frag) (C : Addr) : Sp := spO K C (fun u : List Int × Int × FL => [scr u.1, .int u.2.1, dF4 u.2.2]) (fun u => 0 ≤ u.2.1) (fun u => .new (dIs (smallL (cellAt u.1 u.2.1) u.2.2.1)))
set_option maxHeartbeats 1000000 in
theorem ok_law_small {C f : Addr} {fd : FuncData} (T : Bl mg) (F : L2.Fun K "_law_small" "_law_small" s_law_small f fd) (cA : Cal P w K mg base "_law_cell_at" 1 (sp_cell_at K C)) :
    FnOk P w K mg base (L2.CX P w) 2 f fd ["script", "first", "floor"] (sp_law_small K C) := by
  refine ok_fn F sc_law_small (fun _ => rfl) (fun cdv A outer s H F0 u Q E X hX cx hr tk hp ho => ?_)
  subst hX
  obtain ⟨ns, first, fl⟩ := u
  dsimp only at hp ho ⊢
  have m8 : 0 ≤ cellAt ns first % 8 ∧ cellAt ns first % 8 < 8 := ⟨Int.emod_nonneg _ (by decide), Int.emod_lt_of_pos _ (by decide)⟩
  have eM : smallM (cellAt ns first) fl.1 = cut2 fl.1 (cut1 (cellAt ns first) fl.1 (manyL.getD (cellAt ns first % 8).toNat 0)) := rfl
  have eL : smallL (cellAt ns first) fl.1 = (List.range (smallM (cellAt ns first) fl.1).toNat).map fun (i : Nat) => cellAt ns first / 8 % 3 + (i : Int) := rfl
  have hm0 := manyL_le (cellAt ns first % 8).toNat
  rw [eL, eM] at ho
  clear eL eM
  obtain ⟨j, hj⟩ : ∃ j : Nat, cellAt ns first % 8 = (j : Int) := ⟨(cellAt ns first % 8).toNat, by omega⟩
  have ej : (cellAt ns first % 8).toNat = j := by omega
  have hj8 : j < manyL.length := by show j < 8; omega
  rw [ej] at ho hm0
  refine go_asg (d := .int (manyL.getD j 0)) 3 cx.nd (pd_ix (PN.it (PN.eq (pn_lst (pds_cons pd_int (pds_cons pd_int (pds_cons pd_int (pds_cons pd_int (pds_cons pd_int (pds_cons pd_int (pds_cons pd_int (pds_cons pd_int pds_nil))))))))) (ds' := manyL.map PyData.int) rfl)) (pd_mod (pd_call cA hr (ns, first) (pds_cons (pd_var 0) (pds_cons (pd_var 1) pds_nil)) rfl hp) pd_int) (at_nat (j := j) hj (row_at hj8))) ?_
  generalize manyL.getD j 0 = m0 at ho hm0 ⊢
  have hm1 := cut1_le (c := cellAt ns first) (n := fl.1) hm0
  refine go_ifJ (fun ss => ss = [.dat (scr ns), .dat (.int first), .dat (dF4 fl), .dat (.int (cut1 (cellAt ns first) fl.1 m0)), .un, .un])
    (TW.t (tw_or (TW.t (tw_and (td_cmp op_eq (PD.bo (pd_ix (PD.tp (pd_var 2)) pd_int (at_nat (j := 0) rfl rfl))) (PD.bo pd_int) ob_eqI (nomark _)) fun _ => tw_and1 (td_cmp op_gt (PD.bo (pd_mod (pd_div (pd_call cA hr (ns, first) (pds_cons (pd_var 0) (pds_cons (pd_var 1) pds_nil)) rfl hp) pd_int) pd_int)) (PD.bo pd_int) ob_gt (nomark _)))) fun _ => tw_or1 (td_cmp op_eq (PD.bo (pd_ix (PD.tp (pd_var 2)) pd_int (at_nat (j := 0) rfl rfl))) (PD.bo pd_int) ob_eqI (nomark _)))) (fun q => ?_) (fun q => ?_) ?_
  · refine go_asg (d := .int (minI m0 2)) 3 cx.nd (pd_min2 cx.calm (pd_var 3) pd_int T.min) (go_end ?_)
    have e : cut1 (cellAt ns first) fl.1 m0 = minI m0 2 := if_pos q
    rw [e]
    rfl
  · refine go_end ?_
    have e : cut1 (cellAt ns first) fl.1 m0 = m0 := if_neg (by rw [q]; decide)
    rw [e]
    rfl
  rintro _ rfl
  generalize cut1 (cellAt ns first) fl.1 m0 = m1 at ho hm1 ⊢
  have hm2 := cut2_le (n := fl.1) hm1
  refine go_ifJ (fun ss => ss = [.dat (scr ns), .dat (.int first), .dat (dF4 fl), .dat (.int (cut2 fl.1 m1)), .un, .un])
    (td_cmp op_eq (PD.bo (pd_ix (PD.tp (pd_var 2)) pd_int (at_nat (j := 0) rfl rfl))) (PD.bo pd_int) ob_eqI (nomark _)) (fun q => ?_) (fun q => ?_) ?_
  · refine go_asg (d := .int (minI m1 3)) 3 cx.nd (pd_min2 cx.calm (pd_var 3) pd_int T.min) (go_end ?_)
    have e : cut2 fl.1 m1 = minI m1 3 := if_pos (of_decide_eq_true q)
    rw [e]
    rfl
  · refine go_end ?_
    have e : cut2 fl.1 m1 = m1 := if_neg (of_decide_eq_false q)
    rw [e]
  rintro _ rfl
  generalize cut2 fl.1 m1 = m2 at ho hm2 ⊢
  refine go_asgC 4 cx (pl_lcR (n := m2) (g := fun (i : Nat) => .int (cellAt ns first / 8 % 3 + (i : Int))) 5 cx (pd_var 3) (by omega) (fun i hi s5 H5 C5 cl5 fp5 => pd_add (pd_mod (pd_div (pd_call cA hr (ns, first) (pds_cons (pd_var 0) (pds_cons (pd_var 1) pds_nil)) rfl hp) pd_int) pd_int) (pd_var 5)) T.range) ?_
  refine go_retO 4 rfl (k := ?_)
  rw [show dIs ((List.range m2.toNat).map fun (i : Nat) => cellAt ns first / 8 % 3 + (i : Int)) = (List.range m2.toNat).map (fun (i : Nat) => PyData.int (cellAt ns first / 8 % 3 + (i : Int))) from List.map_map] at ho
  exact ho
end
end G

namespace G
open PySem L2
section
variable {P : Program} {w : World} {K : PySem.W.Frag} {mg : Str → Option Value} {base : Heap}
theorem sc_come_to : FnScope ["floor", "standing"] ["floor", "standing"] (defScope s_come_to) := ⟨rfl, rfl, rfl, by decide +kernel, rfl, by decide +kernel, by decide +kernel⟩
abbrev sp_come_to (K : PySem.W.Frag) (C cNS cTM : Addr) : Sp := spO K C (fun u : FL × Stg => [dFl u.1, dSt u.2]) (fun u => sizes u.1 u.2) (fun u => if goodF u.1 u.2 = true then (if u.2.flatten.length ≤ 4 then .new ((srtS (keysE (bfs u.1 u.2))).map dSt) else .exc cTM) else .exc cNS)
theorem ok_come_to {C cNS cTM f : Addr} {fd : FuncData} (T : Bl mg) (F : L2.Fun K "come_to" "come_to" s_come_to f fd) (cS : Cal P w K mg base "see_standing" 3 (sp_see_standing K C cNS)) (cF : Cal P w K mg base "see_few" 2 (sp_see_few K C cTM)) (cT : Cal P w K mg base "told_heights" 4 (sp_told K C w)) :
    FnOk P w K mg base (L2.CX P w) 5 f fd ["floor", "standing"] (sp_come_to K C cNS cTM) := by
  refine ok_fn F sc_come_to (fun _ => rfl) (fun cdv A outer s H F0 u Q E X hX cx hr tk hp ho => ?_)
  subst hX
  obtain ⟨f, S⟩ := u
  dsimp only at hp ho ⊢
  by_cases g : goodF f S = true
  · rw [if_pos g] at ho
    refine go_drop (pd_call cS (hr.mono (by decide)) (f, S) (pds_cons (pd_var 0) (pds_cons (pd_var 1) pds_nil)) (if_pos g) hp.1) ?_
    by_cases c : S.flatten.length ≤ 4
    · rw [if_pos c] at ho
      have wf : Few f S := ⟨g, hp.2.1, hp.2.2, c⟩
      refine go_drop (pd_call cF (hr.mono (by decide)) S (pds_cons (pd_var 1) pds_nil) (if_pos c) hp.1) ?_
      exact go_retN (PN.eq (pn_sortDic cx (pdc_prw (pr_call cT hr (f, S) (pds_cons (pd_var 0) (pds_cons (pd_var 1) pds_nil)) rfl wf (fun _ r => r))) (keys_ok wf) T.sorted) (keys_srt f S)) ho
    · rw [if_neg c] at ho
      exact go_dropX (px_call tk cF (hr.mono (by decide)) S (pds_cons (pd_var 1) pds_nil) (if_neg c) hp.1) (fun σ F H' sa H2 e => ho H2 (sa.g.hh.trans e))
  · rw [if_neg g] at ho
    exact go_dropX (px_call tk cS (hr.mono (by decide)) (f, S) (pds_cons (pd_var 0) (pds_cons (pd_var 1) pds_nil)) (if_neg g) hp.1) (fun σ F H' sa H2 e => ho H2 (sa.g.hh.trans e))
end
end G

namespace G
open PySem L2
section
variable {P : Program} {w : World} {K : PySem.W.Frag} {mg : Str → Option Value} {base : Heap}
theorem sc_plan : FnScope ["floor", "start", "goal", "found", "row", "here", "some", "lift"] ["floor", "start", "goal"] (defScope s_plan) := ⟨rfl, rfl, rfl, by decide +kernel, rfl, by decide +kernel, by decide +kernel⟩
abbrev outPlan (K : PySem.W.Frag) (C cNS cTM cOC : Addr) (u : FL × Stg × Stg) : Out :=
  if (goodF u.1 u.2.1 && goodF u.1 u.2.2) = true then (if u.2.1.flatten.length ≤ 4 then (if isort u.2.1.flatten = isort u.2.2.flatten then
    (if u.2.1 ∈ keysE (bfs u.1 u.2.2) then .raw (tolP K C 2 1 0 (dLfs (planL u.1 u.2.2 u.2.1)) (.str "plan")) else .raw (tolP K C 2 1 0 ((srtS (keysE (bfs u.1 u.2.1))).map dSt) (.str "shut")))
    else .exc cOC) else .exc cTM) else .exc cNS
abbrev sp_plan (K : PySem.W.Frag) (C cNS cTM cOC : Addr) : Sp := spO K C (fun u : FL × Stg × Stg => [dFl u.1, dSt u.2.1, dSt u.2.2]) (fun u => sizes u.1 u.2.1 ∧ sizes u.1 u.2.2) (outPlan K C cNS cTM cOC)
set_option maxHeartbeats 2000000 in
theorem ok_plan {C cNS cTM cOC f : Addr} {fd : FuncData} (T : Bl mg) (F : L2.Fun K "plan" "plan" s_plan f fd) (TO : ExT K mg "OtherCrates" cOC) (cS : Cal P w K mg base "see_standing" 3 (sp_see_standing K C cNS)) (cF : Cal P w K mg base "see_few" 2 (sp_see_few K C cTM)) (cT : Cal P w K mg base "told_heights" 4 (sp_told K C w))
    (cC : Cal P w K mg base "crates_of" 1 (sp_crates_of K C)) (cA : Cal P w K mg base "all_lifts" 3 (sp_all_lifts K C)) (cB : Cal P w K mg base "behind" 1 (sp_behind K C)) :
    FnOk P w K mg base (L2.CX P w) 5 f fd ["floor", "start", "goal"] (sp_plan K C cNS cTM cOC) := by
  refine ok_fn F sc_plan (fun _ => rfl) (fun cdv A outer s H F0 u Q E X hX cx hr tk hp ho => ?_)
  subst hX
  obtain ⟨f, S, g⟩ := u
  obtain ⟨hpS, hpg⟩ := hp
  unfold outPlan at ho
  dsimp only at hpS hpg ho ⊢
  by_cases gS : goodF f S = true
  · refine go_drop (pd_call cS (hr.mono (by decide)) (f, S) (pds_cons (pd_var 0) (pds_cons (pd_var 1) pds_nil)) (if_pos gS) hpS.1) ?_
    by_cases gg : goodF f g = true
    · rw [if_pos (by rw [gS, gg]; rfl)] at ho
      refine go_drop (pd_call cS (hr.mono (by decide)) (f, g) (pds_cons (pd_var 0) (pds_cons (pd_var 2) pds_nil)) (if_pos gg) hpg.1) ?_
      by_cases c : S.flatten.length ≤ 4
      · rw [if_pos c] at ho
        refine go_drop (pd_call cF (hr.mono (by decide)) S (pds_cons (pd_var 1) pds_nil) (if_pos c) hpS.1) ?_
        refine go_if (td_cmp (op_neD cx.u64) (PN.bo (pn_call cC (hr.mono (by decide)) S (pds_cons (pd_var 1) pds_nil) rfl hpS.1)) (PN.bo (pn_call cC (hr.mono (by decide)) g (pds_cons (pd_var 2) pds_nil) rfl hpg.1)) (ob_neD (pl_intsP _) (pl_intsP _) (by decide) (by decide)) (nomark _)) (fun q => ?_) (fun q => go_on ?_)
        · rw [eqv_intsP] at q
          have q : ¬ isort S.flatten = isort g.flatten := by simpa using q
          rw [if_neg q] at ho
          exact go_raise cx.calm tk TO (fun σ F H' sa => ho H' sa.g.hh)
        · rw [eqv_intsP] at q
          have q : isort S.flatten = isort g.flatten := by simpa using q
          rw [if_pos q] at ho
          have wS : Few f S := ⟨gS, hpS.2.1, hpS.2.2, c⟩
          have wg : Few f g := ⟨gg, hpg.2.1, hpg.2.2, by
            have := congrArg List.length q
            rw [isort_length, isort_length] at this
            omega⟩
          refine go_asgFro 3 cx.nd (pr_call cT (hr.mono (by decide)) (f, g) (pds_cons (pd_var 0) (pds_cons (pd_var 2) pds_nil)) rfl wg (fun _ r => r)) ?_
          refine go_if (td_notInDic (S := S) cx.u64 (pd_var 1) (pdc_fro 3)) (fun q2 => ?_) (fun q2 => go_on ?_)
          · rw [valV_some] at q2
            rw [if_neg (by simpa using q2)] at ho
            exact go_retTN pd_str (PN.eq (pn_sortDic cx (pdc_prw (pr_call cT (hr.mono (by decide)) (f, S) (pds_cons (pd_var 0) (pds_cons (pd_var 1) pds_nil)) rfl wS (fun _ r => r))) (keys_ok wS) T.sorted) (keys_srt f S)) (fun v F H g r => ho v F H g r)
          · rw [valV_some] at q2
            have hin : S ∈ keysE (bfs f g) := by simpa using q2
            rw [if_pos hin] at ho
            have h0 := hgt_pos wg hin
            have h1 := hgt_le wg hin
            refine go_asgN 4 cx.nd (pn_lst pds_nil) ?_
            refine go_asg 5 cx.nd (pd_var 1) ?_
            refine go_while (fun m ss => ∃ U row, U ∈ keysE (bfs f g) ∧ m = (hgt f g U).toNat ∧ row ++ planGo f g m U = planL f g S ∧ row.length + m ≤ 160000 ∧ ss = [.dat (dFl f), .dat (dSt S), .dat (dSt g), .fro (frP K C w (dicV (bfs f g))), .own (dLfs row), .dat (dSt U), .un, .un]) (hgt f g S).toNat cx ⟨S, [], hin, rfl, rfl, (by show 0 + _ ≤ 160000; omega), rfl⟩ ?_
            rintro m _ ⟨U, row, hU, hm, hrow, hlen, rfl⟩
            obtain ⟨gU, pU⟩ := key_good wg hU
            have uz : U.flatten.length ≤ 1000 := by
              have := pU.length_eq
              have := wg.cr
              omega
            have u0 := hgt_pos wg hU
            refine ⟨_, td_cmp (op_neD cx.u64) (PD.bo (pd_var 5)) (PD.bo (pd_var 2)) (ob_neD (pl_st _) (pl_st _) (by decide) (by decide)) (nomark _), fun q3 => ?_, fun q3 => ?_⟩
            · rw [eqv_st] at q3
              have ne : U ≠ g := by simpa using q3
              obtain ⟨l, hl1, hl2, hl3, hl4⟩ := lows_head wg hU ne
              have hV := hgt_pos wg hl3
              obtain ⟨m', rfl⟩ : ∃ m', m = m' + 1 := ⟨m - 1, by omega⟩
              have hlast : lows f g U = (liftsOf f U).filter fun l => decide (hgt f g (behindL U l) < hgt f g U) := rfl
              refine go_asgC 6 cx (pl_lcIf (xs := liftsOf f U) (f := dLf) (g := dLf) (fun l => decide (hgt f g (behindL U l) < hgt f g U)) 7 cx (PN.its (pn_call cA (hr.mono (by decide)) (f, U) (pds_cons (pd_var 0) (pds_cons (pd_var 5) pds_nil)) rfl (few_fits wg gU pU)))
                (fun Fp u hu s5 H5 C5 cl5 fp5 => td_cmp op_lt (PD.bo (pd_getDic (S := behindL U u) cx.u64 (pdc_fro 3) (pd_call cB (hr.mono (by decide)) (U, u) (pds_cons (pd_var 5) (pds_cons (pd_var 7) pds_nil)) rfl ⟨lift_in hu, uz⟩) (hgt_V wg (nbr_in wg hU (List.mem_map.mpr ⟨u, hu, rfl⟩)).1))) (PD.bo (pd_getDic (S := U) cx.u64 (pdc_fro 3) (pd_var 5) (hgt_V wg hU))) ob_lt (nomark _))
                (fun Fp u hu tu s5 H5 C5 cl5 fp5 => pd_var 7) ?_) ?_
              · have hf := few_fits wg gU pU
                have := lifts_le hf
                exact szBig (by omega)
              rw [← hlast]
              have hat : (dLfs (lows f g U))[0]? = some (dLf l) := by
                rw [List.getElem?_map, ← List.head?_eq_getElem?, hl1]; rfl
              refine go_append (d := dLf l) 4 rfl (pd_ix (pi_own 6) pd_int (at_nat (j := 0) rfl hat)) ?_ ?_
              · refine go_asg (d := dSt (behindL U l)) 5 cx.nd (pd_call cB (hr.mono (by decide)) (U, l) (pds_cons (pd_var 5) (pds_cons (pd_ix (pi_own 6) pd_int (at_nat (j := 0) rfl hat)) pds_nil)) rfl ⟨lift_in hl2, uz⟩) ?_
                refine go_end (J := fun ss => ∃ m2, m2 < m' + 1 ∧ _) ⟨m', Nat.lt_succ_self _, behindL U l, row ++ [l], hl3, by omega, ?_, ?_, ?_⟩ (.same (.same (.same (.same (.same (.same (.un (.un .nil))))))))
                · rw [← hrow, planGo_on hl1, List.append_assoc]; rfl
                · rw [List.length_append, List.length_singleton]; omega
                · have er : dLfs (row ++ [l]) = dLfs row ++ [dLf l] := List.map_append
                  rw [er]
              · rw [List.length_map]
                exact szBig (by omega)
            · rw [eqv_st] at q3
              have e : U = g := by simpa using q3
              subst e
              rw [hgt_go wg] at hm
              have : m = 0 := hm
              subst this
              have e2 : row = planL f U S := by rw [← hrow]; exact (List.append_nil _).symm
              rw [← e2] at ho
              exact go_retTO 4 pd_str rfl (fun v F H g r => ho v F H g r)
      · rw [if_neg c] at ho
        exact go_dropX (px_call tk cF (hr.mono (by decide)) S (pds_cons (pd_var 1) pds_nil) (if_neg c) hpS.1) (fun σ F H' sa H2 e => ho H2 (sa.g.hh.trans e))
    · rw [if_neg (by rw [gS, Bool.true_and]; exact gg)] at ho
      exact go_dropX (px_call tk cS (hr.mono (by decide)) (f, g) (pds_cons (pd_var 0) (pds_cons (pd_var 2) pds_nil)) (if_neg gg) hpg.1) (fun σ F H' sa H2 e => ho H2 (sa.g.hh.trans e))
  · rw [if_neg (by rw [Bool.and_eq_true]; exact fun z => gS z.1)] at ho
    exact go_dropX (px_call tk cS (hr.mono (by decide)) (f, S) (pds_cons (pd_var 0) (pds_cons (pd_var 1) pds_nil)) (if_neg gS) hpS.1) (fun σ F H' sa H2 e => ho H2 (sa.g.hh.trans e))
end
end G

namespace G
open PySem L2
/-- a tuple with a list of its own within, known for good -/
theorem PRw.da {X : Cx} {B : Bs} {e : Expr} {ss : List SD} {d : PyData} {ds : List PyData} (h : PRw X B e ss (tolP X.K B.C 2 1 0 ds d)) : PD X B e ss (.tuple [d, .list ds]) := fun σ F H s Q q => h σ F H s Q fun v F1 H1 g r => by
  obtain ⟨t, l, us, vs, w, rfl, h1, hl, h2, h3, h4, h5, h6, h7, h8⟩ := r
  have sm : Same F1 (L2.upd F1 l (.lst vs)) := Same.new h5
  refine q (.ref t) (L2.upd F1 l (.lst vs)) H1 (g.keep h4 h5 h6) ?_
  match us, hl, h2, h3 with
  | [x, y], _, h2, h3 =>
    obtain rfl : y = .ref l := Option.some.inj h2
    obtain rfl : x = w := Option.some.inj h3
    exact .tup (Same.sqt sm h1) (.cons (h8.mono sm) (.cons (.lst upd_same (h7.mono sm)) .nil))
theorem any_sts (l : List Stg) (S : Stg) : ((l.map dSt).any fun z => PyData.eqv z (dSt S)) = decide (S ∈ l) := by
  rw [List.any_map]
  refine Bool.eq_iff_iff.mpr ?_
  rw [List.any_eq_true, decide_eq_true_eq]
  constructor
  · rintro ⟨T, hT, e⟩
    have e2 : PyData.eqv (dSt T) (dSt S) = true := e
    rw [eqv_st] at e2
    rw [← of_decide_eq_true e2]
    exact hT
  · intro h
    refine ⟨S, h, ?_⟩
    show PyData.eqv (dSt S) (dSt S) = true
    rw [eqv_st, decide_eq_true rfl]
theorem pl_stsP (l : List Stg) : Pl 3 (.list (l.map dSt)) := .lst fun d hd => by
  obtain ⟨S, _, rfl⟩ := List.mem_map.mp hd
  exact pl_st S
theorem small_few (c n : Int) : (n = 3 → (smallL c n).length ≤ 3) ∧ (n = 4 → (smallL c n).length ≤ 2) := by
  have h1 := manyL_le (c % 8).toNat
  have e : (smallL c n).length = (smallM c n).toNat := by unfold smallL; rw [List.length_map, List.length_range]
  rw [e]
  unfold smallM
  generalize manyL.getD (c % 8).toNat 0 = m at h1
  have h2 := cut1_le (c := c) (n := n) h1
  have h3 := minI_le (cut1 c n m) 3
  have h4 := minI_le m 2
  constructor
  · intro e3
    unfold cut2
    rw [if_pos e3]
    omega
  · intro e4
    unfold cut2
    rw [if_neg (by omega)]
    unfold cut1
    rw [if_pos (by rw [decide_eq_true e4, Bool.or_true])]
    omega
section
variable {P : Program} {w : World} {K : PySem.W.Frag} {mg : Str → Option Value} {base : Heap}
theorem sc_law_walked : FnScope ["floor", "start", "row", "here", "lift"] ["floor", "start", "row"] (defScope s_law_walked) := ⟨rfl, rfl, rfl, by decide +kernel, rfl, by decide +kernel, by decide +kernel⟩
abbrev sp_law_walked (K : PySem.W.Frag) (C : Addr) : Sp := spO K C (fun u : FL × Stg × List LF => [dF4 u.1, dSt u.2.1, .list (dLfs u.2.2)]) (fun u => valid u.1 u.2.1 u.2.2 ∧ goodF u.1 u.2.1 = true ∧ sizes u.1 u.2.1) (fun u => .val (dSt (ends u.2.1 u.2.2)))
set_option maxHeartbeats 1000000 in
theorem ok_law_walked {C f : Addr} {fd : FuncData} (T : Bl mg) (F : L2.Fun K "_law_walked" "_law_walked" s_law_walked f fd) (cT : Cal P w K mg base "_law_tuple" 2 (sp_law_tuple K C)) (cL : Cal P w K mg base "_law_lifts" 2 (sp_law_lifts K C)) (cB : Cal P w K mg base "_law_behind" 1 (sp_law_behind K C)) :
    FnOk P w K mg base (L2.CX P w) 3 f fd ["floor", "start", "row"] (sp_law_walked K C) := by
  refine ok_fn F sc_law_walked (fun _ => rfl) (fun cdv A outer s H F0 u Q E X hX cx hr tk hp ho => ?_)
  subst hX
  obtain ⟨f, S, row⟩ := u
  obtain ⟨hv, hg, hz, hn, ht⟩ := hp
  dsimp only at hv hg hz hn ht ho ⊢
  refine go_asg 3 cx.nd (pd_var 1) ?_
  refine go_for (xs := row) (f := dLf) 4 (fun k ss => ∃ z, ss = [.dat (dF4 f), .dat (dSt S), .dat (.list (dLfs row)), .dat (dSt (ends S (row.take k))), z]) cx (PD.itl (pd_var 2)) ⟨_, rfl⟩ ?_ ?_
  · rintro Fp k l _ hk ⟨z, rfl⟩
    obtain ⟨v1, v2⟩ := ends_take hv hk
    obtain ⟨g1, p1⟩ := ends_good k hg hv
    rw [v2]
    generalize ends S (row.take k) = U at v1 g1 p1 ⊢
    have zU : U.flatten.length ≤ 1000 := by rw [p1.length_eq]; exact hz
    have lU : (U.length : Int) = f.1 := good_len g1
    have hf : fits f U := fits_of ⟨zU, hn, ht⟩ g1
    have ml := mem_liftsOf.mp v1
    refine go_if (k := false) (TD.eq (TW.t (tw_or (td_not (td_val (pd_call cT hr ([(l.1 : Int), (l.2.1 : Int), (l.2.2 : Int)], [(l.1 : Int), (l.2.1 : Int), (l.2.2 : Int)]) (pds_cons (pd_var 4) (pds_cons (pd_var 4) pds_nil)) rfl (show (3 : Nat) ≤ 1000 by decide)))) fun _ => tw_or1 (td_cmp (op_notInD cx.units) (PD.bo (pd_var 4)) (PN.bo (pn_call cL hr (f, U) (pds_cons (pd_var 0) (pds_cons (pd_var 3) pds_nil)) rfl hf)) (ob_notInD (pl_l3 (cast3 l)) (pl_lfs _) (by decide) (by decide)) rfl))) (by
        have e1 := any_l3 (liftsOf f U) (cast3 l)
        rw [decide_eq_true (List.mem_map_of_mem v1)] at e1
        rw [e1, decide_eq_true rfl]
        rfl)) (fun z => by cases z) (fun _ => go_on ?_)
    refine go_asg 3 cx.nd (pd_call cB (hr.mono (by decide)) (U, l) (pds_cons (pd_var 3) (pds_cons (pd_var 4) pds_nil)) rfl ⟨lift_in v1, ml.2.2.1, zU, by show U.length ≤ 1000; omega⟩) ?_
    exact go_end ⟨_, rfl⟩
  · rintro _ ⟨z, rfl⟩
    rw [List.take_length]
    exact go_ret (pd_var 3) ho
theorem sc_law_shut : FnScope ["floor", "start", "goal", "rows", "held", "standing", "lift"] ["floor", "start", "goal", "rows"] (defScope s_law_shut) := ⟨rfl, rfl, rfl, by decide +kernel, rfl, by decide +kernel, by decide +kernel⟩
abbrev rowsK (f : FL) (S : Stg) : List Stg := srtS (keysE (bfs (normF f) S))
abbrev sp_law_shut (K : PySem.W.Frag) (C : Addr) : Sp := spO K C (fun u : FL × Stg × Stg => [dF4 u.1, dSt u.2.1, dSt u.2.2, .list ((rowsK u.1 u.2.1).map dSt)]) (fun u => Sml (normF u.1) u.2.1 ∧ u.2.2 ∉ rowsK u.1 u.2.1) (fun _ => .val (.bool true))
def holdsV (l : List Stg) : List (Stg × V) := l.map fun S => (S, V.bl true)
theorem holds_keys (l : List Stg) : (holdsV l).map (·.1) = l := by
  unfold holdsV
  rw [List.map_map]
  exact List.map_id _
theorem holds_in {l : List Stg} {S : Stg} : (valK (holdsV l) S).isSome = decide (S ∈ l) := by
  by_cases h : S ∈ l
  · rw [decide_eq_true h]
    cases e : valK (holdsV l) S with
    | some v => rfl
    | none => exact absurd h (by rw [← holds_keys l]; exact valK_none.mp e)
  · rw [decide_eq_false h, valK_none.mpr (by rw [holds_keys]; exact h)]
    rfl
theorem take_snocP {α : Type} {l : List α} {n : Nat} {x : α} (h : l[n]? = some x) : l.take (n + 1) = l.take n ++ [x] := by
  rw [List.take_add_one, h]
  rfl
theorem new_atP {α : Type} {l : List α} {n : Nat} {x : α} (nd : l.Nodup) (h : l[n]? = some x) : x ∉ l.take n := fun m => by
  have s : (l.take (n + 1)).Nodup := nd.sublist (List.take_sublist _ _)
  rw [take_snocP h] at s
  exact (List.nodup_append.mp s).2.2 x m x (List.mem_singleton.mpr rfl) rfl
set_option maxHeartbeats 2000000 in
theorem ok_law_shut {C f : Addr} {fd : FuncData} (T : Bl mg) (F : L2.Fun K "_law_shut" "_law_shut" s_law_shut f fd) (cT : Cal P w K mg base "_law_stands" 3 (sp_law_stands K C)) (cG : Cal P w K mg base "_law_good" 1 (sp_law_good K C)) (cL : Cal P w K mg base "_law_lifts" 2 (sp_law_lifts K C)) (cB : Cal P w K mg base "_law_behind" 1 (sp_law_behind K C)) :
    FnOk P w K mg base (L2.CX P w) 4 f fd ["floor", "start", "goal", "rows"] (sp_law_shut K C) := by
  refine ok_fn F sc_law_shut (fun _ => rfl) (fun cdv A outer s H F0 u Q E X hX cx hr tk hp ho => ?_)
  subst hX
  obtain ⟨f, S, g⟩ := u
  obtain ⟨sm, hg⟩ := hp
  dsimp only at sm hg ho ⊢
  have hr1 : Room 1 _ := hr.mono (by decide)
  have hr2 : Room 2 _ := hr.mono (by decide)
  have wf := sm.w
  have bn : ∀ U, liftsOf (normF f) U = liftsOf f U := behind_norm f
  have gn : ∀ U, goodF (normF f) U = goodF f U := good_norm f
  have n1 : 2 ≤ f.1 ∧ f.1 ≤ 4 := wf.fl
  have n3 : 1 ≤ f.2.2.1 ∧ f.2.2.1 ≤ 3 := wf.li
  have kf := keys_few sm
  have cr := wf.cr
  have hnd : (rowsK f S).Nodup := (srtS_perm _).nodup_iff.mpr (bfs_bi wf).nd
  have hmem : ∀ U, U ∈ rowsK f S ↔ U ∈ keysE (bfs (normF f) S) := fun U => (srtS_perm _).mem_iff
  have hup : srtS (rowsK f S) = rowsK f S := srtS_id (srtS_up _)
  have hS : S ∈ rowsK f S := (hmem S).mpr (go_in wf)
  have hlen : (rowsK f S).length < 2048 := by rw [(srtS_perm _).length_eq]; exact kf
  have hk : ∀ U, U ∈ rowsK f S → goodF f U = true ∧ U.flatten.length ≤ 4 ∧ (U.length : Int) = f.1 := fun U m => by
    obtain ⟨a, b⟩ := key_good wf ((hmem U).mp m)
    rw [gn] at a
    have := b.length_eq
    exact ⟨a, by omega, good_len a⟩
  have hne : ∀ U, U ∈ rowsK f S → U ≠ [] := fun U m e => by
    have := (hk U m).2.2
    rw [e] at this
    simp at this
    omega
  have hcl : ∀ U, U ∈ rowsK f S → ∀ l ∈ liftsOf f U, behindL U l ∈ rowsK f S := fun U m l hl => (hmem _).mpr (nbr_in wf ((hmem U).mp m) (by
    unfold nbrs
    rw [bn]
    exact List.mem_map.mpr ⟨l, hl, rfl⟩)).1
  generalize rowsK f S = ks at hg hnd hup hS hlen hk hne hcl ⊢
  refine go_if (k := false) (TD.eq (TW.t (tw_or (td_cmp (op_notInD cx.units) (PD.bo (pd_var 1)) (PD.bo (pd_var 3)) (ob_notInD (pl_st S) (pl_stsP ks) (by decide) (by decide)) rfl) fun _ => tw_or (td_cmp (op_inD cx.units) (PD.bo (pd_var 2)) (PD.bo (pd_var 3)) (ob_inD (pl_st g) (pl_stsP ks) (by decide) (by decide)) rfl) fun _ => tw_or1 (td_cmp (op_neD cx.u64) (PD.bo (pd_var 3)) (PN.bo (PN.eq (pn_sortSet (l := ks) cx (PD.li (pd_var 3)) hnd hlen hne T.sorted T.set) (ds' := ks.map dSt) (by rw [hup]))) (ob_neD (pl_stsP ks) (pl_stsP ks) (by decide) (by decide)) (nomark _)))) (by
      rw [any_sts, any_sts, decide_eq_true hS, decide_eq_false hg, eqv_refl (pl_stsP ks)]
      rfl)) (fun z => by cases z) (fun _ => go_on ?_)
  refine go_asgDic0 4 cx.nd ?_
  refine go_for (xs := ks) (f := dSt) 5 (fun k ss => ∃ z, ss = [.dat (dF4 f), .dat (dSt S), .dat (dSt g), .dat (.list (ks.map dSt)), .dic w (holdsV (ks.take k)), z, .un]) cx (PD.itl (pd_var 3)) ⟨_, rfl⟩ ?_ ?_
  · rintro Fp k U _ hkU ⟨z, rfl⟩
    refine go_setDic (vv := .bl true) (S := U) 4 cx rfl pd_bl (pd_var 5) (valK_none.mpr (by rw [holds_keys]; exact new_atP hnd hkU)) ?_ ?_
    · unfold holdsV
      rw [List.length_map, List.length_take]
      exact szBig (by omega)
    · refine go_end ⟨.dat (dSt U), ?_⟩
      rw [take_snocP hkU]
      unfold holdsV
      rw [List.map_append]
      rfl
  rintro _ ⟨z, rfl⟩
  rw [List.take_length]
  refine go_weak (ss' := [.dat (dF4 f), .dat (dSt S), .dat (dSt g), .dat (.list (ks.map dSt)), .dic w (holdsV ks), .un, .un]) (.same (.same (.same (.same (.same (.un (.same .nil))))))) ?_
  refine go_frzD 4 rfl ?_
  refine go_for (xs := ks) (f := dSt) 5 (fun k ss => ss = [.dat (dF4 f), .dat (dSt S), .dat (dSt g), .dat (.list (ks.map dSt)), .fro (frP K C w (holdsV ks)), .un, .un]) cx (PD.itl (pd_var 3)) rfl ?_ ?_
  · rintro Fp k U _ hkU rfl
    have hm : U ∈ ks := List.mem_of_getElem? hkU
    obtain ⟨ug, uz, ul⟩ := hk U hm
    have hf : fits f U := fits_of ⟨by omega, n1, n3⟩ ug
    refine go_if (k := false) (TD.eq (TW.t (tw_or (td_not (td_val (pd_call cT (hr.mono (by decide)) (U, U) (pds_cons (pd_var 5) (pds_cons (pd_var 5) pds_nil)) rfl ⟨by show U.length ≤ 1000; omega, by show U.flatten.length ≤ 1000; omega⟩))) fun _ => tw_or1 (td_not (td_val (pd_call cG hr1 (f, true, U) (pds_cons (pd_var 0) (pds_cons (pd_var 5) pds_nil)) rfl (show U.flatten.length ≤ 1000 by omega)))))) (by
        rw [decide_eq_true rfl, show goodF f U = true from ug]
        rfl)) (fun z => by cases z) (fun _ => go_on ?_)
    refine go_for (xs := liftsOf f U) (f := dLf) 6 (fun k ss => ∃ z, ss = [.dat (dF4 f), .dat (dSt S), .dat (dSt g), .dat (.list (ks.map dSt)), .fro (frP K C w (holdsV ks)), .dat (dSt U), z]) cx (PN.its (pn_call cL hr2 (f, U) (pds_cons (pd_var 0) (pds_cons (pd_var 5) pds_nil)) rfl hf)) ⟨_, rfl⟩ ?_ ?_
    · rintro Fp2 j l _ hj ⟨z, rfl⟩
      have hl : l ∈ liftsOf f U := List.mem_of_getElem? hj
      have ml := mem_liftsOf.mp hl
      refine go_if (k := false) (TD.eq (td_notInDic (S := behindL U l) cx.u64 (pd_call cB hr1 (U, l) (pds_cons (pd_var 5) (pds_cons (pd_var 6) pds_nil)) rfl ⟨lift_in hl, ml.2.2.1, by show U.flatten.length ≤ 1000; omega, by show U.length ≤ 1000; omega⟩) (pdc_fro 4)) (by
          rw [holds_in, decide_eq_true (hcl U hm l hl)]
          rfl)) (fun z => by cases z) (fun _ => go_on (go_end ⟨.dat (dLf l), rfl⟩))
    · rintro _ ⟨z, rfl⟩
      exact go_end rfl (by repeat (first | exact Wk.nil | apply Wk.same | apply Wk.un))
  · rintro _ rfl
    exact go_ret pd_bl ho
end
end G

namespace G
open PySem L2
theorem plan_shut : decide (Str.ofString "shut" = Str.ofString "plan") = false := by decide +kernel
theorem only_one {α : Type} [DecidableEq α] : ∀ {l : List α} {x : α}, l.Nodup → x ∈ l → l.filter (fun y => decide (y = x)) = [x]
  | [], x, _, h => by cases h
  | a :: l, x, nd, h => by
    obtain ⟨n1, n2⟩ := List.nodup_cons.mp nd
    by_cases e : a = x
    · subst e
      rw [List.filter_cons, if_pos (decide_eq_true rfl)]
      congr 1
      refine List.filter_eq_nil_iff.mpr fun y hy hd => n1 ?_
      rw [← of_decide_eq_true hd]
      exact hy
    · rw [List.filter_cons, if_neg (by rw [decide_eq_false e]; decide)]
      rcases List.mem_cons.mp h with e2 | h
      · exact absurd e2.symm e
      · exact only_one n2 h
section
variable {P : Program} {w : World} {K : PySem.W.Frag} {mg : Str → Option Value} {base : Heap}
theorem sc_law_right : FnScope ["made", "floor", "start", "goal", "told", "high", "pair"] ["made", "floor", "start", "goal"] (defScope s_law_right) := ⟨rfl, rfl, rfl, by decide +kernel, rfl, by decide +kernel, by decide +kernel⟩
abbrev sp_law_right (K : PySem.W.Frag) (C : Addr) : Sp := spO K C (fun u : FL × Stg × Stg => [dFl (normF u.1), dF4 u.1, dSt u.2.1, dSt u.2.2]) (fun u => Sml (normF u.1) u.2.1 ∧ Few (normF u.1) u.2.2 ∧ isort u.2.1.flatten = isort u.2.2.flatten) (fun _ => .val (.bool true))
set_option maxHeartbeats 2000000 in
theorem ok_law_right {C cNS cTM cOC f : Addr} {fd : FuncData} (T : Bl mg) (F : L2.Fun K "_law_right" "_law_right" s_law_right f fd) (cP : Cal P w K mg base "plan" 5 (sp_plan K C cNS cTM cOC)) (cH : Cal P w K mg base "heights" 5 (sp_heights K C cNS cTM)) (cC : Cal P w K mg base "come_to" 5 (sp_come_to K C cNS cTM))
    (cW : Cal P w K mg base "_law_walked" 3 (sp_law_walked K C)) (cS : Cal P w K mg base "_law_shut" 4 (sp_law_shut K C)) :
    FnOk P w K mg base (L2.CX P w) 6 f fd ["made", "floor", "start", "goal"] (sp_law_right K C) := by
  refine ok_fn F sc_law_right (fun _ => rfl) (fun cdv A outer s H F0 u Q E X hX cx hr tk hp ho => ?_)
  subst hX
  obtain ⟨f, S, g⟩ := u
  obtain ⟨sm, wg, iso⟩ := hp
  dsimp only at sm wg iso ho ⊢
  have wS := sm.w
  have n1 : 2 ≤ f.1 ∧ f.1 ≤ 4 := wS.fl
  have n3 : 1 ≤ f.2.2.1 ∧ f.2.2.1 ≤ 3 := wS.li
  have bn : ∀ U, liftsOf (normF f) U = liftsOf f U := behind_norm f
  have gn : ∀ U, goodF (normF f) U = goodF f U := good_norm f
  have zS : sizes (normF f) S := ⟨by have := wS.cr; omega, n1, n3⟩
  have zg : sizes (normF f) g := ⟨by have := wg.cr; omega, n1, n3⟩
  have hval : ∀ (row : List LF) (U : Stg), valid (normF f) U row → valid f U row := fun row => by
    induction row with
    | nil => intro U _; exact trivial
    | cons l row ih => intro U v; exact ⟨by rw [← bn]; exact v.1, ih _ v.2⟩
  by_cases hin : S ∈ keysE (bfs (normF f) g)
  · obtain ⟨v1, v2, v3⟩ := plan_ok wg _ S hin rfl
    have v1 := hval _ _ v1
    have hpl : planGo (normF f) g (hgt (normF f) g S).toNat S = planL (normF f) g S := rfl
    have h0 := hgt_pos wg hin
    rw [hpl] at v1 v2 v3
    refine go_asg (d := .tuple [.str (Str.ofString "plan"), .list (dLfs (planL (normF f) g S))]) 4 cx.nd (PRw.da (pr_call cP hr (normF f, S, g) (pds_cons (pd_var 0) (pds_cons (pd_var 2) (pds_cons (pd_var 3) pds_nil))) (by unfold outPlan; dsimp only; rw [if_pos (by rw [wS.gd, wg.gd]; rfl), if_pos wS.cr, if_pos iso, if_pos hin]; rfl) ⟨zS, zg⟩ tolP_from)) ?_
    generalize planL (normF f) g S = row at v1 v2 v3
    refine go_if (k := false) (TD.eq (TW.t (tw_or (td_not (td_val (pd_isi "tuple" (PD.bo (pd_var 4)) rfl (k := true) (by decide +kernel) T.isinstance T.tuple))) fun _ => tw_or (td_cmp op_ne (PD.bo (pd_len (PD.tp (pd_var 4)) T.len)) (PD.bo pd_int) ob_neI (nomark _)) fun _ => tw_or1 (td_not (td_val (pd_isi "list" (PD.bo (pd_ix (PD.tp (pd_var 4)) pd_int (at_nat (j := 1) rfl rfl))) rfl (k := true) (by decide +kernel) T.isinstance T.list))))) rfl) (fun z => by cases z) (fun _ => go_on ?_)
    refine go_if (k := true) (TD.eq (td_cmp op_eq (PD.bo (pd_ix (PD.tp (pd_var 4)) pd_int (at_nat (j := 0) rfl rfl))) (PD.bo pd_str) ob_eqS (nomark _)) (decide_eq_true rfl)) (fun _ => ?_) (fun z => by cases z)
    have hnd : (srtS (keysE (bfs (normF f) g))).Nodup := (srtS_perm _).nodup_iff.mpr (bfs_bi wg).nd
    have hl := bi_len (bfs_bi wg) wg
    refine go_asgC 5 cx (pl_lcIf (xs := srtS (keysE (bfs (normF f) g))) (f := dHt (normF f) g) (g := fun U => .int (hgt (normF f) g U)) (fun U => decide (U = S)) 6 cx (PN.its (pn_call cH hr (normF f, g) (pds_cons (pd_var 0) (pds_cons (pd_var 3) pds_nil)) (by dsimp only; rw [if_pos wg.gd, if_pos wg.cr]) zg))
      (fun Fp U hU s5 H5 C5 cl5 fp5 => TD.eq (td_cmp (op_eqD cx.u64) (PD.bo (pd_ix (PD.tp (pd_var 6)) pd_int (at_nat (j := 0) rfl rfl))) (PD.bo (pd_var 2)) (ob_eqD (pl_st U) (pl_st S) (by decide) (by decide)) (nomark _)) (eqv_st U S))
      (fun Fp U hU tU s5 H5 C5 cl5 fp5 => pd_ix (PD.tp (pd_var 6)) pd_int (at_nat (j := 1) rfl rfl)) ?_) ?_
    · rw [(srtS_perm _).length_eq, List.length_map]
      exact szBig (by unfold bfsN at hl; omega)
    rw [only_one hnd ((srtS_perm _).mem_iff.mpr hin)]
    refine go_ret (PD.eq (pd_and (pd_cmp (op_eqD cx.u64) (PD.bo (pd_call cW (hr.mono (by decide)) (f, S, row) (pds_cons (pd_var 1) (pds_cons (pd_var 2) (pds_cons (pd_ix (PD.tp (pd_var 4)) pd_int (at_nat (j := 1) rfl rfl)) pds_nil))) rfl ⟨v1, by rw [← gn]; exact wS.gd, ⟨zS.1, n1, n3⟩⟩)) (PD.bo (pd_var 3)) (ob_eqD (pl_st _) (pl_st g) (by decide) (by decide)) (nomark _))
      fun _ => pd_one (pd_cmp (op_eqD cx.u64) (pb_own 5) (PN.bo (pn_lst (pds_cons (pd_len (PD.ls (pd_ix (PD.tp (pd_var 4)) pd_int (at_nat (j := 1) rfl rfl))) T.len) pds_nil))) (ob_eqD (pl_intsP [_]) (pl_intsP [((dLfs row).length : Int)]) (by decide) (by decide)) (nomark _))) ?_) ho
    have e1 : PyData.eqv (dSt (ends S row)) (dSt g) = true := by rw [eqv_st, v2, decide_eq_true rfl]
    have e2 : PyData.eqv (.list (dIs [hgt (normF f) g S])) (.list (dIs [((dLfs row).length : Int)])) = true := by
      rw [eqv_intsP]
      refine decide_eq_true ?_
      rw [List.length_map, v3]
      congr 1
      omega
    show PyData.bool (PyData.eqv _ _ && PyData.eqv _ _) = _
    rw [e1]
    show PyData.bool (true && PyData.eqv (.list (dIs [hgt (normF f) g S])) (.list (dIs [((dLfs row).length : Int)]))) = _
    rw [e2]
    rfl
  · refine go_asg (d := .tuple [.str (Str.ofString "shut"), .list ((rowsK f S).map dSt)]) 4 cx.nd (PRw.da (pr_call cP hr (normF f, S, g) (pds_cons (pd_var 0) (pds_cons (pd_var 2) (pds_cons (pd_var 3) pds_nil))) (by unfold outPlan; dsimp only; rw [if_pos (by rw [wS.gd, wg.gd]; rfl), if_pos wS.cr, if_pos iso, if_neg hin]; rfl) ⟨zS, zg⟩ tolP_from)) ?_
    refine go_if (k := false) (TD.eq (TW.t (tw_or (td_not (td_val (pd_isi "tuple" (PD.bo (pd_var 4)) rfl (k := true) (by decide +kernel) T.isinstance T.tuple))) fun _ => tw_or (td_cmp op_ne (PD.bo (pd_len (PD.tp (pd_var 4)) T.len)) (PD.bo pd_int) ob_neI (nomark _)) fun _ => tw_or1 (td_not (td_val (pd_isi "list" (PD.bo (pd_ix (PD.tp (pd_var 4)) pd_int (at_nat (j := 1) rfl rfl))) rfl (k := true) (by decide +kernel) T.isinstance T.list))))) rfl) (fun z => by cases z) (fun _ => go_on ?_)
    refine go_if (k := false) (TD.eq (td_cmp op_eq (PD.bo (pd_ix (PD.tp (pd_var 4)) pd_int (at_nat (j := 0) rfl rfl))) (PD.bo pd_str) ob_eqS (nomark _)) plan_shut) (fun z => by cases z) (fun _ => go_on ?_)
    have hg : g ∉ rowsK f S := fun z => hin (keys_sym wS wg ((srtS_perm _).mem_iff.mp z))
    refine go_ret (PD.eq (pd_and (pd_cmp op_eq (PD.bo (pd_ix (PD.tp (pd_var 4)) pd_int (at_nat (j := 0) rfl rfl))) (PD.bo pd_str) ob_eqS (nomark _)) fun _ => pd_and (pd_call cS (hr.mono (by decide)) (f, S, g) (pds_cons (pd_var 1) (pds_cons (pd_var 2) (pds_cons (pd_var 3) (pds_cons (pd_ix (PD.tp (pd_var 4)) pd_int (at_nat (j := 1) rfl rfl)) pds_nil)))) rfl ⟨sm, hg⟩)
      fun _ => pd_one (pd_cmp (op_eqD cx.u64) (PN.bo (pn_call cC hr (normF f, S) (pds_cons (pd_var 0) (pds_cons (pd_var 2) pds_nil)) (by dsimp only; rw [if_pos wS.gd, if_pos wS.cr]) zS)) (PD.bo (pd_ix (PD.tp (pd_var 4)) pd_int (at_nat (j := 1) rfl rfl))) (ob_eqD (pl_stsP _) (pl_stsP _) (by decide) (by decide)) (nomark _))) ?_) ho
    rw [eqv_refl (pl_stsP _), decide_eq_true rfl]
    rfl
end
end G

namespace G
open PySem L2
theorem pd_intB {X : Cx} {B : Bs} {ss : List SD} {e : Expr} {p pos : Pos} {k : Bool} (ha : PD X B e ss (.bool k)) (hm : X.mg "int" = none) (hv : bootBuiltins "int" = some (.type "int") := by decide +kernel) (hg : Gl X "int" := by rfl) (hn : NSt X e := by intro _; rfl) : PD X B (.Call (.Name "int" p) [e] [] pos) ss (.int (if k = true then 1 else 0)) := fun σ F H s Q q =>
  sem_of (pe_callTy call_int1 hg hm hv (pa_cons pe_sem pa_nil (hn [])) (by decide) (by decide) (hn []) rfl) (ha σ F H s _ fun v F1 H1 g r => by
    cases r
    exact .inr ⟨k, rfl, q _ F1 H1 g (.int _)⟩)
theorem isort_eqP {l m : List Int} (p : l.Perm m) : isort l = isort m := isort_is ((isort_perm l).trans p) (isort_sorted l)
section
variable {P : Program} {w : World} {K : PySem.W.Frag} {mg : Str → Option Value} {base : Heap}
theorem sc_law_great : FnScope ["script", "floor", "crates", "start", "goal", "count", "cell", "some", "told"] ["script", "floor"] (defScope s_law_great) := ⟨rfl, rfl, rfl, by decide +kernel, rfl, by decide +kernel, by decide +kernel⟩
abbrev sp_law_great (K : PySem.W.Frag) (C : Addr) : Sp := spO K C (fun u : List Int × FL => [scr u.1, dF4 u.2]) (fun u => floorOk u.2 = true ∧ (2 < u.2.1 ∧ u.2.1 ≤ 4) ∧ (1 ≤ u.2.2.1 ∧ u.2.2.1 ≤ 6) ∧ (1 ≤ u.2.2.2.1 ∧ u.2.2.2.1 ≤ 3)) (fun _ => .val (.bool true))
set_option maxHeartbeats 2000000 in
theorem ok_law_great {C cNF cNS cTM cOC f : Addr} {fd : FuncData} (T : Bl mg) (F : L2.Fun K "_law_great" "_law_great" s_law_great f fd) (cA : Cal P w K mg base "_law_cell_at" 1 (sp_cell_at K C)) (cS : Cal P w K mg base "_law_standing" 2 (sp_law_standing K C)) (cL : Cal P w K mg base "_law_lifts" 2 (sp_law_lifts K C)) (cB : Cal P w K mg base "_law_behind" 1 (sp_law_behind K C))
    (cI : CalI P w K mg base "Floor" 2 (spInit K C cNF) C) (cP : Cal P w K mg base "plan" 5 (sp_plan K C cNS cTM cOC)) (cW : Cal P w K mg base "_law_walked" 3 (sp_law_walked K C)) :
    FnOk P w K mg base (L2.CX P w) 6 f fd ["script", "floor"] (sp_law_great K C) := by
  refine ok_fn F sc_law_great (fun _ => rfl) (fun cdv A outer s H F0 u Q E X hX cx hr tk hp ho => ?_)
  subst hX
  obtain ⟨ns, fl⟩ := u
  obtain ⟨fok, n1, n2, n3⟩ := hp
  dsimp only at fok n1 n2 n3 ho ⊢
  have hr1 : Room 1 _ := hr.mono (by decide)
  have hr2 : Room 2 _ := hr.mono (by decide)
  have bn : ∀ U, liftsOf (normF fl) U = liftsOf fl U := behind_norm fl
  have gn : ∀ U, goodF (normF fl) U = goodF fl U := good_norm fl
  obtain ⟨m, hm, hm2⟩ : ∃ m : Int, (3 + (if decide (fl.1 = 3) = true then 1 else 0) : Int) = m ∧ 3 ≤ m ∧ m ≤ 4 := ⟨_, rfl, by split <;> omega, by split <;> omega⟩
  refine go_asgN 2 cx.nd (PN.eq (pn_listRg (n := m) cx.calm (PD.eq (pd_add pd_int (pd_intB (pd_cmp op_eq (PD.bo (pd_ix (PD.tp (pd_var 1)) pd_int (at_nat (j := 0) rfl rfl))) (PD.bo pd_int) ob_eqI (nomark _)) T.int)) (by rw [hm])) (by omega) (by omega) T.list T.range) (rgD_I 0 m)) ?_
  refine go_freeze 2 rfl ?_
  have hrl : (rgI 0 m).length ≤ 4 := by rw [rgI_len]; omega
  generalize rgI 0 m = cr at hrl
  refine go_asg 3 cx.nd (pd_call cS hr2 (fl, cellAt ns 8 % 2147483647, cr) (pds_cons (pd_var 1) (pds_cons (pd_mod (pd_call cA hr1 (ns, 8) (pds_cons (pd_var 0) (pds_cons pd_int pds_nil)) rfl (show (0 : Int) ≤ 8 by decide)) pd_int) (pds_cons (pd_var 2) pds_nil))) rfl ⟨by show 2 ≤ fl.1 ∧ fl.1 ≤ 4; omega, show 0 ≤ fl.2.1 by omega, show cr.length ≤ 100 by omega⟩) ?_
  have gS := stand_good (f := fl) (by omega) (by omega) (cellAt ns 8 % 2147483647) cr
  have zS := stand_len (f := fl) (by omega) (by omega) (cellAt ns 8 % 2147483647) cr
  dsimp only
  generalize lawStand fl (cellAt ns 8 % 2147483647) cr = S at gS zS
  refine go_asg 4 cx.nd (pd_var 3) ?_
  refine go_asg 5 cx.nd pd_int ?_
  refine go_for (xs := ((ns.drop (HT.sIx (ns.map PyData.int).length 0 (some 10))).take (HT.sIx (ns.map PyData.int).length (ns.map PyData.int).length (some 14) - HT.sIx (ns.map PyData.int).length 0 (some 10)))) (f := PyData.int) 6
    (fun i ss => ∃ (U : Stg) (n : Nat), Rch (normF fl) U S n ∧ ss = [.dat (scr ns), .dat (dF4 fl), .dat (.list (dIs cr)), .dat (dSt S), .dat (dSt U), .dat (.int (n : Int)), .un, .un, .un]) cx
    (PN.its (PN.eq (pn_sl (PD.scl (pd_var 0)) (pod_some pd_int) (pod_some pd_int)) (by unfold cutD; rw [List.map_take, List.map_drop]))) ⟨S, 0, .nil, rfl⟩ ?_ ?_
  · rintro Fp i cell _ hi ⟨U, n, hR, rfl⟩
    obtain ⟨gU, pU⟩ := hR.good (by rw [gn]; exact gS)
    rw [gn] at gU
    have zU : U.flatten.length ≤ 4 := by rw [pU.length_eq]; omega
    have lU : (U.length : Int) = fl.1 := good_len gU
    have hf : fits fl U := fits_of ⟨by omega, by omega, n3⟩ gU
    refine go_asgN 7 cx.nd (pn_call cL hr2 (fl, U) (pds_cons (pd_var 1) (pds_cons (pd_var 4) pds_nil)) rfl hf) ?_
    dsimp only
    generalize hls : liftsOf fl U = ls
    refine go_if (k := !decide (dLfs ls = [])) (TD.eq (td_cmp (op_neD cx.u64) (pb_own 7) (PN.bo (pn_lst pds_nil)) (ob_neD (pl_lfs ls) (Pl.lst (n := 1) fun _ h => nomatch h) (by decide) (by decide)) (nomark _)) (by rw [eqv_nil])) (fun c => ?_) (fun c => go_on (go_end ⟨U, n, hR, rfl⟩ (by repeat (first | exact Wk.nil | apply Wk.same | apply Wk.un))))
    have hpos : 0 < ls.length := by
      cases ls with
      | nil => simp at c
      | cons _ _ => exact Nat.succ_pos _
    have c1 : cell % (ls.length : Int) < ls.length := Int.emod_lt_of_pos _ (by omega)
    have c0 : 0 ≤ cell % (ls.length : Int) := Int.emod_nonneg _ (by omega)
    obtain ⟨j, hj⟩ : ∃ j : Nat, cell % (ls.length : Int) = (j : Int) := ⟨(cell % (ls.length : Int)).toNat, by omega⟩
    have hjl : j < ls.length := by omega
    obtain ⟨l, hl⟩ : ∃ l, ls[j]? = some l := ⟨ls[j], List.getElem?_eq_getElem hjl⟩
    have hmem : l ∈ liftsOf fl U := by rw [hls]; exact List.mem_of_getElem? hl
    have ml := mem_liftsOf.mp hmem
    refine go_asg (d := dSt (behindL U l)) 4 cx.nd (pd_call cB hr1 (U, l) (pds_cons (pd_var 4) (pds_cons (pd_ix (d := dLf l) (pi_own 7) (PD.eq (pd_mod (pd_var 6) (pd_len (pi_own 7) T.len) (by rw [List.length_map]; omega)) (by rw [List.length_map])) (at_nat (j := j) hj (by rw [List.getElem?_map, hl]; rfl))) pds_nil)) rfl ⟨lift_in hmem, ml.2.2.1, by show U.flatten.length ≤ 1000; omega, by show U.length ≤ 1000; omega⟩) ?_
    refine go_asg 5 cx.nd (pd_add (pd_var 5) pd_int) ?_
    exact go_on (go_end ⟨behindL U l, n + 1, Rch.snoc (List.mem_map.mpr ⟨l, by rw [bn]; exact hmem, rfl⟩) hR, rfl⟩ (.same (.same (.same (.same (.same (.same (.un (.un (.same .nil))))))))))
  rintro _ ⟨U, n, hR, rfl⟩
  obtain ⟨gU, pU⟩ := hR.good (by rw [gn]; exact gS)
  have zU : U.flatten.length ≤ 4 := by rw [pU.length_eq]; omega
  have wS : Few (normF fl) S := ⟨by rw [gn]; exact gS, by show 2 ≤ fl.1 ∧ fl.1 ≤ 4; omega, n3, by omega⟩
  have wU : Few (normF fl) U := ⟨gU, by show 2 ≤ fl.1 ∧ fl.1 ≤ 4; omega, n3, zU⟩
  obtain ⟨hin, hle⟩ := hR.keys wU wS.gd
  obtain ⟨v1, v2, v3⟩ := plan_ok wU _ S hin rfl
  have hval : ∀ (row : List LF) (V : Stg), valid (normF fl) V row → valid fl V row := fun row => by
    induction row with
    | nil => intro V _; exact trivial
    | cons l row ih => intro V v; exact ⟨by rw [← bn]; exact v.1, ih _ v.2⟩
  have v1 := hval _ _ v1
  have h0 := hgt_pos wU hin
  have hpl : planGo (normF fl) U (hgt (normF fl) U S).toNat S = planL (normF fl) U S := rfl
  rw [hpl] at v1 v2 v3
  refine go_asg (d := .tuple [.str (Str.ofString "plan"), .list (dLfs (planL (normF fl) U S))]) 8 cx.nd (PRw.da (pr_call cP hr (normF fl, S, U) (pds_cons (pd_make cI (hr.mono (by decide)) fl (pga_dat (pd_ix (PD.tp (pd_var 1)) pd_int (at_nat (j := 0) rfl rfl)) (pga_dat (pd_ix (PD.tp (pd_var 1)) pd_int (at_nat (j := 1) rfl rfl)) (pga_dat (pd_ix (PD.tp (pd_var 1)) pd_int (at_nat (j := 2) rfl rfl)) (pga_bor (PN.bo (pn_list (PD.ls (pd_ix (PD.tp (pd_var 1)) pd_int (at_nat (j := 3) rfl rfl))) T.list)) pga_nil)))) fok) (pds_cons (pd_var 3) (pds_cons (pd_var 4) pds_nil))) (by unfold outPlan; dsimp only; rw [if_pos (by rw [wS.gd, wU.gd]; rfl), if_pos wS.cr, if_pos (isort_eqP pU.symm), if_pos hin]; rfl) ⟨⟨by show S.flatten.length ≤ 1000; omega, wS.fl, n3⟩, by show U.flatten.length ≤ 1000; omega, wS.fl, n3⟩ tolP_from)) ?_
  generalize planL (normF fl) U S = row at v1 v2 v3
  refine go_if (k := false) (TD.eq (TW.t (tw_or (td_not (td_val (pd_isi "tuple" (PD.bo (pd_var 8)) rfl (k := true) (by decide +kernel) T.isinstance T.tuple))) fun _ => tw_or (td_cmp op_ne (PD.bo (pd_ix (PD.tp (pd_var 8)) pd_int (at_nat (j := 0) rfl rfl))) (PD.bo pd_str) ob_neS (nomark _)) fun _ => tw_or1 (td_not (td_val (pd_isi "list" (PD.bo (pd_ix (PD.tp (pd_var 8)) pd_int (at_nat (j := 1) rfl rfl))) rfl (k := true) (by decide +kernel) T.isinstance T.list))))) (by rw [decide_eq_true rfl]; rfl)) (fun z => by cases z) (fun _ => go_on ?_)
  refine go_ret (PD.eq (pd_and (pd_cmp op_le (PD.bo (pd_len (PD.ls (pd_ix (PD.tp (pd_var 8)) pd_int (at_nat (j := 1) rfl rfl))) T.len)) (PD.bo (pd_var 5)) ob_le (nomark _)) fun _ => pd_one (pd_cmp (op_eqD cx.u64) (PD.bo (pd_call cW (hr.mono (by decide)) (fl, S, row) (pds_cons (pd_var 1) (pds_cons (pd_var 3) (pds_cons (pd_ix (PD.tp (pd_var 8)) pd_int (at_nat (j := 1) rfl rfl)) pds_nil))) rfl ⟨v1, gS, by show S.flatten.length ≤ 1000; omega, by show 2 ≤ fl.1 ∧ fl.1 ≤ 4; omega, n3⟩)) (PD.bo (pd_var 4)) (ob_eqD (pl_st _) (pl_st U) (by decide) (by decide)) (nomark _))) ?_) ho
  rw [eqv_st, v2, decide_eq_true rfl, List.length_map, v3, decide_eq_true (by omega)]
  rfl
end
end G

namespace G
open PySem L2
section
variable {P : Program} {w : World} {K : PySem.W.Frag} {mg : Str → Option Value} {base : Heap}
theorem sc_law : FnScope ["script", "floor", "crates", "start", "goal", "walked", "cell", "some", "made", "told"] ["script"] (defScope s_law) := ⟨rfl, rfl, rfl, by decide +kernel, rfl, by decide +kernel, by decide +kernel⟩
set_option maxHeartbeats 4000000 in
theorem ok_law {C cNF cNS cTM cOC f : Addr} {fd : FuncData} (T : Bl mg) (F : L2.Fun K "law" "law" s_law f fd)
    (cA : Cal P w K mg base "_law_cell_at" 1 (sp_cell_at K C)) (cF : Cal P w K mg base "_law_floor" 2 (sp_law_floor K C)) (cS : Cal P w K mg base "_law_standing" 2 (sp_law_standing K C)) (cM : Cal P w K mg base "_law_small" 2 (sp_law_small K C)) (cC : Cal P w K mg base "_law_crates" 1 (sp_law_crates K C))
    (cL : Cal P w K mg base "_law_lifts" 2 (sp_law_lifts K C)) (cB : Cal P w K mg base "_law_behind" 1 (sp_law_behind K C)) (cI : CalI P w K mg base "Floor" 2 (spInit K C cNF) C) (cP : Cal P w K mg base "plan" 5 (sp_plan K C cNS cTM cOC))
    (cR : Cal P w K mg base "_law_right" 6 (sp_law_right K C)) (cG : Cal P w K mg base "_law_great" 6 (sp_law_great K C)) :
    FnOk P w K mg base (L2.CX P w) 7 f fd ["script"] (sp_law K C) := by
  refine ok_fn F sc_law (fun _ => rfl) (fun cdv A outer s H F0 ns Q E X hX cx hr tk hp ho => ?_)
  subst hX
  have hr1 : Room 1 _ := hr.mono (by decide)
  have hr2 : Room 2 _ := hr.mono (by decide)
  refine go_asg 1 cx.nd (pd_call cF hr2 (ns, 0, 5) (pds_cons (pd_var 0) (pds_cons pd_int (pds_cons pd_int pds_nil))) rfl (show (0 : Int) ≤ 0 ∧ (0 : Int) < 5 ∧ (5 : Int) ≤ 10 by decide)) ?_
  obtain ⟨n1, n2, n3, n4⟩ := lawFl_nums ns 0 5
  have fok := lawFl_ok ns 0 (most := 5) (by decide) (by decide)
  dsimp only
  generalize lawFl ns 0 5 = fl at n1 n2 n3 n4 fok
  refine go_if (TW.t (tw_and (td_cmp op_gt (PD.bo (pd_ix (PD.tp (pd_var 1)) pd_int (at_nat (j := 0) rfl rfl))) (PD.bo pd_int) ob_gt (nomark _)) fun _ => tw_and1 (td_cmp op_eq (PD.bo (pd_mod (pd_div (pd_call cA hr1 (ns, 7) (pds_cons (pd_var 0) (pds_cons pd_int pds_nil)) rfl (show (0 : Int) ≤ 7 by decide)) pd_int) pd_int)) (PD.bo pd_int) ob_eqI (nomark _)))) (fun q => ?_) (fun q => go_on ?_)
  · have q1 := of_decide_eq_true (Bool.and_eq_true_iff.mp q).1
    exact go_ret (pd_call cG hr (ns, fl) (pds_cons (pd_var 0) (pds_cons (pd_var 1) pds_nil)) rfl ⟨fok, by show 2 < fl.1 ∧ fl.1 ≤ 4; omega, n2, n3⟩) ho
  clear q
  refine go_asgN 2 cx.nd (pn_call cM hr2 (ns, 7, fl) (pds_cons (pd_var 0) (pds_cons pd_int (pds_cons (pd_var 1) pds_nil))) rfl (show (0 : Int) ≤ 7 by decide)) ?_
  refine go_freeze 2 rfl ?_
  have sl := smallL_len (cellAt ns 7) fl.1
  have sf := small_few (cellAt ns 7) fl.1
  dsimp only
  generalize smallL (cellAt ns 7) fl.1 = cr at sl sf
  refine go_asg 3 cx.nd (pd_call cS hr2 (fl, cellAt ns 8 % 2147483647, cr) (pds_cons (pd_var 1) (pds_cons (pd_mod (pd_call cA hr1 (ns, 8) (pds_cons (pd_var 0) (pds_cons pd_int pds_nil)) rfl (show (0 : Int) ≤ 8 by decide)) pd_int) (pds_cons (pd_var 2) pds_nil))) rfl ⟨n1, show 0 ≤ fl.2.1 by omega, show cr.length ≤ 100 by omega⟩) ?_
  have gS := stand_good (f := fl) (by omega) (by omega) (cellAt ns 8 % 2147483647) cr
  have zS := stand_len (f := fl) (by omega) (by omega) (cellAt ns 8 % 2147483647) cr
  dsimp only
  generalize lawStand fl (cellAt ns 8 % 2147483647) cr = S at gS zS
  refine go_asg 4 cx.nd (pd_call cS hr2 (fl, cellAt ns 9 % 2147483647, cr) (pds_cons (pd_var 1) (pds_cons (pd_mod (pd_call cA hr1 (ns, 9) (pds_cons (pd_var 0) (pds_cons pd_int pds_nil)) rfl (show (0 : Int) ≤ 9 by decide)) pd_int) (pds_cons (pd_var 2) pds_nil))) rfl ⟨n1, show 0 ≤ fl.2.1 by omega, show cr.length ≤ 100 by omega⟩) ?_
  have gg := stand_good (f := fl) (by omega) (by omega) (cellAt ns 9 % 2147483647) cr
  have zg := stand_len (f := fl) (by omega) (by omega) (cellAt ns 9 % 2147483647) cr
  dsimp only
  generalize lawStand fl (cellAt ns 9 % 2147483647) cr = g0 at gg zg
  refine go_asg 5 cx.nd (pd_cmp op_gt (PD.bo (pd_mod (pd_div (pd_call cA hr1 (ns, 7) (pds_cons (pd_var 0) (pds_cons pd_int pds_nil)) rfl (show (0 : Int) ≤ 7 by decide)) pd_int) pd_int)) (PD.bo pd_int) ob_gt (nomark _)) ?_
  dsimp only
  generalize decide (0 < cellAt ns 7 / 24 % 3) = wk
  have bn : ∀ U, liftsOf (normF fl) U = liftsOf fl U := behind_norm fl
  have gn : ∀ U, goodF (normF fl) U = goodF fl U := good_norm fl
  have sm : ∀ U : Stg, goodF fl U = true → U.flatten.length ≤ cr.length → Sml (normF fl) U := fun U g h => ⟨⟨by rw [gn]; exact g, n1, n3, by omega⟩, fun e => Nat.le_trans h (sf.1 e), fun e => Nat.le_trans h (sf.2 e)⟩
  have sS := sm S gS zS
  refine go_ifJ (fun ss => ∃ U : Stg, Sml (normF fl) U ∧ isort S.flatten = isort U.flatten ∧ (wk = true → S ∈ keysE (bfs (normF fl) U)) ∧ ss = [.dat (scr ns), .dat (dF4 fl), .dat (.list (dIs cr)), .dat (dSt S), .dat (dSt U), .dat (.bool wk), .un, .un, .un, .un])
    (TW.t (tw_or (td_val (pd_var 5)) fun _ => tw_or1 (td_cmp (op_neD cx.u64) (PN.bo (pn_call cC hr1 S (pds_cons (pd_var 3) pds_nil) rfl (show S.flatten.length ≤ 1000 by omega))) (PN.bo (pn_call cC hr1 g0 (pds_cons (pd_var 4) pds_nil) rfl (show g0.flatten.length ≤ 1000 by omega))) (ob_neD (pl_intsP _) (pl_intsP _) (by decide) (by decide)) (nomark _)))) (fun _ => ?_) (fun q => ?_) ?_
  · refine go_asg 4 cx.nd (pd_var 3) ?_
    refine go_for (xs := ((ns.drop (HT.sIx (ns.map PyData.int).length 0 (some 10))).take (HT.sIx (ns.map PyData.int).length (ns.map PyData.int).length (some 22) - HT.sIx (ns.map PyData.int).length 0 (some 10)))) (f := PyData.int) 6
      (fun i ss => ∃ (U : Stg) (n : Nat), Rch (normF fl) U S n ∧ ss = [.dat (scr ns), .dat (dF4 fl), .dat (.list (dIs cr)), .dat (dSt S), .dat (dSt U), .dat (.bool wk), .un, .un, .un, .un]) cx
      (PN.its (PN.eq (pn_sl (PD.scl (pd_var 0)) (pod_some pd_int) (pod_some pd_int)) (by unfold cutD; rw [List.map_take, List.map_drop]))) ⟨S, 0, .nil, rfl⟩ ?_ ?_
    · rintro Fp i cell _ hi ⟨U, n, hR, rfl⟩
      obtain ⟨gU, pU⟩ := hR.good (by rw [gn]; exact gS)
      rw [gn] at gU
      have zU : U.flatten.length ≤ 4 := by rw [pU.length_eq]; omega
      have lU : (U.length : Int) = fl.1 := good_len gU
      have hf : fits fl U := fits_of ⟨by omega, n1, n3⟩ gU
      refine go_asgN 7 cx.nd (pn_call cL hr2 (fl, U) (pds_cons (pd_var 1) (pds_cons (pd_var 4) pds_nil)) rfl hf) ?_
      dsimp only
      generalize hls : liftsOf fl U = ls
      refine go_if (k := !decide (dLfs ls = [])) (TD.eq (td_cmp (op_neD cx.u64) (pb_own 7) (PN.bo (pn_lst pds_nil)) (ob_neD (pl_lfs ls) (Pl.lst (n := 1) fun _ h => nomatch h) (by decide) (by decide)) (nomark _)) (by rw [eqv_nil])) (fun c => ?_) (fun c => go_on (go_end ⟨U, n, hR, rfl⟩ (by repeat (first | exact Wk.nil | apply Wk.same | apply Wk.un))))
      have hpos : 0 < ls.length := by
        cases ls with
        | nil => simp at c
        | cons _ _ => exact Nat.succ_pos _
      have c1 : cell % (ls.length : Int) < ls.length := Int.emod_lt_of_pos _ (by omega)
      have c0 : 0 ≤ cell % (ls.length : Int) := Int.emod_nonneg _ (by omega)
      obtain ⟨j, hj⟩ : ∃ j : Nat, cell % (ls.length : Int) = (j : Int) := ⟨(cell % (ls.length : Int)).toNat, by omega⟩
      have hjl : j < ls.length := by omega
      obtain ⟨l, hl⟩ : ∃ l, ls[j]? = some l := ⟨ls[j], List.getElem?_eq_getElem hjl⟩
      have hmem : l ∈ liftsOf fl U := by rw [hls]; exact List.mem_of_getElem? hl
      have ml := mem_liftsOf.mp hmem
      refine go_asg (d := dSt (behindL U l)) 4 cx.nd (pd_call cB hr1 (U, l) (pds_cons (pd_var 4) (pds_cons (pd_ix (d := dLf l) (pi_own 7) (PD.eq (pd_mod (pd_var 6) (pd_len (pi_own 7) T.len) (by rw [List.length_map]; omega)) (by rw [List.length_map])) (at_nat (j := j) hj (by rw [List.getElem?_map, hl]; rfl))) pds_nil)) rfl ⟨lift_in hmem, ml.2.2.1, by show U.flatten.length ≤ 1000; omega, by show U.length ≤ 1000; omega⟩) ?_
      exact go_on (go_end ⟨behindL U l, n + 1, Rch.snoc (List.mem_map.mpr ⟨l, by rw [bn]; exact hmem, rfl⟩) hR, rfl⟩ (.same (.same (.same (.same (.same (.same (.un (.un (.same (.same .nil)))))))))))
    · rintro _ ⟨U, n, hR, rfl⟩
      obtain ⟨gU, pU⟩ := hR.good (by rw [gn]; exact gS)
      rw [gn] at gU
      have sU := sm U gU (by rw [pU.length_eq]; exact zS)
      exact go_end ⟨U, sU, isort_eqP pU.symm, fun _ => (hR.keys sU.w sS.w.gd).1, rfl⟩
  · obtain ⟨q1, q2⟩ := Bool.or_eq_false_iff.mp q
    rw [eqv_intsP] at q2
    have q3 : isort S.flatten = isort g0.flatten := by simpa using q2
    have q4 : wk = true → S ∈ keysE (bfs (normF fl) g0) := fun z => by rw [z] at q1; cases q1
    exact go_end ⟨g0, sm g0 gg zg, q3, q4, rfl⟩
  rintro _ ⟨U, sU, iso, hwk, rfl⟩
  refine go_asg 8 cx.nd (pd_make cI (hr.mono (by decide)) fl (pga_dat (pd_ix (PD.tp (pd_var 1)) pd_int (at_nat (j := 0) rfl rfl)) (pga_dat (pd_ix (PD.tp (pd_var 1)) pd_int (at_nat (j := 1) rfl rfl)) (pga_dat (pd_ix (PD.tp (pd_var 1)) pd_int (at_nat (j := 2) rfl rfl)) (pga_bor (PN.bo (pn_list (PD.ls (pd_ix (PD.tp (pd_var 1)) pd_int (at_nat (j := 3) rfl rfl))) T.list)) pga_nil)))) fok) ?_
  refine go_if (k := false) (TD.eq (TW.t (tw_or (td_not (td_val (pd_call cR hr (fl, S, U) (pds_cons (pd_var 8) (pds_cons (pd_var 1) (pds_cons (pd_var 3) (pds_cons (pd_var 4) pds_nil)))) rfl ⟨sS, sU.w, iso⟩))) fun _ => tw_or1 (td_not (td_val (pd_call cR hr (fl, U, S) (pds_cons (pd_var 8) (pds_cons (pd_var 1) (pds_cons (pd_var 4) (pds_cons (pd_var 3) pds_nil)))) rfl ⟨sU, sS.w, iso.symm⟩))))) rfl) (fun z => by cases z) (fun _ => go_on ?_)
  have zzS : sizes (normF fl) S := ⟨by have := sS.w.cr; omega, n1, n3⟩
  have zzU : sizes (normF fl) U := ⟨by have := sU.w.cr; omega, n1, n3⟩
  by_cases hin : S ∈ keysE (bfs (normF fl) U)
  · have h1 := hgt_pos sU.w hin
    have h2 := hgt_le sU.w hin
    have h3 := (plan_ok sU.w _ S hin rfl).2.2
    have hpl : planGo (normF fl) U (hgt (normF fl) U S).toNat S = planL (normF fl) U S := rfl
    rw [hpl] at h3
    refine go_asgT (n := 2) (i' := 1) (j' := 0) (ds := dLfs (planL (normF fl) U S)) (d := .str (Str.ofString "plan")) 9 cx.nd (pr_call cP (hr.mono (by decide)) (normF fl, S, U) (pds_cons (pd_var 8) (pds_cons (pd_var 3) (pds_cons (pd_var 4) pds_nil))) (by unfold outPlan; dsimp only; rw [if_pos (by rw [sS.w.gd, sU.w.gd]; rfl), if_pos sS.w.cr, if_pos iso, if_pos hin]; rfl) ⟨zzS, zzU⟩ tolP_from) ?_
    generalize planL (normF fl) U S = row at h3
    refine go_if (k := false) (TD.eq (TW.t (tw_and (td_val (pd_var 5)) fun _ => tw_and1 (td_cmp op_ne (PD.bo (pd_tol 9 rfl rfl)) (PD.bo pd_str) ob_neS (nomark _)))) (by rw [decide_eq_true rfl]; exact Bool.and_false _)) (fun z => by cases z) (fun _ => go_on ?_)
    refine go_tolApp 9 rfl rfl (pd_tup (pds_cons pd_int (pds_cons pd_int (pds_cons pd_int pds_nil)))) ?_ (by rw [List.length_map]; exact szBig (by omega)) rfl (fun j es => noOwn_at rfl)
    exact go_ret (pd_call cR hr (fl, S, U) (pds_cons (pd_var 8) (pds_cons (pd_var 1) (pds_cons (pd_var 3) (pds_cons (pd_var 4) pds_nil)))) rfl ⟨sS, sU.w, iso⟩) ho
  · have hw0 : wk = false := by
      cases wk with
      | false => rfl
      | true => exact absurd (hwk rfl) hin
    have hl := bi_len (bfs_bi sS.w) sS.w
    refine go_asgT (n := 2) (i' := 1) (j' := 0) (ds := (rowsK fl S).map dSt) (d := .str (Str.ofString "shut")) 9 cx.nd (pr_call cP (hr.mono (by decide)) (normF fl, S, U) (pds_cons (pd_var 8) (pds_cons (pd_var 3) (pds_cons (pd_var 4) pds_nil))) (by unfold outPlan; dsimp only; rw [if_pos (by rw [sS.w.gd, sU.w.gd]; rfl), if_pos sS.w.cr, if_pos iso, if_neg hin]; rfl) ⟨zzS, zzU⟩ tolP_from) ?_
    refine go_if (k := false) (TD.eq (TW.t (tw_and (td_val (pd_var 5)) fun _ => tw_and1 (td_cmp op_ne (PD.bo (pd_tol 9 rfl rfl)) (PD.bo pd_str) ob_neS (nomark _)))) (by rw [hw0]; rfl)) (fun z => by cases z) (fun _ => go_on ?_)
    refine go_tolApp 9 rfl rfl (pd_tup (pds_cons pd_int (pds_cons pd_int (pds_cons pd_int pds_nil)))) ?_ (by rw [List.length_map, (srtS_perm _).length_eq, List.length_map]; exact szBig (by unfold bfsN at hl; omega)) rfl (fun j es => noOwn_at rfl)
    exact go_ret (pd_call cR hr (fl, S, U) (pds_cons (pd_var 8) (pds_cons (pd_var 1) (pds_cons (pd_var 3) (pds_cons (pd_var 4) pds_nil)))) rfl ⟨sS, sU.w, iso⟩) ho
end
end G

namespace G
open PySem L2
theorem all_mk {l : PySem.W.OpenLaw} {w : World} {K : PySem.W.Frag} {h : Heap} {mg : Str → Option Value} {fa C f_see_bans f_crates_of f_stack_is_good f_is_good f_see_standing f_behind f_all_lifts f_see_few f_told_heights f_come_to f_heights f_plan f_law_cell_at f_law_whole f_law_floor f_law_good f_law_standing f_law_behind f_law_lifts f_law_tuple f_law_stands f_law_small f_law_crates f_law_walked f_law_shut f_law_right f_law_great f_law f_Floor_init C_NoFloor C_NoStanding C_TooMany C_OtherCrates : Addr} (X : K.In h) (G : h.Ns mainGlobals mg) (hfa : mg "law" = some (.ref fa))
    {od_see_bans an_see_bans od_crates_of an_crates_of od_stack_is_good an_stack_is_good od_is_good an_is_good od_see_standing an_see_standing od_behind an_behind od_all_lifts an_all_lifts od_see_few an_see_few od_told_heights an_told_heights od_come_to an_come_to od_heights an_heights od_plan an_plan od_law_cell_at an_law_cell_at od_law_whole an_law_whole od_law_floor an_law_floor od_law_good an_law_good od_law_standing an_law_standing od_law_behind an_law_behind od_law_lifts an_law_lifts od_law_tuple an_law_tuple od_law_stands an_law_stands od_law_small an_law_small od_law_crates an_law_crates od_law_walked an_law_walked od_law_shut an_law_shut od_law_right an_law_right od_law_great an_law_great od_law an_law od_Floor_init an_Floor_init : Option Addr}
    {tm : Nat}
    {sl_see_bans sl_crates_of sl_stack_is_good sl_is_good sl_see_standing sl_behind sl_all_lifts sl_see_few sl_told_heights sl_come_to sl_heights sl_plan sl_law_cell_at sl_law_whole sl_law_floor sl_law_good sl_law_standing sl_law_behind sl_law_lifts sl_law_tuple sl_law_stands sl_law_small sl_law_crates sl_law_walked sl_law_shut sl_law_right sl_law_great sl_law sl_Floor_init : Array (Option Value)}
    {oc_see_bans kV_see_bans dc_see_bans pm_see_bans cd_see_bans ct_see_bans oc_crates_of kV_crates_of dc_crates_of pm_crates_of cd_crates_of ct_crates_of oc_stack_is_good kV_stack_is_good dc_stack_is_good pm_stack_is_good cd_stack_is_good ct_stack_is_good oc_is_good kV_is_good dc_is_good pm_is_good cd_is_good ct_is_good oc_see_standing kV_see_standing dc_see_standing pm_see_standing cd_see_standing ct_see_standing oc_behind kV_behind dc_behind pm_behind cd_behind ct_behind oc_all_lifts kV_all_lifts dc_all_lifts pm_all_lifts cd_all_lifts ct_all_lifts oc_see_few kV_see_few dc_see_few pm_see_few cd_see_few ct_see_few oc_told_heights kV_told_heights dc_told_heights pm_told_heights cd_told_heights ct_told_heights oc_come_to kV_come_to dc_come_to pm_come_to cd_come_to ct_come_to oc_heights kV_heights dc_heights pm_heights cd_heights ct_heights oc_plan kV_plan dc_plan pm_plan cd_plan ct_plan oc_law_cell_at kV_law_cell_at dc_law_cell_at pm_law_cell_at cd_law_cell_at ct_law_cell_at oc_law_whole kV_law_whole dc_law_whole pm_law_whole cd_law_whole ct_law_whole oc_law_floor kV_law_floor dc_law_floor pm_law_floor cd_law_floor ct_law_floor oc_law_good kV_law_good dc_law_good pm_law_good cd_law_good ct_law_good oc_law_standing kV_law_standing dc_law_standing pm_law_standing cd_law_standing ct_law_standing oc_law_behind kV_law_behind dc_law_behind pm_law_behind cd_law_behind ct_law_behind oc_law_lifts kV_law_lifts dc_law_lifts pm_law_lifts cd_law_lifts ct_law_lifts oc_law_tuple kV_law_tuple dc_law_tuple pm_law_tuple cd_law_tuple ct_law_tuple oc_law_stands kV_law_stands dc_law_stands pm_law_stands cd_law_stands ct_law_stands oc_law_small kV_law_small dc_law_small pm_law_small cd_law_small ct_law_small oc_law_crates kV_law_crates dc_law_crates pm_law_crates cd_law_crates ct_law_crates oc_law_walked kV_law_walked dc_law_walked pm_law_walked cd_law_walked ct_law_walked oc_law_shut kV_law_shut dc_law_shut pm_law_shut cd_law_shut ct_law_shut oc_law_right kV_law_right dc_law_right pm_law_right cd_law_right ct_law_right oc_law_great kV_law_great dc_law_great pm_law_great cd_law_great ct_law_great oc_law kV_law dc_law pm_law cd_law ct_law oc_Floor_init kV_Floor_init dc_Floor_init pm_Floor_init cd_Floor_init ct_Floor_init : Value}
    (a_see_bans : PySem.W.nsIn K mainGlobals "see_bans" = some (some (.ref f_see_bans)))
    (l_see_bans : K.lookup f_see_bans = some ⟨oc_see_bans, od_see_bans, .func (PySem.W.fnOf "see_bans" "see_bans" (defArgs s_see_bans) (defBody s_see_bans) (defScope s_see_bans) .none kV_see_bans dc_see_bans pm_see_bans an_see_bans cd_see_bans ct_see_bans), sl_see_bans⟩)
    (c_see_bans : PySem.W.codeIn K cd_see_bans "see_bans" = true)
    (k_see_bans : PySem.W.keepIn K (.ref f_see_bans) = true)
    (a_crates_of : PySem.W.nsIn K mainGlobals "crates_of" = some (some (.ref f_crates_of)))
    (l_crates_of : K.lookup f_crates_of = some ⟨oc_crates_of, od_crates_of, .func (PySem.W.fnOf "crates_of" "crates_of" (defArgs s_crates_of) (defBody s_crates_of) (defScope s_crates_of) .none kV_crates_of dc_crates_of pm_crates_of an_crates_of cd_crates_of ct_crates_of), sl_crates_of⟩)
    (c_crates_of : PySem.W.codeIn K cd_crates_of "crates_of" = true)
    (k_crates_of : PySem.W.keepIn K (.ref f_crates_of) = true)
    (a_stack_is_good : PySem.W.nsIn K mainGlobals "stack_is_good" = some (some (.ref f_stack_is_good)))
    (l_stack_is_good : K.lookup f_stack_is_good = some ⟨oc_stack_is_good, od_stack_is_good, .func (PySem.W.fnOf "stack_is_good" "stack_is_good" (defArgs s_stack_is_good) (defBody s_stack_is_good) (defScope s_stack_is_good) .none kV_stack_is_good dc_stack_is_good pm_stack_is_good an_stack_is_good cd_stack_is_good ct_stack_is_good), sl_stack_is_good⟩)
    (c_stack_is_good : PySem.W.codeIn K cd_stack_is_good "stack_is_good" = true)
    (k_stack_is_good : PySem.W.keepIn K (.ref f_stack_is_good) = true)
    (a_is_good : PySem.W.nsIn K mainGlobals "is_good" = some (some (.ref f_is_good)))
    (l_is_good : K.lookup f_is_good = some ⟨oc_is_good, od_is_good, .func (PySem.W.fnOf "is_good" "is_good" (defArgs s_is_good) (defBody s_is_good) (defScope s_is_good) .none kV_is_good dc_is_good pm_is_good an_is_good cd_is_good ct_is_good), sl_is_good⟩)
    (c_is_good : PySem.W.codeIn K cd_is_good "is_good" = true)
    (k_is_good : PySem.W.keepIn K (.ref f_is_good) = true)
    (a_see_standing : PySem.W.nsIn K mainGlobals "see_standing" = some (some (.ref f_see_standing)))
    (l_see_standing : K.lookup f_see_standing = some ⟨oc_see_standing, od_see_standing, .func (PySem.W.fnOf "see_standing" "see_standing" (defArgs s_see_standing) (defBody s_see_standing) (defScope s_see_standing) .none kV_see_standing dc_see_standing pm_see_standing an_see_standing cd_see_standing ct_see_standing), sl_see_standing⟩)
    (c_see_standing : PySem.W.codeIn K cd_see_standing "see_standing" = true)
    (k_see_standing : PySem.W.keepIn K (.ref f_see_standing) = true)
    (a_behind : PySem.W.nsIn K mainGlobals "behind" = some (some (.ref f_behind)))
    (l_behind : K.lookup f_behind = some ⟨oc_behind, od_behind, .func (PySem.W.fnOf "behind" "behind" (defArgs s_behind) (defBody s_behind) (defScope s_behind) .none kV_behind dc_behind pm_behind an_behind cd_behind ct_behind), sl_behind⟩)
    (c_behind : PySem.W.codeIn K cd_behind "behind" = true)
    (k_behind : PySem.W.keepIn K (.ref f_behind) = true)
    (a_all_lifts : PySem.W.nsIn K mainGlobals "all_lifts" = some (some (.ref f_all_lifts)))
    (l_all_lifts : K.lookup f_all_lifts = some ⟨oc_all_lifts, od_all_lifts, .func (PySem.W.fnOf "all_lifts" "all_lifts" (defArgs s_all_lifts) (defBody s_all_lifts) (defScope s_all_lifts) .none kV_all_lifts dc_all_lifts pm_all_lifts an_all_lifts cd_all_lifts ct_all_lifts), sl_all_lifts⟩)
    (c_all_lifts : PySem.W.codeIn K cd_all_lifts "all_lifts" = true)
    (k_all_lifts : PySem.W.keepIn K (.ref f_all_lifts) = true)
    (a_see_few : PySem.W.nsIn K mainGlobals "see_few" = some (some (.ref f_see_few)))
    (l_see_few : K.lookup f_see_few = some ⟨oc_see_few, od_see_few, .func (PySem.W.fnOf "see_few" "see_few" (defArgs s_see_few) (defBody s_see_few) (defScope s_see_few) .none kV_see_few dc_see_few pm_see_few an_see_few cd_see_few ct_see_few), sl_see_few⟩)
    (c_see_few : PySem.W.codeIn K cd_see_few "see_few" = true)
    (k_see_few : PySem.W.keepIn K (.ref f_see_few) = true)
    (a_told_heights : PySem.W.nsIn K mainGlobals "told_heights" = some (some (.ref f_told_heights)))
    (l_told_heights : K.lookup f_told_heights = some ⟨oc_told_heights, od_told_heights, .func (PySem.W.fnOf "told_heights" "told_heights" (defArgs s_told_heights) (defBody s_told_heights) (defScope s_told_heights) .none kV_told_heights dc_told_heights pm_told_heights an_told_heights cd_told_heights ct_told_heights), sl_told_heights⟩)
    (c_told_heights : PySem.W.codeIn K cd_told_heights "told_heights" = true)
    (k_told_heights : PySem.W.keepIn K (.ref f_told_heights) = true)
    (a_come_to : PySem.W.nsIn K mainGlobals "come_to" = some (some (.ref f_come_to)))
    (l_come_to : K.lookup f_come_to = some ⟨oc_come_to, od_come_to, .func (PySem.W.fnOf "come_to" "come_to" (defArgs s_come_to) (defBody s_come_to) (defScope s_come_to) .none kV_come_to dc_come_to pm_come_to an_come_to cd_come_to ct_come_to), sl_come_to⟩)
    (c_come_to : PySem.W.codeIn K cd_come_to "come_to" = true)
    (k_come_to : PySem.W.keepIn K (.ref f_come_to) = true)
    (a_heights : PySem.W.nsIn K mainGlobals "heights" = some (some (.ref f_heights)))
    (l_heights : K.lookup f_heights = some ⟨oc_heights, od_heights, .func (PySem.W.fnOf "heights" "heights" (defArgs s_heights) (defBody s_heights) (defScope s_heights) .none kV_heights dc_heights pm_heights an_heights cd_heights ct_heights), sl_heights⟩)
    (c_heights : PySem.W.codeIn K cd_heights "heights" = true)
    (k_heights : PySem.W.keepIn K (.ref f_heights) = true)
    (a_plan : PySem.W.nsIn K mainGlobals "plan" = some (some (.ref f_plan)))
    (l_plan : K.lookup f_plan = some ⟨oc_plan, od_plan, .func (PySem.W.fnOf "plan" "plan" (defArgs s_plan) (defBody s_plan) (defScope s_plan) .none kV_plan dc_plan pm_plan an_plan cd_plan ct_plan), sl_plan⟩)
    (c_plan : PySem.W.codeIn K cd_plan "plan" = true)
    (k_plan : PySem.W.keepIn K (.ref f_plan) = true)
    (a_law_cell_at : PySem.W.nsIn K mainGlobals "_law_cell_at" = some (some (.ref f_law_cell_at)))
    (l_law_cell_at : K.lookup f_law_cell_at = some ⟨oc_law_cell_at, od_law_cell_at, .func (PySem.W.fnOf "_law_cell_at" "_law_cell_at" (defArgs s_law_cell_at) (defBody s_law_cell_at) (defScope s_law_cell_at) .none kV_law_cell_at dc_law_cell_at pm_law_cell_at an_law_cell_at cd_law_cell_at ct_law_cell_at), sl_law_cell_at⟩)
    (c_law_cell_at : PySem.W.codeIn K cd_law_cell_at "_law_cell_at" = true)
    (k_law_cell_at : PySem.W.keepIn K (.ref f_law_cell_at) = true)
    (a_law_whole : PySem.W.nsIn K mainGlobals "_law_whole" = some (some (.ref f_law_whole)))
    (l_law_whole : K.lookup f_law_whole = some ⟨oc_law_whole, od_law_whole, .func (PySem.W.fnOf "_law_whole" "_law_whole" (defArgs s_law_whole) (defBody s_law_whole) (defScope s_law_whole) .none kV_law_whole dc_law_whole pm_law_whole an_law_whole cd_law_whole ct_law_whole), sl_law_whole⟩)
    (c_law_whole : PySem.W.codeIn K cd_law_whole "_law_whole" = true)
    (k_law_whole : PySem.W.keepIn K (.ref f_law_whole) = true)
    (a_law_floor : PySem.W.nsIn K mainGlobals "_law_floor" = some (some (.ref f_law_floor)))
    (l_law_floor : K.lookup f_law_floor = some ⟨oc_law_floor, od_law_floor, .func (PySem.W.fnOf "_law_floor" "_law_floor" (defArgs s_law_floor) (defBody s_law_floor) (defScope s_law_floor) .none kV_law_floor dc_law_floor pm_law_floor an_law_floor cd_law_floor ct_law_floor), sl_law_floor⟩)
    (c_law_floor : PySem.W.codeIn K cd_law_floor "_law_floor" = true)
    (k_law_floor : PySem.W.keepIn K (.ref f_law_floor) = true)
    (a_law_good : PySem.W.nsIn K mainGlobals "_law_good" = some (some (.ref f_law_good)))
    (l_law_good : K.lookup f_law_good = some ⟨oc_law_good, od_law_good, .func (PySem.W.fnOf "_law_good" "_law_good" (defArgs s_law_good) (defBody s_law_good) (defScope s_law_good) .none kV_law_good dc_law_good pm_law_good an_law_good cd_law_good ct_law_good), sl_law_good⟩)
    (c_law_good : PySem.W.codeIn K cd_law_good "_law_good" = true)
    (k_law_good : PySem.W.keepIn K (.ref f_law_good) = true)
    (a_law_standing : PySem.W.nsIn K mainGlobals "_law_standing" = some (some (.ref f_law_standing)))
    (l_law_standing : K.lookup f_law_standing = some ⟨oc_law_standing, od_law_standing, .func (PySem.W.fnOf "_law_standing" "_law_standing" (defArgs s_law_standing) (defBody s_law_standing) (defScope s_law_standing) .none kV_law_standing dc_law_standing pm_law_standing an_law_standing cd_law_standing ct_law_standing), sl_law_standing⟩)
    (c_law_standing : PySem.W.codeIn K cd_law_standing "_law_standing" = true)
    (k_law_standing : PySem.W.keepIn K (.ref f_law_standing) = true)
    (a_law_behind : PySem.W.nsIn K mainGlobals "_law_behind" = some (some (.ref f_law_behind)))
    (l_law_behind : K.lookup f_law_behind = some ⟨oc_law_behind, od_law_behind, .func (PySem.W.fnOf "_law_behind" "_law_behind" (defArgs s_law_behind) (defBody s_law_behind) (defScope s_law_behind) .none kV_law_behind dc_law_behind pm_law_behind an_law_behind cd_law_behind ct_law_behind), sl_law_behind⟩)
    (c_law_behind : PySem.W.codeIn K cd_law_behind "_law_behind" = true)
    (k_law_behind : PySem.W.keepIn K (.ref f_law_behind) = true)
    (a_law_lifts : PySem.W.nsIn K mainGlobals "_law_lifts" = some (some (.ref f_law_lifts)))
    (l_law_lifts : K.lookup f_law_lifts = some ⟨oc_law_lifts, od_law_lifts, .func (PySem.W.fnOf "_law_lifts" "_law_lifts" (defArgs s_law_lifts) (defBody s_law_lifts) (defScope s_law_lifts) .none kV_law_lifts dc_law_lifts pm_law_lifts an_law_lifts cd_law_lifts ct_law_lifts), sl_law_lifts⟩)
    (c_law_lifts : PySem.W.codeIn K cd_law_lifts "_law_lifts" = true)
    (k_law_lifts : PySem.W.keepIn K (.ref f_law_lifts) = true)
    (a_law_tuple : PySem.W.nsIn K mainGlobals "_law_tuple" = some (some (.ref f_law_tuple)))
    (l_law_tuple : K.lookup f_law_tuple = some ⟨oc_law_tuple, od_law_tuple, .func (PySem.W.fnOf "_law_tuple" "_law_tuple" (defArgs s_law_tuple) (defBody s_law_tuple) (defScope s_law_tuple) .none kV_law_tuple dc_law_tuple pm_law_tuple an_law_tuple cd_law_tuple ct_law_tuple), sl_law_tuple⟩)
    (c_law_tuple : PySem.W.codeIn K cd_law_tuple "_law_tuple" = true)
    (k_law_tuple : PySem.W.keepIn K (.ref f_law_tuple) = true)
    (a_law_stands : PySem.W.nsIn K mainGlobals "_law_stands" = some (some (.ref f_law_stands)))
    (l_law_stands : K.lookup f_law_stands = some ⟨oc_law_stands, od_law_stands, .func (PySem.W.fnOf "_law_stands" "_law_stands" (defArgs s_law_stands) (defBody s_law_stands) (defScope s_law_stands) .none kV_law_stands dc_law_stands pm_law_stands an_law_stands cd_law_stands ct_law_stands), sl_law_stands⟩)
    (c_law_stands : PySem.W.codeIn K cd_law_stands "_law_stands" = true)
    (k_law_stands : PySem.W.keepIn K (.ref f_law_stands) = true)
    (a_law_small : PySem.W.nsIn K mainGlobals "_law_small" = some (some (.ref f_law_small)))
    (l_law_small : K.lookup f_law_small = some ⟨oc_law_small, od_law_small, .func (PySem.W.fnOf "_law_small" "_law_small" (defArgs s_law_small) (defBody s_law_small) (defScope s_law_small) .none kV_law_small dc_law_small pm_law_small an_law_small cd_law_small ct_law_small), sl_law_small⟩)
    (c_law_small : PySem.W.codeIn K cd_law_small "_law_small" = true)
    (k_law_small : PySem.W.keepIn K (.ref f_law_small) = true)
    (a_law_crates : PySem.W.nsIn K mainGlobals "_law_crates" = some (some (.ref f_law_crates)))
    (l_law_crates : K.lookup f_law_crates = some ⟨oc_law_crates, od_law_crates, .func (PySem.W.fnOf "_law_crates" "_law_crates" (defArgs s_law_crates) (defBody s_law_crates) (defScope s_law_crates) .none kV_law_crates dc_law_crates pm_law_crates an_law_crates cd_law_crates ct_law_crates), sl_law_crates⟩)
    (c_law_crates : PySem.W.codeIn K cd_law_crates "_law_crates" = true)
    (k_law_crates : PySem.W.keepIn K (.ref f_law_crates) = true)
    (a_law_walked : PySem.W.nsIn K mainGlobals "_law_walked" = some (some (.ref f_law_walked)))
    (l_law_walked : K.lookup f_law_walked = some ⟨oc_law_walked, od_law_walked, .func (PySem.W.fnOf "_law_walked" "_law_walked" (defArgs s_law_walked) (defBody s_law_walked) (defScope s_law_walked) .none kV_law_walked dc_law_walked pm_law_walked an_law_walked cd_law_walked ct_law_walked), sl_law_walked⟩)
    (c_law_walked : PySem.W.codeIn K cd_law_walked "_law_walked" = true)
    (k_law_walked : PySem.W.keepIn K (.ref f_law_walked) = true)
    (a_law_shut : PySem.W.nsIn K mainGlobals "_law_shut" = some (some (.ref f_law_shut)))
    (l_law_shut : K.lookup f_law_shut = some ⟨oc_law_shut, od_law_shut, .func (PySem.W.fnOf "_law_shut" "_law_shut" (defArgs s_law_shut) (defBody s_law_shut) (defScope s_law_shut) .none kV_law_shut dc_law_shut pm_law_shut an_law_shut cd_law_shut ct_law_shut), sl_law_shut⟩)
    (c_law_shut : PySem.W.codeIn K cd_law_shut "_law_shut" = true)
    (k_law_shut : PySem.W.keepIn K (.ref f_law_shut) = true)
    (a_law_right : PySem.W.nsIn K mainGlobals "_law_right" = some (some (.ref f_law_right)))
    (l_law_right : K.lookup f_law_right = some ⟨oc_law_right, od_law_right, .func (PySem.W.fnOf "_law_right" "_law_right" (defArgs s_law_right) (defBody s_law_right) (defScope s_law_right) .none kV_law_right dc_law_right pm_law_right an_law_right cd_law_right ct_law_right), sl_law_right⟩)
    (c_law_right : PySem.W.codeIn K cd_law_right "_law_right" = true)
    (k_law_right : PySem.W.keepIn K (.ref f_law_right) = true)
    (a_law_great : PySem.W.nsIn K mainGlobals "_law_great" = some (some (.ref f_law_great)))
    (l_law_great : K.lookup f_law_great = some ⟨oc_law_great, od_law_great, .func (PySem.W.fnOf "_law_great" "_law_great" (defArgs s_law_great) (defBody s_law_great) (defScope s_law_great) .none kV_law_great dc_law_great pm_law_great an_law_great cd_law_great ct_law_great), sl_law_great⟩)
    (c_law_great : PySem.W.codeIn K cd_law_great "_law_great" = true)
    (k_law_great : PySem.W.keepIn K (.ref f_law_great) = true)
    (a_law : PySem.W.nsIn K mainGlobals "law" = some (some (.ref f_law)))
    (l_law : K.lookup f_law = some ⟨oc_law, od_law, .func (PySem.W.fnOf "law" "law" (defArgs s_law) (defBody s_law) (defScope s_law) .none kV_law dc_law pm_law an_law cd_law ct_law), sl_law⟩)
    (c_law : PySem.W.codeIn K cd_law "law" = true)
    (k_law : PySem.W.keepIn K (.ref f_law) = true)
    (a_Floor : PySem.W.nsIn K mainGlobals "Floor" = some (some (.ref C)))
    (a_Floor_init : PySem.W.findIn K (.ref C) "__init__" = some (some (.ref f_Floor_init)))
    (i_Floor_init : PySem.W.isFn K (.ref f_Floor_init) = true)
    (l_Floor_init : K.lookup f_Floor_init = some ⟨oc_Floor_init, od_Floor_init, .func (PySem.W.fnOf "__init__" "Floor.__init__" (defArgs s_Floor_init) (defBody s_Floor_init) (defScope s_Floor_init) .none kV_Floor_init dc_Floor_init pm_Floor_init an_Floor_init cd_Floor_init ct_Floor_init), sl_Floor_init⟩)
    (c_Floor_init : PySem.W.codeIn K cd_Floor_init "Floor.__init__" = true)
    (k_Floor_init : PySem.W.keepIn K (.ref f_Floor_init) = true)
    (pg : PySem.W.plainGet K C Str.empty = true)
    (hd : PySem.W.hasDictIn K C = true)
    (po : PySem.W.plainOver K C = true)
    (sa : PySem.W.findIn K (.ref C) "__setattr__" = some (some (.builtin "object.__setattr__")))
    (mk : PySem.W.makesIn K C = true)
    (kc : PySem.W.keepIn K (.ref C) = true)
    (nM : PySem.W.findIn K (.ref C) "many" = some none)
    (nH : PySem.W.findIn K (.ref C) "high" = some none)
    (nS : PySem.W.findIn K (.ref C) "strong" = some none)
    (nB : PySem.W.findIn K (.ref C) "banned" = some none)
    (a_NoFloor : PySem.W.nsIn K mainGlobals "NoFloor" = some (some (.ref C_NoFloor)))
    (x_NoFloor : PySem.W.excIn K C_NoFloor [.type "ValueError", .type "Exception", .type "BaseException", .type "object"] "ValueError.__new__" = true)
    (k_NoFloor : PySem.W.keepIn K (.ref C_NoFloor) = true)
    (b_NoFloor : PySem.W.subIn K (.ref C_NoFloor) (.type "BaseException") = some true)
    (t_NoFloor : PySem.W.typeIn K (.ref C_NoFloor) = some (.type "type"))
    (a_NoStanding : PySem.W.nsIn K mainGlobals "NoStanding" = some (some (.ref C_NoStanding)))
    (x_NoStanding : PySem.W.excIn K C_NoStanding [.type "ValueError", .type "Exception", .type "BaseException", .type "object"] "ValueError.__new__" = true)
    (k_NoStanding : PySem.W.keepIn K (.ref C_NoStanding) = true)
    (b_NoStanding : PySem.W.subIn K (.ref C_NoStanding) (.type "BaseException") = some true)
    (t_NoStanding : PySem.W.typeIn K (.ref C_NoStanding) = some (.type "type"))
    (a_TooMany : PySem.W.nsIn K mainGlobals "TooMany" = some (some (.ref C_TooMany)))
    (x_TooMany : PySem.W.excIn K C_TooMany [.type "ValueError", .type "Exception", .type "BaseException", .type "object"] "ValueError.__new__" = true)
    (k_TooMany : PySem.W.keepIn K (.ref C_TooMany) = true)
    (b_TooMany : PySem.W.subIn K (.ref C_TooMany) (.type "BaseException") = some true)
    (t_TooMany : PySem.W.typeIn K (.ref C_TooMany) = some (.type "type"))
    (a_OtherCrates : PySem.W.nsIn K mainGlobals "OtherCrates" = some (some (.ref C_OtherCrates)))
    (x_OtherCrates : PySem.W.excIn K C_OtherCrates [.type "ValueError", .type "Exception", .type "BaseException", .type "object"] "ValueError.__new__" = true)
    (k_OtherCrates : PySem.W.keepIn K (.ref C_OtherCrates) = true)
    (b_OtherCrates : PySem.W.subIn K (.ref C_OtherCrates) (.type "BaseException") = some true)
    (t_OtherCrates : PySem.W.typeIn K (.ref C_OtherCrates) = some (.type "type"))
    (z_len : PySem.W.nsIn K mainGlobals "len" = some none)
    (z_list : PySem.W.nsIn K mainGlobals "list" = some none)
    (z_tuple : PySem.W.nsIn K mainGlobals "tuple" = some none)
    (z_range : PySem.W.nsIn K mainGlobals "range" = some none)
    (z_sorted : PySem.W.nsIn K mainGlobals "sorted" = some none)
    (z_set : PySem.W.nsIn K mainGlobals "set" = some none)
    (z_min : PySem.W.nsIn K mainGlobals "min" = some none)
    (z_max : PySem.W.nsIn K mainGlobals "max" = some none)
    (z_abs : PySem.W.nsIn K mainGlobals "abs" = some none)
    (z_isinstance : PySem.W.nsIn K mainGlobals "isinstance" = some none)
    (z_int : PySem.W.nsIn K mainGlobals "int" = some none)
    (z_bool : PySem.W.nsIn K mainGlobals "bool" = some none)
    (z_str : PySem.W.nsIn K mainGlobals "str" = some none)
    (z_all : PySem.W.nsIn K mainGlobals "all" = some none)
    (a_MOST : PySem.W.nsIn K mainGlobals "MOST" = some (some (Value.int 4 tm)))
    : ∃ fd : FuncData, (∀ (s : Shared) (v : Value), BindsTo s fd ⟨[v], []⟩ [("script", v)]) ∧ ∀ base : Heap, K.In base → base.Ns mainGlobals mg → FnOk l.prog w K mg base (L2.CX l.prog w) 7 fa fd ["script"] (spLaw K) := by
  have e := hfa.symm.trans (PySem.W.mg_of X G a_law)
  cases e
  have T : Bl mg := ⟨PySem.W.mg_none_of X G z_len, PySem.W.mg_none_of X G z_list, PySem.W.mg_none_of X G z_tuple, PySem.W.mg_none_of X G z_range, PySem.W.mg_none_of X G z_sorted, PySem.W.mg_none_of X G z_set, PySem.W.mg_none_of X G z_min, PySem.W.mg_none_of X G z_max, PySem.W.mg_none_of X G z_abs, PySem.W.mg_none_of X G z_isinstance, PySem.W.mg_none_of X G z_int, PySem.W.mg_none_of X G z_bool, PySem.W.mg_none_of X G z_str, PySem.W.mg_none_of X G z_all⟩
  have TF : FlT K mg C := ⟨⟨pg, hd, po, sa⟩, nM, nH, nS, nB, PySem.W.mg_of X G a_Floor⟩
  have E_NoFloor : ExT K mg "NoFloor" C_NoFloor := ⟨PySem.W.mg_of X G a_NoFloor, x_NoFloor, k_NoFloor, b_NoFloor, t_NoFloor⟩
  have E_NoStanding : ExT K mg "NoStanding" C_NoStanding := ⟨PySem.W.mg_of X G a_NoStanding, x_NoStanding, k_NoStanding, b_NoStanding, t_NoStanding⟩
  have E_TooMany : ExT K mg "TooMany" C_TooMany := ⟨PySem.W.mg_of X G a_TooMany, x_TooMany, k_TooMany, b_TooMany, t_TooMany⟩
  have E_OtherCrates : ExT K mg "OtherCrates" C_OtherCrates := ⟨PySem.W.mg_of X G a_OtherCrates, x_OtherCrates, k_OtherCrates, b_OtherCrates, t_OtherCrates⟩
  have F_see_bans := fun_mk (st := s_see_bans) l_see_bans c_see_bans k_see_bans
  have b_see_bans := F_see_bans.binds (ps := ["bans"]) fun _ _ _ _ _ _ us hl => match us, hl with | [_], _ => rfl
  have F_crates_of := fun_mk (st := s_crates_of) l_crates_of c_crates_of k_crates_of
  have b_crates_of := F_crates_of.binds (ps := ["standing"]) fun _ _ _ _ _ _ us hl => match us, hl with | [_], _ => rfl
  have F_stack_is_good := fun_mk (st := s_stack_is_good) l_stack_is_good c_stack_is_good k_stack_is_good
  have b_stack_is_good := F_stack_is_good.binds (ps := ["floor", "stack"]) fun _ _ _ _ _ _ us hl => match us, hl with | [_, _], _ => rfl
  have F_is_good := fun_mk (st := s_is_good) l_is_good c_is_good k_is_good
  have b_is_good := F_is_good.binds (ps := ["floor", "standing"]) fun _ _ _ _ _ _ us hl => match us, hl with | [_, _], _ => rfl
  have F_see_standing := fun_mk (st := s_see_standing) l_see_standing c_see_standing k_see_standing
  have b_see_standing := F_see_standing.binds (ps := ["floor", "standing"]) fun _ _ _ _ _ _ us hl => match us, hl with | [_, _], _ => rfl
  have F_behind := fun_mk (st := s_behind) l_behind c_behind k_behind
  have b_behind := F_behind.binds (ps := ["standing", "lift"]) fun _ _ _ _ _ _ us hl => match us, hl with | [_, _], _ => rfl
  have F_all_lifts := fun_mk (st := s_all_lifts) l_all_lifts c_all_lifts k_all_lifts
  have b_all_lifts := F_all_lifts.binds (ps := ["floor", "standing"]) fun _ _ _ _ _ _ us hl => match us, hl with | [_, _], _ => rfl
  have F_see_few := fun_mk (st := s_see_few) l_see_few c_see_few k_see_few
  have b_see_few := F_see_few.binds (ps := ["standing"]) fun _ _ _ _ _ _ us hl => match us, hl with | [_], _ => rfl
  have F_told_heights := fun_mk (st := s_told_heights) l_told_heights c_told_heights k_told_heights
  have b_told_heights := F_told_heights.binds (ps := ["floor", "goal"]) fun _ _ _ _ _ _ us hl => match us, hl with | [_, _], _ => rfl
  have F_come_to := fun_mk (st := s_come_to) l_come_to c_come_to k_come_to
  have b_come_to := F_come_to.binds (ps := ["floor", "standing"]) fun _ _ _ _ _ _ us hl => match us, hl with | [_, _], _ => rfl
  have F_heights := fun_mk (st := s_heights) l_heights c_heights k_heights
  have b_heights := F_heights.binds (ps := ["floor", "goal"]) fun _ _ _ _ _ _ us hl => match us, hl with | [_, _], _ => rfl
  have F_plan := fun_mk (st := s_plan) l_plan c_plan k_plan
  have b_plan := F_plan.binds (ps := ["floor", "start", "goal"]) fun _ _ _ _ _ _ us hl => match us, hl with | [_, _, _], _ => rfl
  have F_law_cell_at := fun_mk (st := s_law_cell_at) l_law_cell_at c_law_cell_at k_law_cell_at
  have b_law_cell_at := F_law_cell_at.binds (ps := ["script", "k"]) fun _ _ _ _ _ _ us hl => match us, hl with | [_, _], _ => rfl
  have F_law_whole := fun_mk (st := s_law_whole) l_law_whole c_law_whole k_law_whole
  have b_law_whole := F_law_whole.binds (ps := ["found"]) fun _ _ _ _ _ _ us hl => match us, hl with | [_], _ => rfl
  have F_law_floor := fun_mk (st := s_law_floor) l_law_floor c_law_floor k_law_floor
  have b_law_floor := F_law_floor.binds (ps := ["script", "first", "most"]) fun _ _ _ _ _ _ us hl => match us, hl with | [_, _, _], _ => rfl
  have F_law_good := fun_mk (st := s_law_good) l_law_good c_law_good k_law_good
  have b_law_good := F_law_good.binds (ps := ["floor", "standing"]) fun _ _ _ _ _ _ us hl => match us, hl with | [_, _], _ => rfl
  have F_law_standing := fun_mk (st := s_law_standing) l_law_standing c_law_standing k_law_standing
  have b_law_standing := F_law_standing.binds (ps := ["floor", "cell", "crates"]) fun _ _ _ _ _ _ us hl => match us, hl with | [_, _, _], _ => rfl
  have F_law_behind := fun_mk (st := s_law_behind) l_law_behind c_law_behind k_law_behind
  have b_law_behind := F_law_behind.binds (ps := ["standing", "lift"]) fun _ _ _ _ _ _ us hl => match us, hl with | [_, _], _ => rfl
  have F_law_lifts := fun_mk (st := s_law_lifts) l_law_lifts c_law_lifts k_law_lifts
  have b_law_lifts := F_law_lifts.binds (ps := ["floor", "standing"]) fun _ _ _ _ _ _ us hl => match us, hl with | [_, _], _ => rfl
  have F_law_tuple := fun_mk (st := s_law_tuple) l_law_tuple c_law_tuple k_law_tuple
  have b_law_tuple := F_law_tuple.binds (ps := ["found", "due"]) fun _ _ _ _ _ _ us hl => match us, hl with | [_, _], _ => rfl
  have F_law_stands := fun_mk (st := s_law_stands) l_law_stands c_law_stands k_law_stands
  have b_law_stands := F_law_stands.binds (ps := ["found", "due"]) fun _ _ _ _ _ _ us hl => match us, hl with | [_, _], _ => rfl
  have F_law_small := fun_mk (st := s_law_small) l_law_small c_law_small k_law_small
  have b_law_small := F_law_small.binds (ps := ["script", "first", "floor"]) fun _ _ _ _ _ _ us hl => match us, hl with | [_, _, _], _ => rfl
  have F_law_crates := fun_mk (st := s_law_crates) l_law_crates c_law_crates k_law_crates
  have b_law_crates := F_law_crates.binds (ps := ["standing"]) fun _ _ _ _ _ _ us hl => match us, hl with | [_], _ => rfl
  have F_law_walked := fun_mk (st := s_law_walked) l_law_walked c_law_walked k_law_walked
  have b_law_walked := F_law_walked.binds (ps := ["floor", "start", "row"]) fun _ _ _ _ _ _ us hl => match us, hl with | [_, _, _], _ => rfl
  have F_law_shut := fun_mk (st := s_law_shut) l_law_shut c_law_shut k_law_shut
  have b_law_shut := F_law_shut.binds (ps := ["floor", "start", "goal", "rows"]) fun _ _ _ _ _ _ us hl => match us, hl with | [_, _, _, _], _ => rfl
  have F_law_right := fun_mk (st := s_law_right) l_law_right c_law_right k_law_right
  have b_law_right := F_law_right.binds (ps := ["made", "floor", "start", "goal"]) fun _ _ _ _ _ _ us hl => match us, hl with | [_, _, _, _], _ => rfl
  have F_law_great := fun_mk (st := s_law_great) l_law_great c_law_great k_law_great
  have b_law_great := F_law_great.binds (ps := ["script", "floor"]) fun _ _ _ _ _ _ us hl => match us, hl with | [_, _], _ => rfl
  have F_law := fun_mk (st := s_law) l_law c_law k_law
  have F_Floor_init := fun_mk (st := s_Floor_init) l_Floor_init c_Floor_init k_Floor_init
  have b_Floor_init := F_Floor_init.binds (ps := ["self", "stacks", "height", "lift", "bans"]) fun _ _ _ _ _ _ us hl => match us, hl with | [_, _, _, _, _], _ => rfl
  refine ⟨PySem.W.fnOf "law" "law" (defArgs s_law) (defBody s_law) (defScope s_law) .none kV_law dc_law pm_law an_law cd_law ct_law, fun s v => .of_eq rfl, fun base X2 G2 => ?_⟩
  have g_see_bans : Cal l.prog w K mg base "see_bans" 1 (sp_see_bans K C C_NoFloor) := cal_mk F_see_bans (PySem.W.mg_of X G a_see_bans) b_see_bans (ok_see_bans T F_see_bans E_NoFloor)
  have g_Floor_init : CalI l.prog w K mg base "Floor" 2 (spInit K C C_NoFloor) C := ⟨_, _, _, ⟨mk, a_Floor_init, i_Floor_init, kc⟩, ok_init T TF F_Floor_init E_NoFloor g_see_bans, PySem.W.mg_of X G a_Floor, b_Floor_init⟩
  have g_crates_of : Cal l.prog w K mg base "crates_of" 1 (sp_crates_of K C) := cal_mk F_crates_of (PySem.W.mg_of X G a_crates_of) b_crates_of (ok_crates_of T F_crates_of)
  have g_stack_is_good : Cal l.prog w K mg base "stack_is_good" 1 (sp_stack_is_good K C) := cal_mk F_stack_is_good (PySem.W.mg_of X G a_stack_is_good) b_stack_is_good (ok_stack_is_good T TF F_stack_is_good)
  have g_is_good : Cal l.prog w K mg base "is_good" 2 (sp_is_good K C) := cal_mk F_is_good (PySem.W.mg_of X G a_is_good) b_is_good (ok_is_good T F_is_good TF g_crates_of g_stack_is_good)
  have g_see_standing : Cal l.prog w K mg base "see_standing" 3 (sp_see_standing K C C_NoStanding) := cal_mk F_see_standing (PySem.W.mg_of X G a_see_standing) b_see_standing (ok_see_standing F_see_standing E_NoStanding g_is_good)
  have g_behind : Cal l.prog w K mg base "behind" 1 (sp_behind K C) := cal_mk F_behind (PySem.W.mg_of X G a_behind) b_behind (ok_behind T F_behind)
  have g_all_lifts : Cal l.prog w K mg base "all_lifts" 3 (sp_all_lifts K C) := cal_mk F_all_lifts (PySem.W.mg_of X G a_all_lifts) b_all_lifts (ok_all_lifts T F_all_lifts TF g_behind g_is_good)
  have g_see_few : Cal l.prog w K mg base "see_few" 2 (sp_see_few K C C_TooMany) := cal_mk F_see_few (PySem.W.mg_of X G a_see_few) b_see_few (ok_see_few T F_see_few (PySem.W.mg_of X G a_MOST) E_TooMany g_crates_of)
  have g_told_heights : Cal l.prog w K mg base "told_heights" 4 (sp_told K C w) := cal_mk F_told_heights (PySem.W.mg_of X G a_told_heights) b_told_heights (ok_told T F_told_heights g_all_lifts g_behind)
  have g_come_to : Cal l.prog w K mg base "come_to" 5 (sp_come_to K C C_NoStanding C_TooMany) := cal_mk F_come_to (PySem.W.mg_of X G a_come_to) b_come_to (ok_come_to T F_come_to g_see_standing g_see_few g_told_heights)
  have g_heights : Cal l.prog w K mg base "heights" 5 (sp_heights K C C_NoStanding C_TooMany) := cal_mk F_heights (PySem.W.mg_of X G a_heights) b_heights (ok_heights T F_heights g_see_standing g_see_few g_told_heights)
  have g_plan : Cal l.prog w K mg base "plan" 5 (sp_plan K C C_NoStanding C_TooMany C_OtherCrates) := cal_mk F_plan (PySem.W.mg_of X G a_plan) b_plan (ok_plan T F_plan E_OtherCrates g_see_standing g_see_few g_told_heights g_crates_of g_all_lifts g_behind)
  have g_law_cell_at : Cal l.prog w K mg base "_law_cell_at" 1 (sp_cell_at K C) := cal_mk F_law_cell_at (PySem.W.mg_of X G a_law_cell_at) b_law_cell_at (ok_cell_at T F_law_cell_at)
  have g_law_whole : Cal l.prog w K mg base "_law_whole" 1 (sp_law_whole K C) := cal_mk F_law_whole (PySem.W.mg_of X G a_law_whole) b_law_whole (ok_law_whole T F_law_whole)
  have g_law_floor : Cal l.prog w K mg base "_law_floor" 2 (sp_law_floor K C) := cal_mk F_law_floor (PySem.W.mg_of X G a_law_floor) b_law_floor (ok_law_floor T F_law_floor g_law_cell_at)
  have g_law_good : Cal l.prog w K mg base "_law_good" 1 (sp_law_good K C) := cal_mk F_law_good (PySem.W.mg_of X G a_law_good) b_law_good (ok_law_good T F_law_good)
  have g_law_standing : Cal l.prog w K mg base "_law_standing" 2 (sp_law_standing K C) := cal_mk F_law_standing (PySem.W.mg_of X G a_law_standing) b_law_standing (ok_law_standing T F_law_standing g_law_good)
  have g_law_behind : Cal l.prog w K mg base "_law_behind" 1 (sp_law_behind K C) := cal_mk F_law_behind (PySem.W.mg_of X G a_law_behind) b_law_behind (ok_law_behind T F_law_behind)
  have g_law_lifts : Cal l.prog w K mg base "_law_lifts" 2 (sp_law_lifts K C) := cal_mk F_law_lifts (PySem.W.mg_of X G a_law_lifts) b_law_lifts (ok_law_lifts T F_law_lifts g_law_behind g_law_good)
  have g_law_tuple : Cal l.prog w K mg base "_law_tuple" 2 (sp_law_tuple K C) := cal_mk F_law_tuple (PySem.W.mg_of X G a_law_tuple) b_law_tuple (ok_law_tuple T F_law_tuple g_law_whole)
  have g_law_stands : Cal l.prog w K mg base "_law_stands" 3 (sp_law_stands K C) := cal_mk F_law_stands (PySem.W.mg_of X G a_law_stands) b_law_stands (ok_law_stands T F_law_stands g_law_tuple)
  have g_law_small : Cal l.prog w K mg base "_law_small" 2 (sp_law_small K C) := cal_mk F_law_small (PySem.W.mg_of X G a_law_small) b_law_small (ok_law_small T F_law_small g_law_cell_at)
  have g_law_crates : Cal l.prog w K mg base "_law_crates" 1 (sp_law_crates K C) := cal_mk F_law_crates (PySem.W.mg_of X G a_law_crates) b_law_crates (ok_law_crates T F_law_crates)
  have g_law_walked : Cal l.prog w K mg base "_law_walked" 3 (sp_law_walked K C) := cal_mk F_law_walked (PySem.W.mg_of X G a_law_walked) b_law_walked (ok_law_walked T F_law_walked g_law_tuple g_law_lifts g_law_behind)
  have g_law_shut : Cal l.prog w K mg base "_law_shut" 4 (sp_law_shut K C) := cal_mk F_law_shut (PySem.W.mg_of X G a_law_shut) b_law_shut (ok_law_shut T F_law_shut g_law_stands g_law_good g_law_lifts g_law_behind)
  have g_law_right : Cal l.prog w K mg base "_law_right" 6 (sp_law_right K C) := cal_mk F_law_right (PySem.W.mg_of X G a_law_right) b_law_right (ok_law_right T F_law_right g_plan g_heights g_come_to g_law_walked g_law_shut)
  have g_law_great : Cal l.prog w K mg base "_law_great" 6 (sp_law_great K C) := cal_mk F_law_great (PySem.W.mg_of X G a_law_great) b_law_great (ok_law_great T F_law_great g_law_cell_at g_law_standing g_law_lifts g_law_behind g_Floor_init g_plan g_law_walked)
  exact law_imp (C := C) (ok_law T F_law g_law_cell_at g_law_floor g_law_standing g_law_small g_law_crates g_law_lifts g_law_behind g_Floor_init g_plan g_law_right g_law_great)
theorem walk {l : PySem.W.OpenLaw} {q : Program} {loose : List Str} {XP : (Str → Option Value) → Heap → Prop} {YP : World → Heap → Prop} {d : DefRec} {K : Params → PySem.W.Frag} (hn : l.most = some 63) (hdf : d.params.defaults = [])
    (hY : ∀ (w : World) (h : Heap), YP w h → (K w.params).In h)
    (F : ∀ (w : World) (mg : Str → Option Value) (fa : Addr) (h : Heap), (K w.params).In h → h.Ns mainGlobals mg → mg d.name = some (.ref fa) →
      ∃ fd : FuncData, (∀ (s : Shared) (u : Value), BindsTo s fd ⟨[u], []⟩ [("script", u)]) ∧ ∀ base : Heap, (K w.params).In base → base.Ns mainGlobals mg → FnOk l.prog w (K w.params) mg base (L2.CX l.prog w) 7 fa fd ["script"] (spLaw (K w.params))) :
    PySem.W.WalkO q loose XP YP l.row.toRowW d [] (fun f vs => PySem.call f vs) :=
  L2.walk_of (n := 63) (k := 7) (x := "script") (CX := fun w => L2.CX l.prog w) (sp := fun w => spLaw (K w.params)) hn (by decide) hdf ⟨rfl, by decide, by decide⟩ hY F (fun _ _ a ns hl _ hS => ⟨a, ns, rfl, hS, hl, fun _ => rfl⟩)
    fun _ _ _ _ _ ⟨_, _, _, _, _, _, _, _, _, _, _, _, z⟩ => z
end G

open PySem PySem.W PyProof.Rows in
set_option maxRecDepth 100000 in
set_option maxHeartbeats 0 in
theorem PySem.Challenge.cw_cranefloor_k06_whole_a_plan_holds : PySem.Challenge.rw_cranefloor_k06_whole_a_plan.Holds := by
  w_on; o_law; k_head; (case hw => w_witness2)
  k_fill
  refine G.walk (l := PySem.Challenge.rw_cranefloor_k06_whole_a_plan) rfl rfl (fun w h Y => PySem.W.kIn_of Y) ?F
  case F =>
    intro w mg fa h KX GN hmg
    refine' G.all_mk KX GN hmg ?a_see_bans ?l_see_bans ?c_see_bans ?k_see_bans ?a_crates_of ?l_crates_of ?c_crates_of ?k_crates_of ?a_stack_is_good ?l_stack_is_good ?c_stack_is_good ?k_stack_is_good ?a_is_good ?l_is_good ?c_is_good ?k_is_good ?a_see_standing ?l_see_standing ?c_see_standing ?k_see_standing ?a_behind ?l_behind ?c_behind ?k_behind ?a_all_lifts ?l_all_lifts ?c_all_lifts ?k_all_lifts ?a_see_few ?l_see_few ?c_see_few ?k_see_few ?a_told_heights ?l_told_heights ?c_told_heights ?k_told_heights ?a_come_to ?l_come_to ?c_come_to ?k_come_to ?a_heights ?l_heights ?c_heights ?k_heights ?a_plan ?l_plan ?c_plan ?k_plan ?a_law_cell_at ?l_law_cell_at ?c_law_cell_at ?k_law_cell_at ?a_law_whole ?l_law_whole ?c_law_whole ?k_law_whole ?a_law_floor ?l_law_floor ?c_law_floor ?k_law_floor ?a_law_good ?l_law_good ?c_law_good ?k_law_good ?a_law_standing ?l_law_standing ?c_law_standing ?k_law_standing ?a_law_behind ?l_law_behind ?c_law_behind ?k_law_behind ?a_law_lifts ?l_law_lifts ?c_law_lifts ?k_law_lifts ?a_law_tuple ?l_law_tuple ?c_law_tuple ?k_law_tuple ?a_law_stands ?l_law_stands ?c_law_stands ?k_law_stands ?a_law_small ?l_law_small ?c_law_small ?k_law_small ?a_law_crates ?l_law_crates ?c_law_crates ?k_law_crates ?a_law_walked ?l_law_walked ?c_law_walked ?k_law_walked ?a_law_shut ?l_law_shut ?c_law_shut ?k_law_shut ?a_law_right ?l_law_right ?c_law_right ?k_law_right ?a_law_great ?l_law_great ?c_law_great ?k_law_great ?a_law ?l_law ?c_law ?k_law ?a_Floor ?a_Floor_init ?i_Floor_init ?l_Floor_init ?c_Floor_init ?k_Floor_init ?pg ?hd ?po ?sa ?mk ?kc ?nM ?nH ?nS ?nB ?a_NoFloor ?x_NoFloor ?k_NoFloor ?b_NoFloor ?t_NoFloor ?a_NoStanding ?x_NoStanding ?k_NoStanding ?b_NoStanding ?t_NoStanding ?a_TooMany ?x_TooMany ?k_TooMany ?b_TooMany ?t_TooMany ?a_OtherCrates ?x_OtherCrates ?k_OtherCrates ?b_OtherCrates ?t_OtherCrates ?z_len ?z_list ?z_tuple ?z_range ?z_sorted ?z_set ?z_min ?z_max ?z_abs ?z_isinstance ?z_int ?z_bool ?z_str ?z_all ?a_MOST
    (case a_see_bans => k_is)
    (case l_see_bans => k_is)
    (case c_see_bans => k_is)
    (case k_see_bans => k_is)
    (case a_crates_of => k_is)
    (case l_crates_of => k_is)
    (case c_crates_of => k_is)
    (case k_crates_of => k_is)
    (case a_stack_is_good => k_is)
    (case l_stack_is_good => k_is)
    (case c_stack_is_good => k_is)
    (case k_stack_is_good => k_is)
    (case a_is_good => k_is)
    (case l_is_good => k_is)
    (case c_is_good => k_is)
    (case k_is_good => k_is)
    (case a_see_standing => k_is)
    (case l_see_standing => k_is)
    (case c_see_standing => k_is)
    (case k_see_standing => k_is)
    (case a_behind => k_is)
    (case l_behind => k_is)
    (case c_behind => k_is)
    (case k_behind => k_is)
    (case a_all_lifts => k_is)
    (case l_all_lifts => k_is)
    (case c_all_lifts => k_is)
    (case k_all_lifts => k_is)
    (case a_see_few => k_is)
    (case l_see_few => k_is)
    (case c_see_few => k_is)
    (case k_see_few => k_is)
    (case a_told_heights => k_is)
    (case l_told_heights => k_is)
    (case c_told_heights => k_is)
    (case k_told_heights => k_is)
    (case a_come_to => k_is)
    (case l_come_to => k_is)
    (case c_come_to => k_is)
    (case k_come_to => k_is)
    (case a_heights => k_is)
    (case l_heights => k_is)
    (case c_heights => k_is)
    (case k_heights => k_is)
    (case a_plan => k_is)
    (case l_plan => k_is)
    (case c_plan => k_is)
    (case k_plan => k_is)
    (case a_law_cell_at => k_is)
    (case l_law_cell_at => k_is)
    (case c_law_cell_at => k_is)
    (case k_law_cell_at => k_is)
    (case a_law_whole => k_is)
    (case l_law_whole => k_is)
    (case c_law_whole => k_is)
    (case k_law_whole => k_is)
    (case a_law_floor => k_is)
    (case l_law_floor => k_is)
    (case c_law_floor => k_is)
    (case k_law_floor => k_is)
    (case a_law_good => k_is)
    (case l_law_good => k_is)
    (case c_law_good => k_is)
    (case k_law_good => k_is)
    (case a_law_standing => k_is)
    (case l_law_standing => k_is)
    (case c_law_standing => k_is)
    (case k_law_standing => k_is)
    (case a_law_behind => k_is)
    (case l_law_behind => k_is)
    (case c_law_behind => k_is)
    (case k_law_behind => k_is)
    (case a_law_lifts => k_is)
    (case l_law_lifts => k_is)
    (case c_law_lifts => k_is)
    (case k_law_lifts => k_is)
    (case a_law_tuple => k_is)
    (case l_law_tuple => k_is)
    (case c_law_tuple => k_is)
    (case k_law_tuple => k_is)
    (case a_law_stands => k_is)
    (case l_law_stands => k_is)
    (case c_law_stands => k_is)
    (case k_law_stands => k_is)
    (case a_law_small => k_is)
    (case l_law_small => k_is)
    (case c_law_small => k_is)
    (case k_law_small => k_is)
    (case a_law_crates => k_is)
    (case l_law_crates => k_is)
    (case c_law_crates => k_is)
    (case k_law_crates => k_is)
    (case a_law_walked => k_is)
    (case l_law_walked => k_is)
    (case c_law_walked => k_is)
    (case k_law_walked => k_is)
    (case a_law_shut => k_is)
    (case l_law_shut => k_is)
    (case c_law_shut => k_is)
    (case k_law_shut => k_is)
    (case a_law_right => k_is)
    (case l_law_right => k_is)
    (case c_law_right => k_is)
    (case k_law_right => k_is)
    (case a_law_great => k_is)
    (case l_law_great => k_is)
    (case c_law_great => k_is)
    (case k_law_great => k_is)
    (case a_law => k_is)
    (case l_law => k_is)
    (case c_law => k_is)
    (case k_law => k_is)
    (case a_Floor => k_is)
    (case a_Floor_init => k_is)
    (case i_Floor_init => k_is)
    (case l_Floor_init => k_is)
    (case c_Floor_init => k_is)
    (case k_Floor_init => k_is)
    (case pg => k_is)
    (case hd => k_is)
    (case po => k_is)
    (case sa => k_is)
    (case mk => k_is)
    (case kc => k_is)
    (case nM => k_is)
    (case nH => k_is)
    (case nS => k_is)
    (case nB => k_is)
    (case a_NoFloor => k_is)
    (case x_NoFloor => k_exc)
    (case k_NoFloor => k_is)
    (case b_NoFloor => k_is)
    (case t_NoFloor => k_is)
    (case a_NoStanding => k_is)
    (case x_NoStanding => k_exc)
    (case k_NoStanding => k_is)
    (case b_NoStanding => k_is)
    (case t_NoStanding => k_is)
    (case a_TooMany => k_is)
    (case x_TooMany => k_exc)
    (case k_TooMany => k_is)
    (case b_TooMany => k_is)
    (case t_TooMany => k_is)
    (case a_OtherCrates => k_is)
    (case x_OtherCrates => k_exc)
    (case k_OtherCrates => k_is)
    (case b_OtherCrates => k_is)
    (case t_OtherCrates => k_is)
    (case z_len => k_is)
    (case z_list => k_is)
    (case z_tuple => k_is)
    (case z_range => k_is)
    (case z_sorted => k_is)
    (case z_set => k_is)
    (case z_min => k_is)
    (case z_max => k_is)
    (case z_abs => k_is)
    (case z_isinstance => k_is)
    (case z_int => k_is)
    (case z_bool => k_is)
    (case z_str => k_is)
    (case z_all => k_is)
    (case a_MOST => k_is)
#print axioms PySem.Challenge.cw_cranefloor_k06_whole_a_plan_holds
