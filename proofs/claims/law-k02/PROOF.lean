import PyProof.Rows.All
import Wide.All
import OpenK.AllK
import Wide.FinOn
import HandS.ForMost
import HandS.ForExc
import HandS.Deep
import HandS.TupAny
import HandS.TupMul
import HandS.IsInst
import HandS.Conv
import HandS.SortInts
import HandS.Zip
import HandS.Style
import KE.DataMinMax
import HandS.SortKw
import HandS.TupSets
import HandS.HotCalls
import HandS.ExcIs
import PySem.Challenge.RW_cranefloor_k02_good_standings
set_option Elab.async false
set_option linter.all false
set_option maxRecDepth 100000
set_option autoImplicit false
namespace G
open PySem L2
abbrev St := L2.St

/-! ### data: what a value is, read off the tracked heap -/
/-- a floor: its numbers, its bans -/
abbrev flr (m h s : Int) (bs : List PyData) : PyData := .dict [(.int m, .int h), (.int s, .list bs)]
/-- the script -/
abbrev scr (ns : List Int) : PyData := .dict [(.list (ns.map .int), .none)]
abbrev flF (m h s : Int) (b : Addr) : List (Str × V) := [("many", .int m), ("high", .int h), ("strong", .int s), ("banned", .ref b)]
mutual
inductive Rp (K : PySem.W.Frag) (C : Addr) (H : Hp) : V → PyData → Prop
  | non : Rp K C H .non .none
  | bl (b : Bool) : Rp K C H (.bl b) (.bool b)
  | int (i : Int) : Rp K C H (.int i) (.int i)
  | str (x : Str) : Rp K C H (.str x) (.str x)
  | lst {a : Addr} {vs : List V} {ds : List PyData} : H a = some (.lst vs) → RpAll K C H vs ds → Rp K C H (.ref a) (.list ds)
  | tup {a : Addr} {vs : List V} {ds : List PyData} : SqT K H a vs → RpAll K C H vs ds → Rp K C H (.ref a) (.tuple ds)
  | flr {a dx b : Addr} {m h s : Int} {vs : List V} {ds : List PyData} : H a = some (.ins C dx (flF m h s b)) → H b = some (.lst vs) → RpAll K C H vs ds →
      Rp K C H (.ref a) (.dict [(.int m, .int h), (.int s, .list ds)])
  | scr {a : Addr} {ns : List Int} : SqL K H a (ns.map V.int) → Rp K C H (.ref a) (.dict [(.list (ns.map .int), .none)])
inductive RpAll (K : PySem.W.Frag) (C : Addr) (H : Hp) : List V → List PyData → Prop
  | nil : RpAll K C H [] []
  | cons {v : V} {vs : List V} {d : PyData} {ds : List PyData} : Rp K C H v d → RpAll K C H vs ds → RpAll K C H (v :: vs) (d :: ds)
end
theorem Same.sqt {K : PySem.W.Frag} {H H' : Hp} {a : Addr} {xs : List V} (e : Same H H') (h : SqT K H a xs) : SqT K H' a xs := by
  rcases h with (h | ⟨o, h⟩) | h
  · exact .inl (.inl (e _ _ h))
  · exact .inl (.inr ⟨o, e _ _ h⟩)
  · exact .inr h
section
variable {K : PySem.W.Frag} {C : Addr} {H H' : Hp}
mutual
theorem Rp.mono (e : Same H H') : ∀ {v : V} {d : PyData}, Rp K C H v d → Rp K C H' v d
  | _, _, .non => .non
  | _, _, .bl b => .bl b
  | _, _, .int i => .int i
  | _, _, .str x => .str x
  | _, _, .lst h r => .lst (e _ _ h) (RpAll.mono e r)
  | _, _, .tup h r => .tup (Same.sqt e h) (RpAll.mono e r)
  | _, _, .flr h g r => .flr (e _ _ h) (e _ _ g) (RpAll.mono e r)
  | _, _, .scr h => .scr (e.seq h)
theorem RpAll.mono (e : Same H H') : ∀ {v : List V} {d : List PyData}, RpAll K C H v d → RpAll K C H' v d
  | _, _, .nil => .nil
  | _, _, .cons h r => .cons (Rp.mono e h) (RpAll.mono e r)
end
theorem RpAll.length : ∀ {vs : List V} {ds : List PyData}, RpAll K C H vs ds → vs.length = ds.length
  | _, _, .nil => rfl
  | _, _, .cons _ r => congrArg (· + 1) r.length
theorem RpAll.app : ∀ {vs ws : List V} {ds es : List PyData}, RpAll K C H vs ds → RpAll K C H ws es → RpAll K C H (vs ++ ws) (ds ++ es)
  | _, _, _, _, .nil, s => s
  | _, _, _, _, .cons h r, s => .cons h (r.app s)
theorem RpAll.one {v : V} {d : PyData} (h : Rp K C H v d) : RpAll K C H [v] [d] := .cons h .nil
theorem RpAll.get : ∀ {vs : List V} {ds : List PyData} {i : Nat} {d : PyData}, RpAll K C H vs ds → ds[i]? = some d → ∃ v, vs[i]? = some v ∧ Rp K C H v d
  | _, _, _, _, .nil, e => by simp at e
  | _, _, 0, _, .cons h _, e => ⟨_, rfl, by have := Option.some.inj (by simpa using e); subst this; exact h⟩
  | _, _, i + 1, d, .cons _ r, e => by
    obtain ⟨v, h1, h2⟩ := RpAll.get (i := i) (d := d) r (by simpa using e)
    exact ⟨v, by simpa using h1, h2⟩
theorem RpAll.getV : ∀ {vs : List V} {ds : List PyData} {i : Nat} {v : V}, RpAll K C H vs ds → vs[i]? = some v → ∃ d, ds[i]? = some d ∧ Rp K C H v d
  | _, _, _, _, .nil, e => by simp at e
  | _, _, 0, _, .cons h _, e => ⟨_, rfl, by have := Option.some.inj (by simpa using e); subst this; exact h⟩
  | _, _, i + 1, d, .cons _ r, e => by
    obtain ⟨v, h1, h2⟩ := RpAll.getV (i := i) (v := d) r (by simpa using e)
    exact ⟨v, by simpa using h1, h2⟩
theorem RpAll.take : ∀ {vs : List V} {ds : List PyData} (n : Nat), RpAll K C H vs ds → RpAll K C H (vs.take n) (ds.take n)
  | _, _, 0, _ => .nil
  | _, _, _ + 1, .nil => .nil
  | _, _, n + 1, .cons h r => .cons h (r.take n)
theorem RpAll.drop : ∀ {vs : List V} {ds : List PyData} (n : Nat), RpAll K C H vs ds → RpAll K C H (vs.drop n) (ds.drop n)
  | _, _, 0, r => r
  | _, _, _ + 1, .nil => .nil
  | _, _, n + 1, .cons _ r => r.drop n
theorem RpAll.set {v : V} {d : PyData} (h : Rp K C H v d) : ∀ {vs : List V} {ds : List PyData} (i : Nat), RpAll K C H vs ds → RpAll K C H (vs.set i v) (ds.set i d)
  | _, _, _, .nil => .nil
  | _, _, 0, .cons _ r => .cons h r
  | _, _, i + 1, .cons q r => .cons q (r.set h i)
theorem RpAll.erase : ∀ {vs : List V} {ds : List PyData} (i : Nat), RpAll K C H vs ds → RpAll K C H (vs.eraseIdx i) (ds.eraseIdx i)
  | _, _, _, .nil => .nil
  | _, _, 0, .cons _ r => r
  | _, _, i + 1, .cons q r => .cons q (r.erase i)
theorem RpAll.ints : ∀ (ns : List Int), RpAll K C H (ns.map V.int) (ns.map PyData.int)
  | [] => .nil
  | n :: r => .cons (.int n) (RpAll.ints r)
theorem RpAll.intsV : ∀ {ns : List Int} {vs : List V}, RpAll K C H vs (ns.map PyData.int) → vs = ns.map V.int
  | [], _, .nil => rfl
  | n :: r, _, .cons h t => by
    cases h
    rw [RpAll.intsV t] <;> rfl
theorem RpAll.rev : ∀ {vs : List V} {ds : List PyData}, RpAll K C H vs ds → RpAll K C H vs.reverse ds.reverse
  | _, _, .nil => .nil
  | _, _, .cons h r => by
    rw [List.reverse_cons, List.reverse_cons]
    exact (RpAll.rev r).app (.one h)
theorem RpAll.rep : ∀ {vs : List V} {ds : List PyData} (k : Nat), RpAll K C H vs ds → RpAll K C H (List.replicate k vs).flatten (List.replicate k ds).flatten
  | _, _, 0, _ => .nil
  | _, _, k + 1, h => by
    rw [List.replicate_succ, List.replicate_succ, List.flatten_cons, List.flatten_cons]
    exact h.app (h.rep k)
/-- no objects in it -/
inductive Pl : Nat → PyData → Prop
  | non {n} : Pl n .none
  | bl {n b} : Pl n (.bool b)
  | int {n i} : Pl n (.int i)
  | str {n x} : PyData.strOk x = true → Pl n (.str x)
  | lst {n ds} : (∀ d ∈ ds, Pl n d) → Pl (n + 1) (.list ds)
  | tup {n ds} : (∀ d ∈ ds, Pl n d) → Pl (n + 1) (.tuple ds)
mutual
theorem Rp.dp : ∀ {v : V} {d : PyData}, Rp K C H v d → d.canLay0 = true → Dp K H v d
  | _, _, .non, _ => .non
  | _, _, .bl b, _ => .bl b
  | _, _, .int i, _ => .int i
  | _, _, .str x, _ => .str x
  | _, _, .lst h r, q => .lst (SqL.of h) (RpAll.dp r (by simpa [PyData.canLay0] using q))
  | _, _, .tup h r, q => .tup h (RpAll.dp r (by simpa [PyData.canLay0] using q))
  | _, _, .flr _ _ _, q => by simp [PyData.canLay0] at q
  | _, _, .scr _, q => by simp [PyData.canLay0] at q
theorem RpAll.dp : ∀ {v : List V} {d : List PyData}, RpAll K C H v d → PyData.canLayAll0 d = true → DpAll K H v d
  | _, _, .nil, _ => .nil
  | _, _, .cons h r, q => by
    simp only [PyData.canLayAll0, Bool.and_eq_true] at q
    obtain ⟨q1, q2⟩ := q
    exact .cons (Rp.dp h q1) (RpAll.dp r q2)
end
end
theorem canAll : ∀ {ds : List PyData}, (∀ d ∈ ds, d.canLay0 = true) → PyData.canLayAll0 ds = true
  | [], _ => by simp [PyData.canLayAll0]
  | d :: ds, h => by
    simp only [PyData.canLayAll0, Bool.and_eq_true]
    exact ⟨h d List.mem_cons_self, canAll fun e he => h e (List.mem_cons_of_mem _ he)⟩
theorem depAll : ∀ {n : Nat} {ds : List PyData}, (∀ d ∈ ds, d.depth ≤ n) → PyData.depthAll ds ≤ n
  | _, [], _ => by simp [PyData.depthAll]
  | n, d :: ds, h => by
    have h1 := h d List.mem_cons_self
    have h2 := depAll (n := n) (ds := ds) fun e he => h e (List.mem_cons_of_mem _ he)
    simp only [PyData.depthAll]
    omega
theorem Pl.lay : ∀ {n : Nat} {d : PyData}, Pl n d → d.canLay0 = true ∧ d.depth ≤ n := by
  intro n d h
  induction h with
  | non => simp [PyData.canLay0, PyData.depth]
  | bl => simp [PyData.canLay0, PyData.depth]
  | int => simp [PyData.canLay0, PyData.depth]
  | str hx => simp [PyData.canLay0, PyData.depth, hx]
  | lst _ ih =>
    refine ⟨by simp only [PyData.canLay0]; exact canAll fun d hd => (ih d hd).1, ?_⟩
    have := depAll fun d hd => (ih d hd).2
    simp only [PyData.depth]
    omega
  | tup _ ih =>
    refine ⟨by simp only [PyData.canLay0]; exact canAll fun d hd => (ih d hd).1, ?_⟩
    have := depAll fun d hd => (ih d hd).2
    simp only [PyData.depth]
    omega
theorem Pl.shaped {n : Nat} {d : PyData} (h : Pl n d) (hn : n ≤ 64) : SeqAt.shaped d = true := by
  have q := h.lay
  show (d.canLay0 && decide (d.depth ≤ 64)) = true
  rw [Bool.and_eq_true]
  exact ⟨q.1, decide_eq_true (Nat.le_trans q.2 hn)⟩
theorem Pl.mono {n m : Nat} {d : PyData} (h : Pl n d) (hn : n ≤ m) : Pl m d := by
  induction h generalizing m with
  | non => exact .non
  | bl => exact .bl
  | int => exact .int
  | str hx => exact .str hx
  | lst _ ih =>
    cases m with
    | zero => omega
    | succ m => exact .lst fun d hd => ih d hd (by omega)
  | tup _ ih =>
    cases m with
    | zero => omega
    | succ m => exact .tup fun d hd => ih d hd (by omega)
theorem Pl.map {α : Type} {n : Nat} {f : α → PyData} {xs : List α} (h : ∀ x ∈ xs, Pl n (f x)) : ∀ d ∈ xs.map f, Pl n d := fun d hd => by
  obtain ⟨x, hx, e⟩ := List.mem_map.mp hd
  subst e
  exact h x hx

/-! ### the heap grows: F what is known for good, H the whole -/
structure Grow (F H F' H' : Hp) : Prop where
  hh : Same H H'
  ff : Same F F'
  fh : Same F' H'
  own : ∀ a o, H a = some o → F a = none → F' a = none
theorem Grow.refl {F H : Hp} (h : Same F H) : Grow F H F H := ⟨Same.refl _, Same.refl _, h, fun _ _ _ e => e⟩
theorem Grow.trans {F H F1 H1 F2 H2 : Hp} (a : Grow F H F1 H1) (b : Grow F1 H1 F2 H2) : Grow F H F2 H2 :=
  ⟨a.hh.trans b.hh, a.ff.trans b.ff, b.fh, fun x o h n => b.own x o (a.hh x o h) (a.own x o h n)⟩
theorem Same.new {H : Hp} {p : Addr} {o : HO} (h : H p = none) : Same H (upd H p o) := fun a u e => by
  rw [upd_ne (ne_of_none e h)]
  exact e
/-- a new thing, known for good -/
theorem Grow.new {F H : Hp} {p : Addr} {o : HO} (e : Same F H) (h : H p = none) : Grow F H (upd F p o) (upd H p o) where
  hh := Same.new h
  ff := Same.new (e.free h)
  fh := fun a u q => by
    by_cases ha : a = p
    · subst ha; rw [upd_same] at q ⊢; exact q
    · rw [upd_ne ha] at q ⊢; exact e a u q
  own := fun a u q n => by rw [upd_ne (ne_of_none q h)]; exact n
/-- a new thing that may change -/
theorem Grow.newO {F H : Hp} {p : Addr} {o : HO} (e : Same F H) (h : H p = none) : Grow F H F (upd H p o) where
  hh := Same.new h
  ff := Same.refl _
  fh := e.trans (Same.new h)
  own := fun _ _ _ n => n
/-- .. known for good from now on -/
theorem Grow.keep {F H F' H' : Hp} {p : Addr} {o : HO} (g : Grow F H F' H') (h : H p = Option.none) (n : F' p = Option.none) (q : H' p = some o) : Grow F H (upd F' p o) H' where
  hh := g.hh
  ff := g.ff.trans (Same.new n)
  fh := fun a u e => by
    by_cases ha : a = p
    · subst ha; rw [upd_same] at e; rw [q]; exact e
    · rw [upd_ne ha] at e; exact g.fh a u e
  own := fun a u e m => by rw [upd_ne (ne_of_none e h)]; exact g.own a u e m

/-! ### the state of a body, by slots -/
/-- F0, H0: at the def's entry; Fp: pinned besides (within a loop) -/
structure Bs where
  C : Addr
  F0 : Hp
  H0 : Hp
  Fp : Hp
inductive SD where
  | un
  | dat (d : PyData)
  | own (ds : List PyData)
  | raw (P : V → Hp → Hp → Prop)
  | bor (d : PyData)
  | val (v : V)
def SlotOk (K : PySem.W.Frag) (B : Bs) (F H : Hp) : SD → Option (Option V) → Prop
  | .un, _ => True
  | .dat d, o => ∃ v, o = some (some v) ∧ Rp K B.C F v d
  | .own ds, o => ∃ a vs, o = some (some (.ref a)) ∧ B.H0 a = none ∧ F a = none ∧ H a = some (.lst vs) ∧ RpAll K B.C F vs ds
  | .raw P, o => ∃ v, o = some (some v) ∧ ∀ F' H', Grow F H F' H' → P v F' H'
  | .bor d, o => ∃ v, o = some (some v) ∧ Rp K B.C B.H0 v d
  | .val v, o => o = some (some v)
structure Sat (K : PySem.W.Frag) (B : Bs) (ss : List SD) (σ : St) (F H : Hp) : Prop where
  g : Grow B.F0 B.H0 F H
  pin : Same B.Fp F
  len : σ.length = ss.length
  slot : ∀ (i : Nat) (sd : SD), ss[i]? = some sd → SlotOk K B F H sd σ[i]?
  ne : ∀ (i j : Nat) (ds es : List PyData), i ≠ j → ss[i]? = some (.own ds) → ss[j]? = some (.own es) → σ[i]? ≠ σ[j]?
section
variable {K : PySem.W.Frag} {B : Bs} {ss : List SD} {σ : St} {F H F' H' : Hp}
theorem SlotOk.grow {sd : SD} {o : Option (Option V)} (h : SlotOk K B F H sd o) (g : Grow F H F' H') : SlotOk K B F' H' sd o := by
  cases sd with
  | un => trivial
  | dat d => obtain ⟨v, e, r⟩ := h; exact ⟨v, e, r.mono g.ff⟩
  | own ds => obtain ⟨a, vs, e, h0, n, q, r⟩ := h; exact ⟨a, vs, e, h0, g.own a _ q n, g.hh a _ q, r.mono g.ff⟩
  | raw P => obtain ⟨v, e, r⟩ := h; exact ⟨v, e, fun F2 H2 g2 => r F2 H2 (g.trans g2)⟩
  | bor d => exact h
  | val v => exact h
theorem Sat.grow (h : Sat K B ss σ F H) (g : Grow F H F' H') : Sat K B ss σ F' H' :=
  ⟨h.g.trans g, h.pin.trans g.ff, h.len, fun i sd e => (h.slot i sd e).grow g, h.ne⟩
theorem Sat.fh (h : Sat K B ss σ F H) : Same F H := h.g.fh
theorem Sat.lt (h : Sat K B ss σ F H) {i : Nat} {sd : SD} (e : ss[i]? = some sd) : i < σ.length := by
  rw [h.len]; exact (List.getElem?_eq_some_iff.mp e).1
theorem Sat.set_dat {i : Nat} {v : V} {d : PyData} (h : Sat K B ss σ F H) (r : Rp K B.C F v d) : Sat K B (ss.set i (.dat d)) (σ.set i (some v)) F H where
  g := h.g
  pin := h.pin
  len := by rw [List.length_set, List.length_set]; exact h.len
  slot := fun j sd e => by
    by_cases hj : i = j
    · subst hj
      have hi : i < ss.length := by
        have := (List.getElem?_eq_some_iff.mp e).1
        rwa [List.length_set] at this
      rw [List.getElem?_set_self hi] at e
      cases e
      rw [List.getElem?_set_self (by rw [h.len]; exact hi)]
      exact ⟨v, rfl, r⟩
    · rw [List.getElem?_set_ne hj] at e ⊢
      exact h.slot j sd e
  ne := fun j k ds es hjk e1 e2 => by
    have nj : ∀ {k ds}, (ss.set i (.dat d))[k]? = some (.own ds) → i ≠ k := fun {k ds} e q => by
      subst q
      have hi : i < ss.length := by
        have := (List.getElem?_eq_some_iff.mp e).1
        rwa [List.length_set] at this
      rw [List.getElem?_set_self hi] at e
      cases e
    have a := nj e1
    have b := nj e2
    rw [List.getElem?_set_ne a] at e1 ⊢
    rw [List.getElem?_set_ne b] at e2 ⊢
    exact h.ne j k ds es hjk e1 e2
theorem Sat.set_raw {i : Nat} {v : V} {P : V → Hp → Hp → Prop} (h : Sat K B ss σ F H) (r : ∀ F' H', Grow F H F' H' → P v F' H') : Sat K B (ss.set i (.raw P)) (σ.set i (some v)) F H where
  g := h.g
  pin := h.pin
  len := by rw [List.length_set, List.length_set]; exact h.len
  slot := fun j sd e => by
    by_cases hj : i = j
    · subst hj
      have hi : i < ss.length := by
        have := (List.getElem?_eq_some_iff.mp e).1
        rwa [List.length_set] at this
      rw [List.getElem?_set_self hi] at e
      cases e
      rw [List.getElem?_set_self (by rw [h.len]; exact hi)]
      exact ⟨v, rfl, r⟩
    · rw [List.getElem?_set_ne hj] at e ⊢
      exact h.slot j sd e
  ne := fun j k ds es hjk e1 e2 => by
    have nj : ∀ {k ds}, (ss.set i (.raw P))[k]? = some (.own ds) → i ≠ k := fun {k ds} e q => by
      subst q
      have hi : i < ss.length := by
        have := (List.getElem?_eq_some_iff.mp e).1
        rwa [List.length_set] at this
      rw [List.getElem?_set_self hi] at e
      cases e
    have a := nj e1
    have b := nj e2
    rw [List.getElem?_set_ne a] at e1 ⊢
    rw [List.getElem?_set_ne b] at e2 ⊢
    exact h.ne j k ds es hjk e1 e2
theorem Sat.set_val {i : Nat} {v : V} (h : Sat K B ss σ F H) : Sat K B (ss.set i (.val v)) (σ.set i (some v)) F H where
  g := h.g
  pin := h.pin
  len := by rw [List.length_set, List.length_set]; exact h.len
  slot := fun j sd e => by
    by_cases hj : i = j
    · subst hj
      have hi : i < ss.length := by
        have := (List.getElem?_eq_some_iff.mp e).1
        rwa [List.length_set] at this
      rw [List.getElem?_set_self hi] at e
      cases e
      rw [List.getElem?_set_self (by rw [h.len]; exact hi)]
      rfl
    · rw [List.getElem?_set_ne hj] at e ⊢
      exact h.slot j sd e
  ne := fun j k ds es hjk e1 e2 => by
    have nj : ∀ {k ds}, (ss.set i (.val v))[k]? = some (.own ds) → i ≠ k := fun {k ds} e q => by
      subst q
      have hi : i < ss.length := by
        have := (List.getElem?_eq_some_iff.mp e).1
        rwa [List.length_set] at this
      rw [List.getElem?_set_self hi] at e
      cases e
    have a := nj e1
    have b := nj e2
    rw [List.getElem?_set_ne a] at e1 ⊢
    rw [List.getElem?_set_ne b] at e2 ⊢
    exact h.ne j k ds es hjk e1 e2
/-- a slot holds another list of its own, or its list has changed: no other slot's is it -/
theorem Sat.set_own {i : Nat} {a : Addr} {vs : List V} {ds : List PyData} (h : Sat K B ss σ F H) (h0 : B.H0 a = none) (n : F a = none) (q : H a = some (.lst vs)) (r : RpAll K B.C F vs ds)
    (ap : ∀ (j : Nat) (es : List PyData), j ≠ i → ss[j]? = some (.own es) → σ[j]? ≠ some (some (.ref a))) : Sat K B (ss.set i (.own ds)) (σ.set i (some (.ref a))) F H where
  g := h.g
  pin := h.pin
  len := by rw [List.length_set, List.length_set]; exact h.len
  slot := fun j sd e => by
    by_cases hj : i = j
    · subst hj
      have hi : i < ss.length := by
        have := (List.getElem?_eq_some_iff.mp e).1
        rwa [List.length_set] at this
      rw [List.getElem?_set_self hi] at e
      cases e
      rw [List.getElem?_set_self (by rw [h.len]; exact hi)]
      exact ⟨a, vs, rfl, h0, n, q, r⟩
    · rw [List.getElem?_set_ne hj] at e ⊢
      exact h.slot j sd e
  ne := fun j k es fs hjk e1 e2 => by
    have at_ : ∀ {k ds'}, (ss.set i (.own ds))[k]? = some (.own ds') → i ≠ k → ss[k]? = some (.own ds') := fun {k ds'} e q => by
      rw [List.getElem?_set_ne q] at e; exact e
    have self : ∀ {k ds'}, (ss.set i (.own ds))[k]? = some (.own ds') → i = k → (σ.set i (some (.ref a)))[k]? = some (some (.ref a)) := fun {k ds'} e q => by
      subst q
      have hi : i < ss.length := by
        have := (List.getElem?_eq_some_iff.mp e).1
        rwa [List.length_set] at this
      rw [List.getElem?_set_self (by rw [h.len]; exact hi)]
    by_cases a1 : i = j
    · have a2 : i ≠ k := fun z => hjk (a1.symm.trans z)
      rw [self e1 a1, List.getElem?_set_ne a2]
      exact fun z => ap k fs (Ne.symm a2) (at_ e2 a2) z.symm
    · by_cases a2 : i = k
      · rw [self e2 a2, List.getElem?_set_ne a1]
        exact ap j es (Ne.symm a1) (at_ e1 a1)
      · rw [List.getElem?_set_ne a1, List.getElem?_set_ne a2]
        exact h.ne j k es fs hjk (at_ e1 a1) (at_ e2 a2)
/-- weaker slots -/
inductive Wk : List SD → List SD → Prop
  | nil : Wk [] []
  | same {x : SD} {xs ys : List SD} : Wk xs ys → Wk (x :: xs) (x :: ys)
  | un {x : SD} {xs ys : List SD} : Wk xs ys → Wk (x :: xs) (.un :: ys)
theorem Wk.refl : ∀ (ss : List SD), Wk ss ss
  | [] => .nil
  | _ :: r => .same (Wk.refl r)
theorem Wk.length {xs ys : List SD} (h : Wk xs ys) : xs.length = ys.length := by
  induction h with
  | nil => rfl
  | same _ ih => exact congrArg (· + 1) ih
  | un _ ih => exact congrArg (· + 1) ih
theorem Wk.get {xs ys : List SD} (h : Wk xs ys) : ∀ (i : Nat) (sd : SD), ys[i]? = some sd → sd = .un ∨ xs[i]? = some sd := by
  induction h with
  | nil => intro i sd e; simp at e
  | same _ ih =>
    intro i sd e
    cases i with
    | zero => exact .inr e
    | succ i => exact ih i sd (by simpa using e)
  | un _ ih =>
    intro i sd e
    cases i with
    | zero => exact .inl (Option.some.inj (by simpa using e)).symm
    | succ i => exact ih i sd (by simpa using e)
theorem Sat.weak {ss' : List SD} (h : Sat K B ss σ F H) (w : Wk ss ss') : Sat K B ss' σ F H where
  g := h.g
  pin := h.pin
  len := h.len.trans w.length
  slot := fun i sd e => by
    rcases w.get i sd e with z | z
    · subst z; trivial
    · exact h.slot i sd z
  ne := fun i j ds es hij e1 e2 => by
    rcases w.get i _ e1 with z | z
    · cases z
    · rcases w.get j _ e2 with y | y
      · cases y
      · exact h.ne i j ds es hij z y
def noRaw : List SD → Bool
  | [] => true
  | .raw _ :: _ => false
  | _ :: r => noRaw r
theorem noRaw_at : ∀ {ss : List SD} {i : Nat} {P : V → Hp → Hp → Prop}, noRaw ss = true → ss[i]? = some (.raw P) → False
  | [], i, P, _, e => by simp at e
  | x :: r, 0, P, n, e => by
    have e' : x = .raw P := Option.some.inj (by simpa using e)
    subst e'
    simp [noRaw] at n
  | x :: r, i + 1, P, n, e => by
    refine noRaw_at (ss := r) (i := i) (P := P) ?_ (by simpa using e)
    cases x with
    | raw Q => simp [noRaw] at n
    | un => exact n
    | dat d => exact n
    | bor d => exact n
    | val v => exact n
    | own ds => exact n
/-- an unknown place is written: no slot's -/
theorem Sat.upd {a : Addr} {o : HO} (h : Sat K B ss σ F H) (h0 : B.H0 a = none) (n : F a = none) (nr : noRaw ss = true) (ap : ∀ (j : Nat) (es : List PyData), ss[j]? = some (.own es) → σ[j]? ≠ some (some (.ref a))) : Sat K B ss σ F (upd H a o) where
  g := ⟨fun b u e => by rw [upd_ne (ne_of_none e h0)]; exact h.g.hh b u e, h.g.ff, fun b u e => by rw [upd_ne (ne_of_none e n)]; exact h.g.fh b u e, h.g.own⟩
  pin := h.pin
  len := h.len
  slot := fun i sd e => by
    have q := h.slot i sd e
    cases sd with
    | un => trivial
    | dat d => exact q
    | bor d => exact q
    | val v => exact q
    | own ds =>
      obtain ⟨b, vs, e1, b0, nb, hb, r⟩ := q
      refine ⟨b, vs, e1, b0, nb, ?_, r⟩
      have : b ≠ a := fun z => ap i ds e (by rw [e1, z])
      rw [upd_ne this]; exact hb
    | raw P => exact (noRaw_at nr e).elim
  ne := h.ne
/-- the own list at slot i has changed -/
theorem Sat.mut {i : Nat} {a : Addr} {vs' : List V} {ds ds' : List PyData} (h : Sat K B ss σ F H) (e : ss[i]? = some (.own ds)) (ea : σ[i]? = some (some (.ref a))) (nr : noRaw ss = true) (r : RpAll K B.C F vs' ds') :
    Sat K B (ss.set i (.own ds')) σ F (L2.upd H a (.lst vs')) := by
  obtain ⟨b, ws, e1, b0, nb, hb, rb⟩ := h.slot i _ e
  rw [ea] at e1
  cases e1
  have hi : i < ss.length := (List.getElem?_eq_some_iff.mp e).1
  have h1 : Sat K B (ss.set i .un) σ F H := by
    refine ⟨h.g, h.pin, by rw [List.length_set]; exact h.len, fun j sd q => ?_, fun j k xs ys hjk q1 q2 => ?_⟩
    · by_cases hj : i = j
      · subst hj
        rw [List.getElem?_set_self hi] at q
        cases q; trivial
      · rw [List.getElem?_set_ne hj] at q
        exact h.slot j sd q
    · have f : ∀ {k : Nat} {xs : List PyData}, (ss.set i .un)[k]? = some (.own xs) → ss[k]? = some (.own xs) := fun {k xs} q => by
        by_cases hk : i = k
        · subst hk; rw [List.getElem?_set_self hi] at q; cases q
        · rw [List.getElem?_set_ne hk] at q; exact q
      exact h.ne j k xs ys hjk (f q1) (f q2)
  have ap : ∀ (j : Nat) (es : List PyData), (ss.set i .un)[j]? = some (.own es) → σ[j]? ≠ some (some (.ref a)) := fun j es q z => by
    by_cases hk : i = j
    · subst hk; rw [List.getElem?_set_self hi] at q; cases q
    · rw [List.getElem?_set_ne hk] at q
      exact h.ne i j ds es hk e q (ea.trans z.symm)
  have nr1 : noRaw (ss.set i .un) = true := by
    clear h1 ap
    clear h e ea
    revert i
    induction ss with
    | nil => intro i hi; simp at hi
    | cons x r ih =>
      intro i hi
      cases i with
      | zero =>
        show noRaw (.un :: r) = true
        cases x with
        | raw Q => simp [noRaw] at nr
        | un => exact nr
        | dat d => exact nr
        | bor d => exact nr
        | val v => exact nr
        | own ds => exact nr
      | succ i =>
        have hr : noRaw r = true := by
          cases x with
          | raw Q => simp [noRaw] at nr
          | un => exact nr
          | dat d => exact nr
          | bor d => exact nr
          | val v => exact nr
          | own ds => exact nr
        have := ih hr (i := i) (by simpa using hi)
        cases x with
        | raw Q => simp [noRaw] at nr
        | un => exact this
        | dat d => exact this
        | bor d => exact this
        | val v => exact this
        | own ds => exact this
  have h2 := Sat.upd (a := a) (o := .lst vs') h1 b0 nb nr1 ap
  have h3 := Sat.set_own (i := i) (a := a) (vs := vs') (ds := ds') h2 b0 nb upd_same r (fun j es _ q => ap j es q)
  have e3 : σ.set i (some (.ref a)) = σ := by
    apply List.ext_getElem?
    intro k
    by_cases hk : i = k
    · subst hk; rw [List.getElem?_set_self (by rw [h.len]; exact hi), ea]
    · rw [List.getElem?_set_ne hk]
  rw [e3, List.set_set] at h3
  exact h3
/-- a list of one's own is known for good from now on -/
theorem Sat.freeze {i : Nat} {ds : List PyData} (h : Sat K B ss σ F H) (e : ss[i]? = some (.own ds)) (nr : noRaw ss = true) : ∃ F', Sat K B (ss.set i (.dat (.list ds))) σ F' H ∧ Same F F' := by
  obtain ⟨a, vs, ea, a0, na, ha, ra⟩ := h.slot i _ e
  have hi : i < ss.length := (List.getElem?_eq_some_iff.mp e).1
  have sm : Same F (L2.upd F a (.lst vs)) := Same.new na
  refine ⟨L2.upd F a (.lst vs), ⟨h.g.keep a0 na ha, h.pin.trans sm, by rw [List.length_set]; exact h.len, fun j sd q => ?_, fun j k xs ys hjk q1 q2 => ?_⟩, sm⟩
  · by_cases hj : i = j
    · subst hj
      rw [List.getElem?_set_self hi] at q
      cases q
      exact ⟨.ref a, ea, .lst upd_same (ra.mono sm)⟩
    · rw [List.getElem?_set_ne hj] at q
      have z := h.slot j sd q
      cases sd with
      | un => trivial
      | dat d => obtain ⟨v, e1, r⟩ := z; exact ⟨v, e1, r.mono sm⟩
      | bor d => exact z
      | val v => exact z
      | own es =>
        obtain ⟨b, ws, e1, b0, nb, hb, rb⟩ := z
        have nab : b ≠ a := fun y => h.ne i j ds es hj e q (by rw [ea, e1, y])
        exact ⟨b, ws, e1, b0, by rw [upd_ne nab]; exact nb, hb, rb.mono sm⟩
      | raw P => exact (noRaw_at nr q).elim
  · have f : ∀ {k : Nat} {xs : List PyData}, (ss.set i (.dat (.list ds)))[k]? = some (.own xs) → ss[k]? = some (.own xs) := fun {k xs} q => by
      by_cases hk : i = k
      · subst hk; rw [List.getElem?_set_self hi] at q; cases q
      · rw [List.getElem?_set_ne hk] at q; exact q
    exact h.ne j k xs ys hjk (f q1) (f q2)
end
end G

namespace G
open PySem L2

/-! ### judgements: an expression read over every state that ss tells -/
section
variable (X : Cx) (B : Bs)
def tSem (e : Expr) : TE := fun σ H Q => ∀ pins s, Inv X pins σ H s → wpAny (model X.prog X.w) X.A (eval e X.env) (EP X pins σ Q) X.xe s
def tSemT (e : Expr) : TT := fun σ H Q => ∀ pins s, Inv X pins σ H s → wpAny (model X.prog X.w) X.A (isTrue e X.env (eval e X.env)) (TP X pins σ Q) X.xe s
def tSemW (e : Expr) : TT := fun σ H Q => ∀ (whole : Sem Value) pins s, Inv X pins σ H s → wpAny (model X.prog X.w) X.A (isTrue e X.env whole) (TP X pins σ Q) X.xe s
def tSemA (es : List Expr) : TA := fun σ H Q => ∀ (pos : Pos) pins s, Inv X pins σ H s → wpAny (model X.prog X.w) X.A (spliced (backTo pos (starEach es X.env))) (AP X pins σ Q) X.xe s
def tSS (l : List Stmt) : TS := fun D σ H => ∀ pins s, Inv X pins σ H s → wpAny (model X.prog X.w) X.A (execs l X.env) (SP X pins D) X.xe s
/-- e gives d, known for good -/
def PD (e : Expr) (ss : List SD) (d : PyData) : Prop := ∀ (σ : St) (F H : Hp), Sat X.K B ss σ F H → ∀ Q : VK, (∀ v F' H', Grow F H F' H' → Rp X.K B.C F' v d → Q v H') → tSem X e σ H Q
/-- e gives d, as things stand -/
def PB (e : Expr) (ss : List SD) (d : PyData) : Prop := ∀ (σ : St) (F H : Hp), Sat X.K B ss σ F H → ∀ Q : VK, (∀ v F' H', Grow F H F' H' → Rp X.K B.C H' v d → Q v H') → tSem X e σ H Q
/-- e gives a new list -/
def PN (e : Expr) (ss : List SD) (ds : List PyData) : Prop := ∀ (σ : St) (F H : Hp), Sat X.K B ss σ F H → ∀ Q : VK,
  (∀ a vs F' H', Grow F H F' H' → H a = none → F' a = none → H' a = some (.lst vs) → RpAll X.K B.C F' vs ds → Q (.ref a) H') → tSem X e σ H Q
/-- e gives a sequence (list, tuple, the script) of these items; it stands still (PIs), it stands so now (PI') -/
def PIs (e : Expr) (ss : List SD) (ds : List PyData) : Prop := ∀ (σ : St) (F H : Hp), Sat X.K B ss σ F H → ∀ Q : VK,
  (∀ a vs F' H', Grow F H F' H' → (SqL X.K F' a vs ∨ SqT X.K F' a vs) → RpAll X.K B.C F' vs ds → Q (.ref a) H') → tSem X e σ H Q
def PIt (e : Expr) (ss : List SD) (ds : List PyData) : Prop := ∀ (σ : St) (F H : Hp), Sat X.K B ss σ F H → ∀ Q : VK,
  (∀ a vs F' H', Grow F H F' H' → (SqL X.K H' a vs ∨ SqT X.K H' a vs) → RpAll X.K B.C F' vs ds → Q (.ref a) H') → tSem X e σ H Q
def TD (e : Expr) (ss : List SD) (b : Bool) : Prop := ∀ (σ : St) (F H : Hp), Sat X.K B ss σ F H → ∀ Q : Bool → Hp → Prop, (∀ F' H', Grow F H F' H' → Q b H') → tSemT X e σ H Q
def TW (e : Expr) (ss : List SD) (b : Bool) : Prop := ∀ (σ : St) (F H : Hp), Sat X.K B ss σ F H → ∀ Q : Bool → Hp → Prop, (∀ F' H', Grow F H F' H' → Q b H') → tSemW X e σ H Q
def PDs (es : List Expr) (ss : List SD) (ds : List PyData) : Prop := ∀ (σ : St) (F H : Hp), Sat X.K B ss σ F H → ∀ Q : List V → Hp → Prop, (∀ vs F' H', Grow F H F' H' → RpAll X.K B.C F' vs ds → Q vs H') → tSemA X es σ H Q
/-- arguments, as things stand -/
def PBs (es : List Expr) (ss : List SD) (ds : List PyData) : Prop := ∀ (σ : St) (F H : Hp), Sat X.K B ss σ F H → ∀ Q : List V → Hp → Prop, (∀ vs F' H', Grow F H F' H' → RpAll X.K B.C H' vs ds → Q vs H') → tSemA X es σ H Q
end
section
variable {X : Cx} {B : Bs} {ss : List SD} {e a b c : Expr} {es : List Expr} {pos p : Pos} {d x y z : PyData} {ds ds' : List PyData}
theorem pe_sem : PE X e (tSem X e) := ⟨fun pins s σ H Q I h => h pins s I⟩
theorem sem_of {t : TE} {σ : St} {H : Hp} {Q : VK} (h : PE X e t) (q : t σ H Q) : tSem X e σ H Q := fun pins s I => h.run pins s σ H Q I q
theorem pt_sem : PT X e (tSemT X e) := ⟨fun pins s σ H Q I h => h pins s I⟩
theorem semT_of {t : TT} {σ : St} {H : Hp} {Q : Bool → Hp → Prop} (h : PT X e t) (q : t σ H Q) : tSemT X e σ H Q := fun pins s I => h.run pins s σ H Q I q
theorem pw_sem : PW X e (tSemW X e) := ⟨fun wh pins s σ H Q I h => h wh pins s I⟩
theorem semW_of {t : TT} {σ : St} {H : Hp} {Q : Bool → Hp → Prop} (h : PW X e t) (q : t σ H Q) : tSemW X e σ H Q := fun wh pins s I => h.run wh pins s σ H Q I q
theorem pa_sem : PA X es (tSemA X es) := ⟨fun pos pins s σ H Q I h => h pos pins s I⟩
theorem semA_of {t : TA} {σ : St} {H : Hp} {Q : List V → Hp → Prop} (h : PA X es t) (q : t σ H Q) : tSemA X es σ H Q := fun pos pins s I => h.run pos pins s σ H Q I q
theorem pss_sem {l : List Stmt} : PSs X l (tSS X l) := ⟨fun pins s σ H D I h => h pins s I⟩
theorem ss_of {l : List Stmt} {t : TS} {D : Ends} {σ : St} {H : Hp} (h : PSs X l t) (q : t D σ H) : tSS X l D σ H := fun pins s I => h.run pins s σ H D I q
/-- no star ahead of an argument -/
abbrev NSt (X : Cx) (e : Expr) : Prop := ∀ es, starEach (e :: es) X.env = (false, eval e X.env) :: starEach es X.env

theorem PD.bo (h : PD X B e ss d) : PB X B e ss d := fun σ F H s Q q => h σ F H s Q fun v F' H' g r => q v F' H' g (r.mono g.fh)
theorem PDs.bo (h : PDs X B es ss ds) : PBs X B es ss ds := fun σ F H s Q q => h σ F H s Q fun v F' H' g r => q v F' H' g (r.mono g.fh)
theorem PN.da (h : PN X B e ss ds) : PD X B e ss (.list ds) := fun σ F H s Q q => h σ F H s Q fun a vs F' H' g n nf ha r => q (.ref a) (upd F' a (.lst vs)) H' (g.keep n nf ha) (.lst upd_same (r.mono (Same.new nf)))
theorem PN.bo (h : PN X B e ss ds) : PB X B e ss (.list ds) := h.da.bo
theorem PD.itl (h : PD X B e ss (.list ds)) : PIs X B e ss ds := fun σ F H s Q q => h σ F H s Q fun v F' H' g r => by
  cases r with
  | lst h1 h2 => exact q _ _ F' H' g (.inl (SqL.of h1)) h2
theorem PD.itt (h : PD X B e ss (.tuple ds)) : PIs X B e ss ds := fun σ F H s Q q => h σ F H s Q fun v F' H' g r => by
  cases r with
  | tup h1 h2 => exact q _ _ F' H' g (.inr h1) h2
theorem PD.its {ns : List Int} (h : PD X B e ss (scr ns)) : PIs X B e ss (ns.map .int) := fun σ F H s Q q => h σ F H s Q fun v F' H' g r => by
  generalize hd : scr ns = dd at r
  cases r with
  | non => cases hd
  | bl => cases hd
  | int => cases hd
  | str => cases hd
  | lst => cases hd
  | tup => cases hd
  | flr => cases hd
  | @scr a ms h1 =>
    have e1 : ns.map PyData.int = ms.map PyData.int := by
      injection hd with h2
      injection h2 with h3 _
      injection h3 with h4 _
      injection h4
    have e2 : ns = ms := by
      have inj : ∀ {l m : List Int}, l.map PyData.int = m.map PyData.int → l = m := by
        intro l
        induction l with
        | nil => intro m q; cases m with
          | nil => rfl
          | cons _ _ => cases q
        | cons i l ih => intro m q; cases m with
          | nil => cases q
          | cons j m =>
            rw [List.map_cons, List.map_cons] at q
            injection q with q1 q2
            injection q1 with q1
            rw [q1, ih q2]
      exact inj e1
    subst e2
    exact q _ _ F' H' g (.inl h1) (RpAll.ints ns)
theorem PIs.it (h : PIs X B e ss ds) : PIt X B e ss ds := fun σ F H s Q q => h σ F H s Q fun a vs F' H' g k r => q a vs F' H' g (k.elim (fun z => .inl (g.fh.seq z)) fun z => .inr (Same.sqt g.fh z)) r
theorem PN.its (h : PN X B e ss ds) : PIs X B e ss ds := h.da.itl
theorem PN.it (h : PN X B e ss ds) : PIt X B e ss ds := h.da.itl.it
theorem PD.eq (h : PD X B e ss d) (q : d = x) : PD X B e ss x := q ▸ h
theorem PB.eq (h : PB X B e ss d) (q : d = x) : PB X B e ss x := q ▸ h
theorem PN.eq (h : PN X B e ss ds) (q : ds = ds') : PN X B e ss ds' := q ▸ h
theorem TD.eq {u v : Bool} (h : TD X B e ss u) (q : u = v) : TD X B e ss v := q ▸ h

/-! ### names, constants -/
theorem pd_var (i : Nat) {x : Str} {d : PyData} (hN : X.N[i]? = some x := by rfl) (hs : ss[i]? = some (.dat d) := by rfl) (hv : Vis X.env.scope x := by first | exact Or.inl rfl | exact Or.inr (Or.inl rfl) | exact Or.inr (Or.inr rfl)) (hd : (x == ("__debug__" : Str)) = false := by decide)
    (hcd : (x == ("__classdict__" : Str)) = false := by decide) : PD X B (.Name x p) ss d := fun σ F H s Q q => by
  obtain ⟨v, e, r⟩ := s.slot i _ hs
  exact sem_of (pe_var hN hv hd hcd) ⟨v, e, q v F H (Grow.refl s.fh) r⟩
theorem pb_own (i : Nat) {x : Str} {ds : List PyData} (hN : X.N[i]? = some x := by rfl) (hs : ss[i]? = some (.own ds) := by rfl) (hv : Vis X.env.scope x := by first | exact Or.inl rfl | exact Or.inr (Or.inl rfl) | exact Or.inr (Or.inr rfl)) (hd : (x == ("__debug__" : Str)) = false := by decide)
    (hcd : (x == ("__classdict__" : Str)) = false := by decide) : PB X B (.Name x p) ss (.list ds) := fun σ F H s Q q => by
  obtain ⟨a, vs, e, h0, n, ha, r⟩ := s.slot i _ hs
  exact sem_of (pe_var hN hv hd hcd) ⟨.ref a, e, q _ F H (Grow.refl s.fh) (.lst ha (r.mono s.fh))⟩
theorem pi_own (i : Nat) {x : Str} {ds : List PyData} (hN : X.N[i]? = some x := by rfl) (hs : ss[i]? = some (.own ds) := by rfl) (hv : Vis X.env.scope x := by first | exact Or.inl rfl | exact Or.inr (Or.inl rfl) | exact Or.inr (Or.inr rfl)) (hd : (x == ("__debug__" : Str)) = false := by decide)
    (hcd : (x == ("__classdict__" : Str)) = false := by decide) : PIt X B (.Name x p) ss ds := fun σ F H s Q q => by
  obtain ⟨a, vs, e, h0, n, ha, r⟩ := s.slot i _ hs
  exact sem_of (pe_var hN hv hd hcd) ⟨.ref a, e, q a vs F H (Grow.refl s.fh) (.inl (SqL.of ha)) r⟩
theorem pd_int {i : Int} {j : Nat} : PD X B (.Constant (.int i) j pos) ss (.int i) := fun σ F H s Q q => sem_of pe_int (q _ F H (Grow.refl s.fh) (.int i))
theorem pd_bl {i : Bool} {j : Nat} : PD X B (.Constant (.bool i) j pos) ss (.bool i) := fun σ F H s Q q => sem_of pe_bl (q _ F H (Grow.refl s.fh) (.bl i))
theorem pd_non {j : Nat} : PD X B (.Constant .none j pos) ss .none := fun σ F H s Q q => sem_of pe_non (q _ F H (Grow.refl s.fh) .non)
theorem pd_str {x : Str} {j : Nat} : PD X B (.Constant (.str x) j pos) ss (.str x) := fun σ F H s Q q => sem_of pe_str (q _ F H (Grow.refl s.fh) (.str x))
/-- a module's constant -/
theorem pd_glob {x : Str} {v : V} {u : Value} {d : PyData} (hm : X.mg x = some u) (r : RelV v u) (hr : ∀ F : Hp, Rp X.K B.C F v d) (hg : Gl X x := by rfl) (hd : (x == ("__debug__" : Str)) = false := by decide) : PD X B (.Name x pos) ss d := fun σ F H s Q q =>
  sem_of (pe_glob hg hm r hd) (q _ F H (Grow.refl s.fh) (hr F))

/-! ### arguments -/
theorem pds_nil : PDs X B [] ss [] := fun σ F H s Q q => semA_of pa_nil (q [] F H (Grow.refl s.fh) .nil)
theorem pds_cons (h : PD X B e ss d) (t : PDs X B es ss ds) (hn : NSt X e := by intro _; rfl) : PDs X B (e :: es) ss (d :: ds) := fun σ F H s Q q =>
  semA_of (pa_cons pe_sem pa_sem (hn es)) (h σ F H s _ fun v F1 H1 g1 r1 => t σ F1 H1 (s.grow g1) _ fun vs F2 H2 g2 r2 => q (v :: vs) F2 H2 (g1.trans g2) (.cons (r1.mono g2.ff) r2))
theorem pbs_nil : PBs X B [] ss [] := fun σ F H s Q q => semA_of pa_nil (q [] F H (Grow.refl s.fh) .nil)
theorem pbs_cons (h : PB X B e ss d) (t : PBs X B es ss ds) (hn : NSt X e := by intro _; rfl) : PBs X B (e :: es) ss (d :: ds) := fun σ F H s Q q =>
  semA_of (pa_cons pe_sem pa_sem (hn es)) (h σ F H s _ fun v F1 H1 g1 r1 => t σ F1 H1 (s.grow g1) _ fun vs F2 H2 g2 r2 => q (v :: vs) F2 H2 (g1.trans g2) (.cons (r1.mono g2.hh) r2))
theorem pd_tup {k : Nat} (h : PDs X B es ss ds) (hz : ds.length ≤ sizeLine := by exact Nat.le_of_ble_eq_true rfl) : PD X B (.Tuple es k pos) ss (.tuple ds) := fun σ F H s Q q =>
  sem_of (pe_tup pa_sem) (h σ F H s _ fun vs F1 H1 g r => ⟨by rw [r.length]; exact hz, fun p hp => q (.ref p) (upd F1 p (.tup vs)) (upd H1 p (.tup vs)) (g.trans (Grow.new g.fh hp)) (.tup (SqT.of upd_same) (r.mono (Same.new (g.fh.free hp))))⟩)
theorem pn_lst (h : PDs X B es ss ds) (hz : ds.length ≤ sizeLine := by exact Nat.le_of_ble_eq_true rfl) : PN X B (.List es pos) ss ds := fun σ F H s Q q =>
  sem_of (pe_lst pa_sem) (h σ F H s _ fun vs F1 H1 g r => ⟨by rw [r.length]; exact hz, fun p hp => q p vs F1 (upd H1 p (.lst vs)) (g.trans (Grow.newO g.fh hp)) (g.hh.free hp) (g.fh.free hp) upd_same r⟩)

/-! ### operators by values -/
def OpD (K : PySem.W.Frag) (C : Addr) (r : R2) (x y d : PyData) : Prop := ∀ (F H : Hp) (v w : V), Same F H → Rp K C F v x → Rp K C F w y → ∀ Q : VK, (∀ z F' H', Grow F H F' H' → Rp K C F' z d → Q z H') → r v w H Q
def OpB (K : PySem.W.Frag) (C : Addr) (r : R2) (x y : PyData) (b : Bool) : Prop := ∀ (H : Hp) (v w : V), Rp K C H v x → Rp K C H w y → ∀ Q : VK, Q (.bl b) H → r v w H Q
theorem pd_op {op : Operator} {r : R2} (ho : OpR X (binaryOp op) r) (ha : PD X B a ss x) (hb : PD X B b ss y) (h : OpD X.K B.C r x y d) : PD X B (.BinOp a op b pos) ss d := fun σ F H s Q q =>
  sem_of (pe_op ho pe_sem pe_sem) (ha σ F H s _ fun v F1 H1 g1 r1 => hb σ F1 H1 (s.grow g1) _ fun w F2 H2 g2 r2 => h F2 H2 v w g2.fh (r1.mono g2.ff) r2 Q fun z F3 H3 g3 r3 => q z F3 H3 ((g1.trans g2).trans g3) r3)
theorem pd_add {i j : Int} (ha : PD X B a ss (.int i)) (hb : PD X B b ss (.int j)) : PD X B (.BinOp a .Add b pos) ss (.int (i + j)) := pd_op op_add ha hb fun F H v w f r1 r2 Q q => by
  cases r1; cases r2; exact ⟨i, j, rfl, rfl, q _ F H (Grow.refl f) (.int _)⟩
theorem pd_sub {i j : Int} (ha : PD X B a ss (.int i)) (hb : PD X B b ss (.int j)) : PD X B (.BinOp a .Sub b pos) ss (.int (i - j)) := pd_op op_sub ha hb fun F H v w f r1 r2 Q q => by
  cases r1; cases r2; exact ⟨i, j, rfl, rfl, q _ F H (Grow.refl f) (.int _)⟩
theorem pd_mul {i j : Int} (ha : PD X B a ss (.int i)) (hb : PD X B b ss (.int j)) (hc : CMul i j) : PD X B (.BinOp a .Mult b pos) ss (.int (i * j)) := pd_op op_mul ha hb fun F H v w f r1 r2 Q q => by
  cases r1; cases r2; exact ⟨i, j, rfl, rfl, hc, q _ F H (Grow.refl f) (.int _)⟩
theorem pd_div {i j : Int} (ha : PD X B a ss (.int i)) (hb : PD X B b ss (.int j)) (hc : CDiv i j := by exact ⟨by decide, by decide⟩) : PD X B (.BinOp a .FloorDiv b pos) ss (.int (i / j)) := pd_op op_fdiv ha hb fun F H v w f r1 r2 Q q => by
  cases r1; cases r2; exact ⟨i, j, rfl, rfl, hc, q _ F H (Grow.refl f) (.int _)⟩
theorem pd_mod {i j : Int} (ha : PD X B a ss (.int i)) (hb : PD X B b ss (.int j)) (hc : 0 < j := by decide) : PD X B (.BinOp a .Mod b pos) ss (.int (i % j)) := pd_op op_mod ha hb fun F H v w f r1 r2 Q q => by
  cases r1; cases r2; exact ⟨i, j, rfl, rfl, hc, q _ F H (Grow.refl f) (.int _)⟩
theorem pd_neg {i : Int} (ha : PD X B a ss (.int i)) : PD X B (.UnaryOp .USub a pos) ss (.int (-i)) := fun σ F H s Q q =>
  sem_of (pe_un un_neg pe_sem) (ha σ F H s _ fun v F1 H1 g r => by cases r; exact ⟨i, rfl, q _ F1 H1 g (.int _)⟩)
theorem pd_addS {i j : Str} (ha : PD X B a ss (.str i)) (hb : PD X B b ss (.str j)) (hz : i.length + j.length ≤ sizeLine) : PD X B (.BinOp a .Add b pos) ss (.str (i ++ j)) := pd_op op_add_str ha hb fun F H v w f r1 r2 Q q => by
  cases r1; cases r2; exact ⟨i, j, rfl, rfl, hz, q _ F H (Grow.refl f) (.str _)⟩
theorem pd_catT (ha : PD X B a ss (.tuple ds)) (hb : PD X B b ss (.tuple ds')) (hz : ds.length + ds'.length ≤ sizeLine) : PD X B (.BinOp a .Add b pos) ss (.tuple (ds ++ ds')) := pd_op op_catA ha hb fun F H v w f r1 r2 Q q => by
  cases r1 with
  | tup h1 q1 =>
    cases r2 with
    | tup h2 q2 =>
      rename_i p vs p' ws
      have l1 := q1.length
      have l2 := q2.length
      refine ⟨p, p', vs, ws, rfl, rfl, Same.sqt f h1, Same.sqt f h2, by omega, fun e => ?_, fun e1 e2 => ?_, fun e1 e2 t ht => ?_⟩
      · subst e; cases q1; exact q _ F H (Grow.refl f) (.tup h2 q2)
      · subst e2; cases q2; rw [List.append_nil] at q; exact q _ F H (Grow.refl f) (.tup h1 q1)
      · exact q _ (upd F t (.tup (vs ++ ws))) _ (Grow.new f ht) (.tup (SqT.of upd_same) ((q1.app q2).mono (Same.new (f.free ht))))
theorem pd_repT {k : Int} (ha : PD X B a ss (.tuple ds)) (hb : PD X B b ss (.int k)) (h0 : ds ≠ []) (hz : ds.length ≤ 1000) (h2 : 2 ≤ k) (h3 : k ≤ 1000) : PD X B (.BinOp a .Mult b pos) ss (.tuple (List.replicate k.toNat ds).flatten) := pd_op op_repT ha hb fun F H v w f r1 r2 Q q => by
  cases r2
  cases r1 with
  | tup h1 q1 =>
    rename_i p vs
    have l1 := q1.length
    refine ⟨p, k, vs, rfl, rfl, Same.sqt f h1, fun e => ?_, h2, h3, by omega, fun t ht => ?_⟩
    · subst e; cases q1; exact h0 rfl
    · exact q _ (upd F t (.tup _)) _ (Grow.new f ht) (.tup (SqT.of upd_same) ((q1.rep k.toNat).mono (Same.new (f.free ht))))
/-- two lists in a row: a new list -/
theorem pn_cat (ha : PD X B a ss (.list ds)) (hb : PD X B b ss (.list ds')) (hz : ds.length + ds'.length ≤ sizeLine) : PN X B (.BinOp a .Add b pos) ss (ds ++ ds') := fun σ F H s Q q =>
  sem_of (pe_op op_cat pe_sem pe_sem) (ha σ F H s _ fun v F1 H1 g1 r1 => hb σ F1 H1 (s.grow g1) _ fun w F2 H2 g2 r2 => by
    cases r1 with
    | lst h1 q1 =>
      cases r2 with
      | lst h2 q2 =>
        rename_i p vs p' ws
        have l1 := q1.length
        have l2 := q2.length
        exact ⟨p, p', vs, ws, rfl, rfl, g2.hh _ _ (g1.fh _ _ h1), g2.fh _ _ h2, by omega, fun t ht => q t _ F2 _ ((g1.trans g2).trans (Grow.newO g2.fh ht)) ((g1.trans g2).hh.free ht) (g2.fh.free ht) upd_same ((q1.mono g2.ff).app q2)⟩)

/-! ### comparisons -/
theorem pd_cmp {op : CmpOp} {r : R2} {k : Bool} (ho : OpR X (compareOp op) r) (ha : PB X B a ss x) (hb : PB X B b ss y) (h : OpB X.K B.C r x y k) (hm : behindInMarks op b = false) : PD X B (.Compare a [op] [b] pos) ss (.bool k) := fun σ F H s Q q =>
  sem_of (pe_cmpR ho pe_sem pe_sem hm) (ha σ F H s _ fun v F1 H1 g1 r1 => hb σ F1 H1 (s.grow g1) _ fun w F2 H2 g2 r2 => h H2 v w (r1.mono g2.hh) r2 Q (q _ F2 H2 (g1.trans g2) (.bl _)))
theorem td_cmp {op : CmpOp} {r : R2} {k : Bool} (ho : OpR X (compareOp op) r) (ha : PB X B a ss x) (hb : PB X B b ss y) (h : OpB X.K B.C r x y k) (hm : behindInMarks op b = false) : TD X B (.Compare a [op] [b] pos) ss k := fun σ F H s Q q =>
  semT_of (pt_cmpR ho pe_sem pe_sem hm) (ha σ F H s _ fun v F1 H1 g1 r1 => hb σ F1 H1 (s.grow g1) _ fun w F2 H2 g2 r2 => h H2 v w (r1.mono g2.hh) r2 _ ⟨k, rfl, q F2 H2 (g1.trans g2)⟩)
theorem ob_lt {K : PySem.W.Frag} {C : Addr} {i j : Int} : OpB K C (rI0 fun i j => .bl (decide (i < j))) (.int i) (.int j) (decide (i < j)) := fun H v w r1 r2 Q q => by cases r1; cases r2; exact ⟨i, j, rfl, rfl, q⟩
theorem ob_le {K : PySem.W.Frag} {C : Addr} {i j : Int} : OpB K C (rI0 fun i j => .bl (decide (i ≤ j))) (.int i) (.int j) (decide (i ≤ j)) := fun H v w r1 r2 Q q => by cases r1; cases r2; exact ⟨i, j, rfl, rfl, q⟩
theorem ob_gt {K : PySem.W.Frag} {C : Addr} {i j : Int} : OpB K C (rI0 fun i j => .bl (decide (j < i))) (.int i) (.int j) (decide (j < i)) := fun H v w r1 r2 Q q => by cases r1; cases r2; exact ⟨i, j, rfl, rfl, q⟩
theorem ob_ge {K : PySem.W.Frag} {C : Addr} {i j : Int} : OpB K C (rI0 fun i j => .bl (decide (j ≤ i))) (.int i) (.int j) (decide (j ≤ i)) := fun H v w r1 r2 Q q => by cases r1; cases r2; exact ⟨i, j, rfl, rfl, q⟩
theorem ob_eqI {K : PySem.W.Frag} {C : Addr} {i j : Int} : OpB K C rEq (.int i) (.int j) (decide (i = j)) := fun H v w r1 r2 Q q => by
  cases r1; cases r2
  refine ⟨rfl, ?_⟩
  have e : decide (V.int i = V.int j) = decide (i = j) := decide_eq_decide.mpr ⟨fun h => V.int.inj h, fun h => by rw [h]⟩
  rw [e]; exact q
theorem ob_neI {K : PySem.W.Frag} {C : Addr} {i j : Int} : OpB K C rNe (.int i) (.int j) (!decide (i = j)) := fun H v w r1 r2 Q q => by
  cases r1; cases r2
  refine ⟨rfl, ?_⟩
  have e : decide (V.int i = V.int j) = decide (i = j) := decide_eq_decide.mpr ⟨fun h => V.int.inj h, fun h => by rw [h]⟩
  rw [e]; exact q
theorem ob_eqD {K : PySem.W.Frag} {C : Addr} {n m : Nat} (h1 : Pl n x) (h2 : Pl m y) (n1 : n ≤ 64) (n2 : m ≤ 64) : OpB K C (rEqD K) x y (PyData.eqv x y) := fun H v w r1 r2 Q q => ⟨x, y, r1.dp h1.lay.1, r2.dp h2.lay.1, h1.shaped n1, h2.shaped n2, q⟩
theorem ob_neD {K : PySem.W.Frag} {C : Addr} {n m : Nat} (h1 : Pl n x) (h2 : Pl m y) (n1 : n ≤ 64) (n2 : m ≤ 64) : OpB K C (rNeD K) x y (!PyData.eqv x y) := fun H v w r1 r2 Q q => ⟨x, y, r1.dp h1.lay.1, r2.dp h2.lay.1, h1.shaped n1, h2.shaped n2, q⟩
theorem ob_inD {K : PySem.W.Frag} {C : Addr} {n m : Nat} (h1 : Pl n x) (h2 : Pl m (.list ds)) (n1 : n ≤ 64) (n2 : m ≤ 64) : OpB K C (rInD K) x (.list ds) (ds.any fun z => PyData.eqv z x) := fun H v w r1 r2 Q q => ⟨x, ds, r1.dp h1.lay.1, r2.dp h2.lay.1, h1.shaped n1, h2.shaped n2, q⟩
theorem ob_notInD {K : PySem.W.Frag} {C : Addr} {n m : Nat} (h1 : Pl n x) (h2 : Pl m (.list ds)) (n1 : n ≤ 64) (n2 : m ≤ 64) : OpB K C (rNotInD K) x (.list ds) (!ds.any fun z => PyData.eqv z x) := fun H v w r1 r2 Q q => ⟨x, ds, r1.dp h1.lay.1, r2.dp h2.lay.1, h1.shaped n1, h2.shaped n2, q⟩
def isNoneD : PyData → Bool
  | .none => true
  | _ => false
theorem rp_isNone {K : PySem.W.Frag} {C : Addr} {H : Hp} {v : V} {d : PyData} (r : Rp K C H v d) : decide (v = .non) = isNoneD d := by
  cases r <;> simp [isNoneD]
theorem ob_isN {K : PySem.W.Frag} {C : Addr} : OpB K C (fun x y H Q => y = .non ∧ Q (.bl (decide (x = .non))) H) x .none (isNoneD x) := fun H v w r1 r2 Q q => by
  cases r2
  exact ⟨rfl, by rw [rp_isNone r1]; exact q⟩
theorem ob_notN {K : PySem.W.Frag} {C : Addr} : OpB K C (fun x y H Q => y = .non ∧ Q (.bl (!decide (x = .non))) H) x .none (!isNoneD x) := fun H v w r1 r2 Q q => by
  cases r2
  exact ⟨rfl, by rw [rp_isNone r1]; exact q⟩
theorem ob_isB {K : PySem.W.Frag} {C : Addr} {i j : Bool} : OpB K C rIsB (.bool i) (.bool j) (decide (i = j)) := fun H v w r1 r2 Q q => by cases r1; cases r2; exact ⟨i, j, rfl, rfl, q⟩
theorem ob_notB {K : PySem.W.Frag} {C : Addr} {i j : Bool} : OpB K C rNotB (.bool i) (.bool j) (!decide (i = j)) := fun H v w r1 r2 Q q => by cases r1; cases r2; exact ⟨i, j, rfl, rfl, q⟩
/-- a < b < c, ints -/
theorem td_chain {op op' : CmpOp} {f f' : Int → Int → Bool} {i j k : Int} (ho : OpR X (compareOp op) (rI0 fun i j => .bl (f i j))) (ho' : OpR X (compareOp op') (rI0 fun i j => .bl (f' i j))) (ha : PD X B a ss (.int i)) (hb : PD X B b ss (.int j)) (hc : PD X B c ss (.int k))
    (hpt : PT X (.Compare a [op, op'] [b, c] pos) (tTest (tChain (rI0 fun i j => .bl (f i j)) (rI0 fun i j => .bl (f' i j)) (tSem X a) (tSem X b) (tSem X c)))) : TD X B (.Compare a [op, op'] [b, c] pos) ss (f i j && f' j k) := fun σ F H s Q q =>
  semT_of hpt (ha σ F H s _ fun v F1 H1 g1 r1 => hb σ F1 H1 (s.grow g1) _ fun w F2 H2 g2 r2 => by
    cases r1; cases r2
    refine ⟨i, j, rfl, rfl, f i j, rfl, ?_⟩
    cases hf : f i j with
    | false =>
      refine iteF ?_
      rw [hf] at q
      exact ⟨false, rfl, q F2 H2 (g1.trans g2)⟩
    | true =>
      refine iteT ?_
      rw [hf, Bool.true_and] at q
      exact hc σ F2 H2 (s.grow (g1.trans g2)) _ fun u F3 H3 g3 r3 => by
        cases r3
        exact ⟨j, k, rfl, rfl, _, rfl, q F3 H3 ((g1.trans g2).trans g3)⟩)

/-! ### and, or, not -/
theorem TW.t {k : Bool} (h : TW X B e ss k) : TD X B e ss k := fun σ F H s Q q => semT_of (PW.pt pw_sem) (h σ F H s Q q)
theorem tw_and1 {u : Bool} (ha : TD X B a ss u) : TW X B (.BoolOp .And [a] pos) ss u := fun σ F H s Q q => semW_of (pw_and1 pt_sem) (ha σ F H s Q q)
theorem tw_or1 {u : Bool} (ha : TD X B a ss u) : TW X B (.BoolOp .Or [a] pos) ss u := fun σ F H s Q q => semW_of (pw_or1 pt_sem) (ha σ F H s Q q)
theorem tw_and {u v : Bool} (ha : TD X B a ss u) (hb : u = true → TW X B (.BoolOp .And (b :: es) pos) ss v) : TW X B (.BoolOp .And (a :: b :: es) pos) ss (u && v) := fun σ F H s Q q =>
  semW_of (pw_and pt_sem pw_sem) (ha σ F H s _ fun F1 H1 g1 => by
    cases u with
    | true => exact iteT (hb rfl σ F1 H1 (s.grow g1) Q fun F2 H2 g2 => q F2 H2 (g1.trans g2))
    | false => exact iteF (q F1 H1 g1))
theorem tw_or {u v : Bool} (ha : TD X B a ss u) (hb : u = false → TW X B (.BoolOp .Or (b :: es) pos) ss v) : TW X B (.BoolOp .Or (a :: b :: es) pos) ss (u || v) := fun σ F H s Q q =>
  semW_of (pw_or pt_sem pw_sem) (ha σ F H s _ fun F1 H1 g1 => by
    cases u with
    | true => exact iteT (q F1 H1 g1)
    | false => exact iteF (hb rfl σ F1 H1 (s.grow g1) Q fun F2 H2 g2 => q F2 H2 (g1.trans g2)))
theorem td_not {u : Bool} (ha : TD X B a ss u) : TD X B (.UnaryOp .Not a pos) ss (!u) := fun σ F H s Q q => semT_of (pt_not pt_sem) (ha σ F H s _ fun F1 H1 g1 => q F1 H1 g1)
theorem td_val {u : Bool} (ha : PD X B e ss (.bool u)) (he : ∀ whole, isTrue e X.env whole = (do let v ← whole; standAt e.pos; holding [v] (truthy v)) := by intro _; rfl) : TD X B e ss u := fun σ F H s Q q =>
  semT_of (pt_val pe_sem he) (ha σ F H s _ fun v F1 H1 g1 r => by cases r; exact ⟨u, rfl, q F1 H1 g1⟩)
theorem pd_one {op : BoolOp} (h : PD X B a ss d) : PD X B (.BoolOp op [a] pos) ss d := fun σ F H s Q q => sem_of (pe_one pe_sem) (h σ F H s Q q)
theorem pd_and {u v : Bool} (ha : PD X B a ss (.bool u)) (hb : u = true → PD X B (.BoolOp .And (b :: es) pos) ss (.bool v)) : PD X B (.BoolOp .And (a :: b :: es) pos) ss (.bool (u && v)) := fun σ F H s Q q =>
  sem_of (pe_and pe_sem pe_sem) (ha σ F H s _ fun w F1 H1 g1 r => by
    cases r
    refine ⟨u, rfl, ?_⟩
    cases u with
    | true => exact iteT (hb rfl σ F1 H1 (s.grow g1) Q fun z F2 H2 g2 r2 => q z F2 H2 (g1.trans g2) r2)
    | false => exact iteF (q _ F1 H1 g1 (.bl _)))
theorem pd_or {u v : Bool} (ha : PD X B a ss (.bool u)) (hb : u = false → PD X B (.BoolOp .Or (b :: es) pos) ss (.bool v)) : PD X B (.BoolOp .Or (a :: b :: es) pos) ss (.bool (u || v)) := fun σ F H s Q q =>
  sem_of (pe_or pe_sem pe_sem) (ha σ F H s _ fun w F1 H1 g1 r => by
    cases r
    refine ⟨u, rfl, ?_⟩
    cases u with
    | true => exact iteT (q _ F1 H1 g1 (.bl _))
    | false => exact iteF (hb rfl σ F1 H1 (s.grow g1) Q fun z F2 H2 g2 r2 => q z F2 H2 (g1.trans g2) r2))
theorem pd_not {u : Bool} (ha : PD X B a ss (.bool u)) : PD X B (.UnaryOp .Not a pos) ss (.bool (!u)) := fun σ F H s Q q => sem_of (pe_not pe_sem) (ha σ F H s _ fun w F1 H1 g1 r => by cases r; exact ⟨u, rfl, q _ F1 H1 g1 (.bl _)⟩)

/-! ### items, slices, fields -/
theorem atI_rp {K : PySem.W.Frag} {C : Addr} {H : Hp} {vs : List V} {k : Int} (r : RpAll K C H vs ds) (h : atI ds k = some d) : ∃ v, atI vs k = some v ∧ Rp K C H v d := by
  unfold atI at h ⊢
  rw [r.length]
  cases e : ixN ds.length k with
  | none => rw [e] at h; cases h
  | some j =>
    rw [e] at h
    exact RpAll.get r h
theorem pd_ix {k : Int} (ha : PIt X B a ss ds) (hb : PD X B b ss (.int k)) (h : atI ds k = some d) (hx : PlainIx b := by intro _ _; rfl) : PD X B (.Subscript a b pos) ss d := fun σ F H s Q q =>
  sem_of (pe_ix ix_seq pe_sem pe_sem hx) (ha σ F H s _ fun p vs F1 H1 g1 sq r1 => hb σ F1 H1 (s.grow g1) _ fun w F2 H2 g2 r2 => by
    cases r2
    obtain ⟨v, hv, rv⟩ := atI_rp (r1.mono g2.ff) h
    have fin := q v F2 H2 (g1.trans g2) rv
    rcases sq with sq | sq
    · exact .inl ⟨p, vs, k, v, rfl, rfl, g2.hh.seq sq, hv, fin⟩
    · exact .inr (.inl ⟨p, vs, k, v, rfl, rfl, Same.sqt g2.hh sq, hv, fin⟩))
theorem pd_ixS {z : Str} {k : Int} {c : Nat} (ha : PD X B a ss (.str z)) (hb : PD X B b ss (.int k)) (hz : z.length ≤ sizeLine) (h : atI z.cps.toList k = some c) (hx : PlainIx b := by intro _ _; rfl) : PD X B (.Subscript a b pos) ss (.str ⟨#[c]⟩) := fun σ F H s Q q =>
  sem_of (pe_ix ix_str pe_sem pe_sem hx) (ha σ F H s _ fun v F1 H1 g1 r1 => hb σ F1 H1 (s.grow g1) _ fun w F2 H2 g2 r2 => by
    cases r1; cases r2
    exact ⟨z, k, c, rfl, rfl, hz, h, q _ F2 H2 (g1.trans g2) (.str _)⟩)
/-- a slice's end: left out, or a number -/
def POd (X : Cx) (B : Bs) (e : Option Expr) (ss : List SD) (o : Option Int) : Prop := ∃ t : TO, PO X e t ∧ ∀ (σ : St) (F H : Hp), Sat X.K B ss σ F H → ∀ Q : Option Int → Hp → Prop, (∀ F' H', Grow F H F' H' → Q o H') → t σ H Q
theorem pod_none : POd X B none ss none := ⟨_, po_none, fun σ F H s Q q => q F H (Grow.refl s.fh)⟩
theorem pod_some {k : Int} (h : PD X B e ss (.int k)) : POd X B (some e) ss (some k) := ⟨_, po_some pe_sem, fun σ F H s Q q => h σ F H s _ fun v F1 H1 g r => by cases r; exact ⟨k, rfl, q F1 H1 g⟩⟩
def cutD (xs : List PyData) (lo hi : Option Int) : List PyData := (xs.drop (HT.sIx xs.length 0 lo)).take (HT.sIx xs.length xs.length hi - HT.sIx xs.length 0 lo)
theorem pd_slT {lo hi : Option Expr} {l u : Option Int} {p2 : Pos} (ha : PD X B a ss (.tuple ds)) (hl : POd X B lo ss l) (hh : POd X B hi ss u) : PD X B (.Subscript a (.Slice lo hi none p2) pos) ss (.tuple (cutD ds l u)) := fun σ F H s Q q => by
  obtain ⟨tl, pl, ql⟩ := hl
  obtain ⟨th, ph, qh⟩ := hh
  refine sem_of (pe_slice sl_tupA pe_sem pl ph) (ha σ F H s _ fun v F1 H1 g1 r1 => ql σ F1 H1 (s.grow g1) _ fun F2 H2 g2 => qh σ F2 H2 (s.grow (g1.trans g2)) _ fun F3 H3 g3 => ?_)
  have g := (g1.trans g2).trans g3
  have r3 := r1.mono (g2.trans g3).ff
  cases r3 with
  | tup h1 q1 =>
    rename_i p vs
    have ll := q1.length
    refine ⟨p, vs, rfl, Same.sqt g.fh h1, fun hw => ?_, fun hw t ht => ?_⟩
    · have e : cutD ds l u = ds := by
        unfold cutD
        rw [← ll, hw.1, hw.2, List.drop_zero, Nat.sub_zero, ll, List.take_length]
      rw [e] at q
      exact q _ F3 H3 g (.tup h1 q1)
    · refine q _ (upd F3 t (.tup (cutV vs l u))) _ (g.trans (Grow.new g.fh ht)) (.tup (SqT.of upd_same) ?_)
      unfold cutD cutV
      rw [ll]
      exact (((q1.drop _).take _).mono (Same.new (g.fh.free ht)))
theorem pn_slL {lo hi : Option Expr} {l u : Option Int} {p2 : Pos} (ha : PIt X B a ss ds) (hk : ∀ (σ : St) (F H : Hp), Sat X.K B ss σ F H → ∀ Q : VK, (∀ p vs F' H', Grow F H F' H' → SqL X.K H' p vs → RpAll X.K B.C F' vs ds → Q (.ref p) H') → tSem X a σ H Q) (hl : POd X B lo ss l) (hh : POd X B hi ss u) :
    PN X B (.Subscript a (.Slice lo hi none p2) pos) ss (cutD ds l u) := fun σ F H s Q q => by
  obtain ⟨tl, pl, ql⟩ := hl
  obtain ⟨th, ph, qh⟩ := hh
  refine sem_of (pe_slice sl_list pe_sem pl ph) (hk σ F H s _ fun p vs F1 H1 g1 sq r1 => ql σ F1 H1 (s.grow g1) _ fun F2 H2 g2 => qh σ F2 H2 (s.grow (g1.trans g2)) _ fun F3 H3 g3 => ?_)
  have g := (g1.trans g2).trans g3
  have r3 := r1.mono (g2.trans g3).ff
  refine ⟨p, vs, rfl, (g2.trans g3).hh.seq sq, fun t ht => q t (cutV vs l u) F3 _ (g.trans (Grow.newO g.fh ht)) (g.hh.free ht) (g.fh.free ht) upd_same ?_⟩
  have ll := r3.length
  unfold cutD cutV
  rw [ll]
  exact (r3.drop _).take _
theorem lk_many (m h s : Int) (b : Addr) : (flF m h s b).lookup ("many" : Str) = some (.int m) := by rfl
theorem lk_high (m h s : Int) (b : Addr) : (flF m h s b).lookup ("high" : Str) = some (.int h) := by rfl
theorem lk_strong (m h s : Int) (b : Addr) : (flF m h s b).lookup ("strong" : Str) = some (.int s) := by rfl
theorem lk_banned (m h s : Int) (b : Addr) : (flF m h s b).lookup ("banned" : Str) = some (.ref b) := by rfl
theorem pd_fldI {f : Str} {m h t k : Int} (ha : PD X B e ss (flr m h t ds)) (cl : Cls X.K B.C) (na : NoAttr X.K B.C f) (hl : ∀ b, (flF m h t b).lookup f = some (.int k)) (hb : attributeBase e f X.env (eval e X.env) = eval e X.env := by rfl) : PD X B (.Attribute e f pos) ss (.int k) := fun σ F H s Q q =>
  sem_of (pe_fld pe_sem hb) (ha σ F H s _ fun v F1 H1 g r => by
    cases r with
    | flr h1 h2 h3 => exact ⟨_, B.C, _, _, .int k, rfl, g.fh _ _ h1, cl, na, hl _, q _ F1 H1 g (.int _)⟩)
theorem pd_fldB {m h t : Int} (ha : PD X B e ss (flr m h t ds)) (cl : Cls X.K B.C) (na : NoAttr X.K B.C "banned") (hb : attributeBase e "banned" X.env (eval e X.env) = eval e X.env := by rfl) : PD X B (.Attribute e "banned" pos) ss (.list ds) := fun σ F H s Q q =>
  sem_of (pe_fld pe_sem hb) (ha σ F H s _ fun v F1 H1 g r => by
    cases r with
    | flr h1 h2 h3 => exact ⟨_, B.C, _, _, _, rfl, g.fh _ _ h1, cl, na, lk_banned _ _ _ _, q _ F1 H1 g (.lst h2 h3)⟩)

/-! ### built-ins -/
theorem pd_len (ha : PIt X B e ss ds) (hm : X.mg "len" = none) (hg : Gl X "len" := by rfl) (hn : NSt X e := by intro _; rfl) : PD X B (.Call (.Name "len" p) [e] [] pos) ss (.int ds.length) := fun σ F H s Q q =>
  sem_of (pe_callB call_len_seq hg hm PySem.boot_len (pa_cons pe_sem pa_nil (hn [])) (by decide) (by decide) (hn []) rfl) (ha σ F H s _ fun a vs F1 H1 g sq r => ⟨a, vs, rfl, sq, q _ F1 H1 g (by rw [r.length]; exact .int _)⟩)
theorem pd_lenS {z : Str} (ha : PD X B e ss (.str z)) (hz : z.length ≤ sizeLine) (hm : X.mg "len" = none) (hg : Gl X "len" := by rfl) (hn : NSt X e := by intro _; rfl) : PD X B (.Call (.Name "len" p) [e] [] pos) ss (.int z.length) := fun σ F H s Q q =>
  sem_of (pe_callB call_len_str hg hm PySem.boot_len (pa_cons pe_sem pa_nil (hn [])) (by decide) (by decide) (hn []) rfl) (ha σ F H s _ fun v F1 H1 g r => by cases r; exact ⟨z, rfl, hz, q _ F1 H1 g (.int _)⟩)
theorem pn_list (ha : PIt X B e ss ds) (hm : X.mg "list" = none) (hv : bootBuiltins "list" = some (.type "list") := by decide +kernel) (hg : Gl X "list" := by rfl) (hn : NSt X e := by intro _; rfl) : PN X B (.Call (.Name "list" p) [e] [] pos) ss ds := fun σ F H s Q q =>
  sem_of (pe_callTy call_list_of hg hm hv (pa_cons pe_sem pa_nil (hn [])) (by decide) (by decide) (hn []) rfl) (ha σ F H s _ fun a vs F1 H1 g sq r => ⟨a, vs, rfl, sq, fun t ht => q t vs F1 _ (g.trans (Grow.newO g.fh ht)) (g.hh.free ht) (g.fh.free ht) upd_same r⟩)
theorem pd_tupleN (ha : PN X B e ss ds) (hm : X.mg "tuple" = none) (hv : bootBuiltins "tuple" = some (.type "tuple") := by decide +kernel) (hg : Gl X "tuple" := by rfl) (hn : NSt X e := by intro _; rfl) : PD X B (.Call (.Name "tuple" p) [e] [] pos) ss (.tuple ds) := fun σ F H s Q q =>
  sem_of (pe_callTy call_tuple_of hg hm hv (pa_cons pe_sem pa_nil (hn [])) (by decide) (by decide) (hn []) rfl) (ha σ F H s _ fun a vs F1 H1 g n nf h1 r => ⟨a, vs, rfl, .inl ⟨SqL.of h1, fun t ht => q (.ref t) (upd F1 t (.tup vs)) _ (g.trans (Grow.new g.fh ht)) (.tup (SqT.of upd_same) (r.mono (Same.new (g.fh.free ht))))⟩⟩)
theorem pd_tupleI (ha : PIt X B e ss ds) (hk : ∀ (σ : St) (F H : Hp), Sat X.K B ss σ F H → ∀ Q : VK, (∀ p vs F' H', Grow F H F' H' → SqL X.K H' p vs → RpAll X.K B.C F' vs ds → Q (.ref p) H') → tSem X e σ H Q) (hm : X.mg "tuple" = none) (hv : bootBuiltins "tuple" = some (.type "tuple") := by decide +kernel) (hg : Gl X "tuple" := by rfl) (hn : NSt X e := by intro _; rfl) : PD X B (.Call (.Name "tuple" p) [e] [] pos) ss (.tuple ds) := fun σ F H s Q q =>
  sem_of (pe_callTy call_tuple_of hg hm hv (pa_cons pe_sem pa_nil (hn [])) (by decide) (by decide) (hn []) rfl) (hk σ F H s _ fun a vs F1 H1 g h1 r => ⟨a, vs, rfl, .inl ⟨h1, fun t ht => q (.ref t) (upd F1 t (.tup vs)) _ (g.trans (Grow.new g.fh ht)) (.tup (SqT.of upd_same) (r.mono (Same.new (g.fh.free ht))))⟩⟩)
/-- a list that is read as a list -/
def PLi (X : Cx) (B : Bs) (e : Expr) (ss : List SD) (ds : List PyData) : Prop := ∀ (σ : St) (F H : Hp), Sat X.K B ss σ F H → ∀ Q : VK, (∀ p vs F' H', Grow F H F' H' → SqL X.K H' p vs → RpAll X.K B.C F' vs ds → Q (.ref p) H') → tSem X e σ H Q
theorem PLi.it (h : PLi X B e ss ds) : PIt X B e ss ds := fun σ F H s Q q => h σ F H s Q fun p vs F' H' g k r => q p vs F' H' g (.inl k) r
theorem PD.li (h : PD X B e ss (.list ds)) : PLi X B e ss ds := fun σ F H s Q q => h σ F H s Q fun v F' H' g r => by
  cases r with
  | lst h1 h2 => exact q _ _ F' H' g (SqL.of (g.fh _ _ h1)) h2
theorem PN.li (h : PN X B e ss ds) : PLi X B e ss ds := fun σ F H s Q q => h σ F H s Q fun a vs F' H' g n nf h1 r => q a vs F' H' g (SqL.of h1) r
theorem pl_own (i : Nat) {x : Str} {ds : List PyData} (hN : X.N[i]? = some x := by rfl) (hs : ss[i]? = some (.own ds) := by rfl) (hv : Vis X.env.scope x := by first | exact Or.inl rfl | exact Or.inr (Or.inl rfl) | exact Or.inr (Or.inr rfl)) (hd : (x == ("__debug__" : Str)) = false := by decide)
    (hcd : (x == ("__classdict__" : Str)) = false := by decide) : PLi X B (.Name x p) ss ds := fun σ F H s Q q => by
  obtain ⟨a, vs, e, h0, n, ha, r⟩ := s.slot i _ hs
  exact sem_of (pe_var hN hv hd hcd) ⟨.ref a, e, q a vs F H (Grow.refl s.fh) (SqL.of ha) r⟩
theorem pn_sl {lo hi : Option Expr} {l u : Option Int} {p2 : Pos} (ha : PLi X B a ss ds) (hl : POd X B lo ss l) (hh : POd X B hi ss u) : PN X B (.Subscript a (.Slice lo hi none p2) pos) ss (cutD ds l u) := pn_slL ha.it ha hl hh
theorem pd_tuple (ha : PLi X B e ss ds) (hm : X.mg "tuple" = none) (hv : bootBuiltins "tuple" = some (.type "tuple") := by decide +kernel) (hg : Gl X "tuple" := by rfl) (hn : NSt X e := by intro _; rfl) : PD X B (.Call (.Name "tuple" p) [e] [] pos) ss (.tuple ds) := pd_tupleI ha.it ha hm hv hg hn
theorem pn_sorted {ns : List Int} (ha : PLi X B e ss (ns.map .int)) (hm : X.mg "sorted" = none) (hv : bootBuiltins "sorted" = some (.builtin "sorted") := by decide +kernel) (hg : Gl X "sorted" := by rfl) (hn : NSt X e := by intro _; rfl) {ms : List Int} (hms : ∀ l : List Int, l.Perm ns → l.Pairwise (· ≤ ·) → l = ms) : PN X B (.Call (.Name "sorted" p) [e] [] pos) ss (ms.map .int) := fun σ F H s Q q =>
  sem_of (pe_callB cr_sortedI hg hm hv (pa_cons pe_sem pa_nil (hn [])) (by decide) (by decide) (hn []) rfl) (ha σ F H s _ fun a vs F1 H1 g sq r => by
    have e := RpAll.intsV r
    subst e
    refine ⟨a, ns, rfl, sq, fun ns' t hp hs ht => ?_⟩
    have e := hms ns' hp hs
    subst e
    exact q t _ F1 _ (g.trans (Grow.newO g.fh ht)) (g.hh.free ht) (g.fh.free ht) upd_same (RpAll.ints _))
theorem pd_abs {i : Int} (ha : PD X B e ss (.int i)) (hm : X.mg "abs" = none) (hv : bootBuiltins "abs" = some (.builtin "abs") := by decide +kernel) (hg : Gl X "abs" := by rfl) (hn : NSt X e := by intro _; rfl) : PD X B (.Call (.Name "abs" p) [e] [] pos) ss (.int (if i < 0 then -i else i)) := fun σ F H s Q q =>
  sem_of (pe_callB call_abs hg hm hv (pa_cons pe_sem pa_nil (hn [])) (by decide) (by decide) (hn []) rfl) (ha σ F H s _ fun v F1 H1 g r => by cases r; exact ⟨i, rfl, q _ F1 H1 g (.int _)⟩)
theorem pd_min2 {i j : Int} (hc : X.calm = true) (ha : PD X B a ss (.int i)) (hb : PD X B b ss (.int j)) (hm : X.mg "min" = none) (hv : bootBuiltins "min" = some (.builtin "min") := by decide +kernel) (hg : Gl X "min" := by rfl) (hn : NSt X a := by intro _; rfl) (hn2 : NSt X b := by intro _; rfl)
    (hpl : (backTo pos (starEach [b] X.env)).any (·.1) = false := by rfl) : PD X B (.Call (.Name "min" p) [a, b] [] pos) ss (.int (if j < i then j else i)) := fun σ F H s Q q =>
  sem_of (pe_callB (call_min2 hc) hg hm hv (pa_cons pe_sem (pa_cons pe_sem pa_nil (hn2 [])) (hn [b])) (by decide) (by decide) (hn [b]) hpl) (ha σ F H s _ fun v F1 H1 g1 r1 => hb σ F1 H1 (s.grow g1) _ fun w F2 H2 g2 r2 => by
    cases r1; cases r2; exact ⟨i, j, rfl, q _ F2 H2 (g1.trans g2) (.int _)⟩)
theorem pd_max2 {i j : Int} (hc : X.calm = true) (ha : PD X B a ss (.int i)) (hb : PD X B b ss (.int j)) (hm : X.mg "max" = none) (hv : bootBuiltins "max" = some (.builtin "max") := by decide +kernel) (hg : Gl X "max" := by rfl) (hn : NSt X a := by intro _; rfl) (hn2 : NSt X b := by intro _; rfl)
    (hpl : (backTo pos (starEach [b] X.env)).any (·.1) = false := by rfl) : PD X B (.Call (.Name "max" p) [a, b] [] pos) ss (.int (if j > i then j else i)) := fun σ F H s Q q =>
  sem_of (pe_callB (call_max2 hc) hg hm hv (pa_cons pe_sem (pa_cons pe_sem pa_nil (hn2 [])) (hn [b])) (by decide) (by decide) (hn [b]) hpl) (ha σ F H s _ fun v F1 H1 g1 r1 => hb σ F1 H1 (s.grow g1) _ fun w F2 H2 g2 r2 => by
    cases r1; cases r2; exact ⟨i, j, rfl, q _ F2 H2 (g1.trans g2) (.int _)⟩)
/-- list(range(n)), list(range(a, b)) -/
def rgD (a b : Int) : List PyData := (List.range (b - a).toNat).map fun i => PyData.int (a + (i : Nat))
theorem rp_rg {K : PySem.W.Frag} {C : Addr} {H : Hp} (a b : Int) : RpAll K C H (rgV a b) (rgD a b) := by
  unfold rgV rgD
  have : ∀ l : List Nat, RpAll K C H (l.map fun i => V.int (a + (i : Nat))) (l.map fun i => PyData.int (a + (i : Nat))) := by
    intro l
    induction l with
    | nil => exact .nil
    | cons i r ih => exact .cons (.int _) ih
  exact this _
theorem pn_listRg {p1 p2 : Pos} {n : Int} (hc : X.calm = true) (ha : PD X B a ss (.int n)) (h0 : 0 ≤ n) (h1 : n ≤ 16777216) (hm : X.mg "list" = none) (hm2 : X.mg "range" = none) (hg : Gl X "list" := by rfl) (hg2 : Gl X "range" := by rfl) (hn : NSt X a := by intro _; rfl)
    (hn2 : NSt X (.Call (.Name "range" p1) [a] [] p2) := by intro _; rfl) : PN X B (.Call (.Name "list" p) [.Call (.Name "range" p1) [a] [] p2] [] pos) ss (rgD 0 n) := fun σ F H s Q q =>
  sem_of (pe_listRg hc hg hm (prg_1 hg2 hm2 pe_sem (hn [])) (hn2 [])) (ha σ F H s _ fun v F1 H1 g r => by
    cases r
    exact ⟨n, rfl, RgOk.of_le (by decide) h1 (by decide) h0, fun t ht => q t _ F1 _ (g.trans (Grow.newO g.fh ht)) (g.hh.free ht) (g.fh.free ht) upd_same (rp_rg _ _)⟩)
end
end G

namespace G
open PySem L2
/-- a def's body, a block: nothing is being handled, names once, room -/
structure Cxt (X : Cx) : Prop where
  calm : X.calm = true
  nd : X.N.Nodup
  pass : PassesOwn (model X.prog X.w) X.A X.env X.xe
  units : X.A.units + 65 < cLine
theorem Cxt.u64 {X : Cx} (h : Cxt X) : X.A.units + 64 < cLine := Nat.lt_of_succ_lt h.units
def Go (X : Cx) (B : Bs) (l : List Stmt) (ss : List SD) (D : Ends) : Prop := ∀ (σ : St) (F H : Hp), Sat X.K B ss σ F H → tSS X l D σ H
/-- a state that J tells -/
def Mid (X : Cx) (B : Bs) (J : List SD → Prop) : St → Hp → Prop := fun σ H => ∃ F ss, J ss ∧ Sat X.K B ss σ F H
abbrev Bs.pinned (B : Bs) (Fp : Hp) : Bs := { B with Fp := Fp }
section
variable {X : Cx} {B : Bs} {ss : List SD} {e a b c : Expr} {es : List Expr} {pos p p2 p3 p4 : Pos} {d x y z : PyData} {ds ds' : List PyData} {rest body orelse : List Stmt} {st : Stmt} {D : Ends}
theorem go_step {t : TS} (h : PS X st t) (q : ∀ (σ : St) (F H : Hp), Sat X.K B ss σ F H → t { D with nx := tSS X rest D } σ H) : Go X B (st :: rest) ss D := fun σ F H s => ss_of (pss_cons h pss_sem) (q σ F H s)
theorem go_nil (q : ∀ (σ : St) (F H : Hp), Sat X.K B ss σ F H → D.nx σ H) : Go X B [] ss D := fun σ F H s => ss_of pss_nil (q σ F H s)
theorem go_on {l : List Stmt} {D' : Ends} {r : VK} {bk ct : St → Hp → Prop} (h : Go X B l ss D') : Go X B [] ss { nx := tSS X l D', rt := r, bk := bk, ct := ct } := go_nil fun σ F H s => h σ F H s
/-- the end of a loop's turn, of a branch -/
theorem go_end {J : List SD → Prop} {ss' : List SD} {r : VK} {bk ct : St → Hp → Prop} (h : J ss') (w : Wk ss ss' := by exact Wk.refl _) : Go X B [] ss { nx := Mid X B J, rt := r, bk := bk, ct := ct } := go_nil fun σ F H s => ⟨F, ss', h, s.weak w⟩
theorem go_weak {l : List Stmt} {ss' : List SD} (w : Wk ss ss') (h : Go X B l ss' D) : Go X B l ss D := fun σ F H s => h σ F H (s.weak w)
theorem go_eq {l : List Stmt} {ss' : List SD} (w : ss = ss') (h : Go X B l ss' D) : Go X B l ss D := w ▸ h
theorem go_freeze {l : List Stmt} (i : Nat) (hs : ss[i]? = some (.own ds)) (h : Go X B l (ss.set i (.dat (.list ds))) D) (nr : noRaw ss = true := by rfl) : Go X B l ss D := fun σ F H s => by
  obtain ⟨F', s', _⟩ := s.freeze hs nr
  exact h σ F' H s'
theorem go_asg (i : Nat) {x : Str} (hN : X.N.Nodup) (he : PD X B e ss d) (h : Go X B rest (ss.set i (.dat d)) D) (hi : X.N[i]? = some x := by rfl) (hx : Loc X.env.scope x := by first | exact Or.inl rfl | exact Or.inr rfl) (hs : swapsWith e (some (.Name x p)) pos.line X.env = pure false := by rfl)
    (hf : X.fn x = true ∨ X.env.scope.names.lookup x = some .local := by first | exact .inl rfl | exact .inr rfl) : Go X B (.Assign [.Name x p] e pos :: rest) ss D :=
  go_step (ps_set hN hi hx pe_sem hs hf) fun σ F H s => he σ F H s _ fun v F1 H1 g r => h _ F1 H1 ((s.grow g).set_dat r)
theorem go_asgN (i : Nat) {x : Str} (hN : X.N.Nodup) (he : PN X B e ss ds) (h : Go X B rest (ss.set i (.own ds)) D) (hi : X.N[i]? = some x := by rfl) (hx : Loc X.env.scope x := by first | exact Or.inl rfl | exact Or.inr rfl) (hs : swapsWith e (some (.Name x p)) pos.line X.env = pure false := by rfl)
    (hf : X.fn x = true ∨ X.env.scope.names.lookup x = some .local := by first | exact .inl rfl | exact .inr rfl) : Go X B (.Assign [.Name x p] e pos :: rest) ss D :=
  go_step (ps_set hN hi hx pe_sem hs hf) fun σ F H s => he σ F H s _ fun a vs F1 H1 g n nf h1 r => by
    refine h _ F1 H1 ((s.grow g).set_own (s.g.hh.free n) nf h1 r fun j es hj q z => ?_)
    obtain ⟨a', vs', ea, _, _, h2, _⟩ := s.slot j _ q
    rw [z] at ea
    injection ea with ea
    injection ea with ea
    injection ea with ea
    subst ea
    rw [n] at h2
    cases h2
theorem go_if {k : Bool} (hc : TD X B c ss k) (h1 : k = true → Go X B body ss { D with nx := tSS X rest D }) (h2 : k = false → Go X B orelse ss { D with nx := tSS X rest D }) : Go X B (.If c body orelse pos :: rest) ss D :=
  go_step (ps_if pt_sem pss_sem pss_sem) fun σ F H s => hc σ F H s _ fun F1 H1 g => by
    cases k with
    | true => exact iteT (h1 rfl σ F1 H1 (s.grow g))
    | false => exact iteF (h2 rfl σ F1 H1 (s.grow g))
/-- a statement, then the rest from what J tells -/
theorem go_stepC {t : TS} (h : PS X st t) (J : List SD → Prop) (q : ∀ (σ : St) (F H : Hp), Sat X.K B ss σ F H → t { D with nx := Mid X B J } σ H) (h2 : ∀ ss', J ss' → Go X B rest ss' D) : Go X B (st :: rest) ss D := fun σ F H s pins sh I => by
  refine wpAny_execs_cons (thn (h.run pins sh σ H { D with nx := Mid X B J } I (q σ F H s)) fun f s1 r => ?_)
  cases f with
  | next =>
    obtain ⟨σ', H', I', F', ss', j, s'⟩ := r
    exact h2 ss' j σ' F' H' s' pins s1 I'
  | ret v => exact r
  | brk => exact r
  | cont => exact r
theorem go_ifJ {k : Bool} (J : List SD → Prop) (hc : TD X B c ss k) (h1 : k = true → Go X B body ss { D with nx := Mid X B J }) (h2 : k = false → Go X B orelse ss { D with nx := Mid X B J }) (h3 : ∀ ss', J ss' → Go X B rest ss' D) : Go X B (.If c body orelse pos :: rest) ss D :=
  go_stepC (ps_if pt_sem pss_sem pss_sem) J (fun σ F H s => hc σ F H s _ fun F1 H1 g => by
    cases k with
    | true => exact iteT (h1 rfl σ F1 H1 (s.grow g))
    | false => exact iteF (h2 rfl σ F1 H1 (s.grow g))) h3
theorem go_ret (he : PD X B e ss d) (k : ∀ v F H, Grow B.F0 B.H0 F H → Rp X.K B.C F v d → D.rt v H) : Go X B (.Return (some e) pos :: rest) ss D :=
  go_step (ps_ret pe_sem) fun σ F H s => he σ F H s _ fun v F1 H1 g r => k v F1 H1 (s.g.trans g) r
theorem go_retN (he : PN X B e ss ds) (k : ∀ a vs F H, Grow B.F0 B.H0 F H → B.H0 a = none → F a = none → H a = some (.lst vs) → RpAll X.K B.C F vs ds → D.rt (.ref a) H) : Go X B (.Return (some e) pos :: rest) ss D :=
  go_step (ps_ret pe_sem) fun σ F H s => he σ F H s _ fun a vs F1 H1 g n nf h r => k a vs F1 H1 (s.g.trans g) (s.g.hh.free n) nf h r
theorem go_retO (i : Nat) {x : Str} (hs : ss[i]? = some (.own ds) := by rfl) (hN : X.N[i]? = some x := by rfl) (hv : Vis X.env.scope x := by first | exact Or.inl rfl | exact Or.inr (Or.inl rfl) | exact Or.inr (Or.inr rfl)) (hd : (x == ("__debug__" : Str)) = false := by decide)
    (hcd : (x == ("__classdict__" : Str)) = false := by decide) (k : ∀ a vs F H, Grow B.F0 B.H0 F H → B.H0 a = none → F a = none → H a = some (.lst vs) → RpAll X.K B.C F vs ds → D.rt (.ref a) H) : Go X B (.Return (some (.Name x p)) pos :: rest) ss D :=
  go_step (ps_ret (pe_var hN hv hd hcd)) fun σ F H s => by
    obtain ⟨a, vs, e, h0, n, h, r⟩ := s.slot i _ hs
    exact ⟨.ref a, e, k a vs F H s.g h0 n h r⟩
theorem go_drop (he : PD X B e ss d) (h : Go X B rest ss D) (hs : swapsWith e none pos.line X.env = pure false := by rfl) : Go X B (.Expr e pos :: rest) ss D :=
  go_step (ps_expr pe_sem hs) fun σ F H s => he σ F H s _ fun v F1 H1 g r => h σ F1 H1 (s.grow g)
theorem go_dropN (he : PN X B e ss ds) (h : Go X B rest ss D) (hs : swapsWith e none pos.line X.env = pure false := by rfl) : Go X B (.Expr e pos :: rest) ss D := go_drop he.da h hs

/-! ### lists of one's own, changed -/
theorem go_append (i : Nat) {x : Str} (hs0 : ss[i]? = some (.own ds)) (he : PD X B e ss d) (h : Go X B rest (ss.set i (.own (ds ++ [d]))) D) (hz : ds.length < sizeLine) (nr : noRaw ss = true := by rfl)
    (hpe : PE X (.Call (.Attribute (.Name x p) "append" p2) [e] [] p3) (tBM X.K "list" rAppend (tVar i) (tCons (tSem X e) tNil)) := by exact pe_bm PySem.F.plainAttrs_list PySem.F.slot_list_append PySem.F.type_list_append mt_append (pe_var (by rfl) (by first | exact Or.inl rfl | exact Or.inr (Or.inl rfl) | exact Or.inr (Or.inr rfl)) (by decide) (by decide)) (pa_cons pe_sem pa_nil))
    (hs : swapsWith (.Call (.Attribute (.Name x p) "append" p2) [e] [] p3) none p4.line X.env = pure false := by rfl) : Go X B (.Expr (.Call (.Attribute (.Name x p) "append" p2) [e] [] p3) p4 :: rest) ss D :=
  go_step (ps_expr hpe hs) fun σ F H s => by
    obtain ⟨a, vs, ea, a0, n, ha, r⟩ := s.slot i _ hs0
    refine ⟨_, ea, .inl ⟨rfl, vs, SqL.of ha⟩, he σ F H s _ fun v F1 H1 g r1 => ⟨a, vs, v, rfl, rfl, g.hh _ _ ha, by rw [r.length]; exact hz, ?_⟩⟩
    exact h σ F1 _ ((s.grow g).mut hs0 ea nr ((r.mono g.ff).app (.one r1)))
theorem go_extend (i : Nat) {x : Str} (hs0 : ss[i]? = some (.own ds)) (he : PD X B e ss (.list ds')) (h : Go X B rest (ss.set i (.own (ds ++ ds'))) D) (hz : ds.length + ds'.length ≤ sizeLine) (nr : noRaw ss = true := by rfl)
    (hpe : PE X (.Call (.Attribute (.Name x p) "extend" p2) [e] [] p3) (tBM X.K "list" rExtend (tVar i) (tCons (tSem X e) tNil)) := by exact pe_bm PySem.F.plainAttrs_list PySem.F.slot_list_extend PySem.F.type_list_extend mt_extend (pe_var (by rfl) (by first | exact Or.inl rfl | exact Or.inr (Or.inl rfl) | exact Or.inr (Or.inr rfl)) (by decide) (by decide)) (pa_cons pe_sem pa_nil))
    (hs : swapsWith (.Call (.Attribute (.Name x p) "extend" p2) [e] [] p3) none p4.line X.env = pure false := by rfl) : Go X B (.Expr (.Call (.Attribute (.Name x p) "extend" p2) [e] [] p3) p4 :: rest) ss D :=
  go_step (ps_expr hpe hs) fun σ F H s => by
    obtain ⟨a, vs, ea, a0, n, ha, r⟩ := s.slot i _ hs0
    refine ⟨_, ea, .inl ⟨rfl, vs, SqL.of ha⟩, he σ F H s _ fun v F1 H1 g r1 => ?_⟩
    cases r1 with
    | lst h1 h2 =>
      rename_i b ws
      refine ⟨a, b, vs, ws, rfl, rfl, g.hh _ _ ha, g.fh _ _ h1, by rw [r.length, h2.length]; exact hz, ?_⟩
      exact h σ F1 _ ((s.grow g).mut hs0 ea nr ((r.mono g.ff).app h2))
theorem go_setL (i : Nat) {x : Str} {k : Int} {m : Nat} (hs0 : ss[i]? = some (.own ds)) (he : PD X B e ss d) (hk : PD X B a ss (.int k)) (hm : ixN ds.length k = some m) (h : Go X B rest (ss.set i (.own (ds.set m d))) D) (nr : noRaw ss = true := by rfl)
    (hps : PS X (.Assign [.Subscript (.Name x p) a p2] e pos) (tAsg (tSem X e) (gSub (tVar i) (tSem X a) rSetL)) := by exact ps_asg pe_sem (pg_sub (pe_var (by rfl) (by first | exact Or.inl rfl | exact Or.inr (Or.inl rfl) | exact Or.inr (Or.inr rfl)) (by decide) (by decide)) pe_sem set_list)) :
    Go X B (.Assign [.Subscript (.Name x p) a p2] e pos :: rest) ss D :=
  go_step hps fun σ F H s => he σ F H s _ fun v F1 H1 g1 r1 => by
    obtain ⟨q, vs, ea, a0, n, ha, r⟩ := (s.grow g1).slot i _ hs0
    refine ⟨_, ea, hk σ F1 H1 (s.grow g1) _ fun w F2 H2 g2 r2 => ?_⟩
    cases r2
    refine ⟨q, vs, k, m, rfl, rfl, g2.hh _ _ ha, by rw [r.length]; exact hm, ?_⟩
    exact h σ F2 _ ((s.grow (g1.trans g2)).mut hs0 ea nr ((r.mono g2.ff).set (r1.mono g2.ff) m))
/-- y = x.pop(k) -/
theorem go_pop (i j : Nat) {x y : Str} {k : Int} {m : Nat} (nd : X.N.Nodup) (hij : i ≠ j) (hs0 : ss[j]? = some (.own ds)) (hk : PD X B a ss (.int k)) (hm : ixN ds.length k = some m) (hd : ds[m]? = some d) (hz : ds.length < 2 ^ 62) (h : Go X B rest ((ss.set j (.own (ds.eraseIdx m))).set i (.dat d)) D) (nr : noRaw ss = true := by rfl)
    (hps : PS X (.Assign [.Name y p4] (.Call (.Attribute (.Name x p) "pop" p2) [a] [] p3) pos) (tAsg (tBM X.K "list" rPopAt (tVar j) (tCons (tSem X a) tNil)) (gName i)) := by exact ps_set (by assumption) (by rfl) (by first | exact Or.inl rfl | exact Or.inr rfl) (pe_bm PySem.F.plainAttrs_list PySem.F.slot_list_pop PySem.F.type_list_pop mt_popAt (pe_var (by rfl) (by first | exact Or.inl rfl | exact Or.inr (Or.inl rfl) | exact Or.inr (Or.inr rfl)) (by decide) (by decide)) (pa_cons pe_sem pa_nil))) :
    Go X B (.Assign [.Name y p4] (.Call (.Attribute (.Name x p) "pop" p2) [a] [] p3) pos :: rest) ss D :=
  go_step hps fun σ F H s => by
    obtain ⟨q, vs, ea, a0, n, ha, r⟩ := s.slot j _ hs0
    refine ⟨_, ea, .inl ⟨rfl, vs, SqL.of ha⟩, hk σ F H s _ fun w F1 H1 g r1 => ?_⟩
    cases r1
    obtain ⟨v, hv, rv⟩ := RpAll.get r hd
    obtain ⟨q1, q2, q3, q4⟩ := ixN_seq hm
    have ll := r.length
    refine ⟨q, vs, k, m, v, rfl, rfl, g.hh _ _ ha, by omega, by omega, by rw [ll]; exact q1, hv, ?_⟩
    exact h _ F1 _ (((s.grow g).mut hs0 ea nr ((r.mono g.ff).erase m)).set_dat (rv.mono g.ff))

/-! ### loops -/
def iSeq (K : PySem.W.Frag) (tl : TE) : TI := fun σ H R => tl σ H fun x H1 => ∃ a, x = .ref a ∧ ((∃ xs, SqL K H1 a xs ∧ R (Itl K a) H1) ∨ (∃ xs, SqT K H1 a xs ∧ R (Itt K a) H1))
theorem pi_seq {tg l : Expr} {tl : TE} (hl : PE X l tl) : PI X tg l (iSeq X.K tl) := by
  refine ⟨fun pins s σ H R I h => ?_⟩
  refine thn (hl.run pins s σ H _ I h) fun v s1 ⟨x, H1, I1, r1, q1⟩ => ?_
  obtain ⟨a, e, q1⟩ := q1
  subst e
  cases r1
  rcases q1 with ⟨xs, hq, q⟩ | ⟨xs, hq, q⟩
  · obtain ⟨its, rv, p, hz⟩ := I1.list hq
    refine wpAny_pyIter_list p.isList ?_
    refine ⟨s1.heap.objs.size, [s1.heap.objs.size], _, _, H1, rfl, I1.kept (t' := s1.toks) fun b o e => Heap.get?_push_of_some _ e, turn_list a _, ⟨_, Heap.get?_push_size _ rfl, rfl, rfl⟩, fun b hb => ?_, q⟩
    have e : b = s1.heap.objs.size := by simpa using hb
    subst e
    exact I1.fpOk (Nat.le_refl _) (I1.hok.fresh (Nat.le_refl _))
  · obtain ⟨its, rv, p, hz⟩ := I1.tuple hq
    refine wpAny_pyIter_tuple (show s1.heap.IsTuple a its.toArray from p) ?_
    refine ⟨s1.heap.objs.size, [s1.heap.objs.size], _, _, H1, rfl, I1.kept (t' := s1.toks) fun b o e => Heap.get?_push_of_some _ e, turn_tuple a _, ⟨_, Heap.get?_push_size _ rfl, rfl, rfl⟩, fun b hb => ?_, q⟩
    have e : b = s1.heap.objs.size := by simpa using hb
    subst e
    exact I1.fpOk (Nat.le_refl _) (I1.hok.fresh (Nat.le_refl _))
theorem Sat.unpin {K : PySem.W.Frag} {Fp : Hp} {σ : St} {F H : Hp} (h : Sat K (B.pinned Fp) ss σ F H) (e : Same B.Fp Fp) : Sat K B ss σ F H := ⟨h.g, e.trans h.pin, h.len, h.slot, h.ne⟩
theorem Sat.pinned {K : PySem.W.Frag} {σ : St} {F H : Hp} (h : Sat K B ss σ F H) : Sat K (B.pinned F) ss σ F H := ⟨h.g, Same.refl _, h.len, h.slot, h.ne⟩
abbrev lpE (X : Cx) (B : Bs) (J : List SD → Prop) (rest : List Stmt) (D : Ends) : Ends := { nx := Mid X B J, rt := D.rt, bk := tSS X rest D, ct := Mid X B J }
theorem go_for {α : Type} {xs : List α} {f : α → PyData} (j : Nat) {x : Str} (J : Nat → List SD → Prop) (cx : Cxt X) (he : PIs X B e ss (xs.map f)) (h0 : J 0 ss)
    (hb : ∀ (Fp : Hp) (i : Nat) (u : α) (ss' : List SD), xs[i]? = some u → J i ss' → Go X (B.pinned Fp) body (ss'.set j (.dat (f u))) (lpE X (B.pinned Fp) (J (i + 1)) rest D))
    (hd : ∀ ss', J xs.length ss' → Go X B rest ss' D)
    (hps : ∀ wi, PI X (.Name x p) e wi → PS X (.For (.Name x p) e body [] pos) (tFor wi (gName j) (tSS X body)) := by intro _ hw; exact ps_for (Cxt.pass (by assumption)) (Cxt.calm (by assumption)) hw (pg_name (Cxt.nd (by assumption)) (by rfl) (by first | exact Or.inl rfl | exact Or.inr rfl)) pss_sem) :
    Go X B (.For (.Name x p) e body [] pos :: rest) ss D :=
  go_step (hps _ (pi_seq pe_sem)) fun σ F H s => he σ F H s _ fun a vs F1 H1 g sq r => by
    have s1 := s.grow g
    have pn : Same B.Fp F1 := s.pin.trans g.ff
    have step : ∀ (i : Nat) (w : V) (σ' : St) (H' : Hp), vs[i]? = some w → Mid X (B.pinned F1) (J i) σ' H' → tSS X body (lpE X (B.pinned F1) (J (i + 1)) rest D) (σ'.set j (some w)) H' := fun i w σ' H' hi ⟨F', ss', j', s'⟩ => by
      obtain ⟨d, hd', rd⟩ := RpAll.getV r hi
      rw [List.getElem?_map] at hd'
      cases hu : xs[i]? with
      | none => rw [hu] at hd'; cases hd'
      | some u =>
        rw [hu] at hd'
        cases hd'
        exact hb F1 i u ss' hu j' _ F' H' (s'.set_dat (rd.mono s'.pin))
    have fin : ∀ (σ' : St) (H' : Hp), Mid X (B.pinned F1) (J xs.length) σ' H' → tSS X rest D σ' H' := fun σ' H' ⟨F', ss', j', s'⟩ => hd ss' j' σ' F' H' (s'.unpin pn)
    have ll : vs.length = xs.length := by rw [r.length, List.length_map]
    refine ⟨a, rfl, ?_⟩
    rcases sq with sq | sq
    · refine .inl ⟨vs, g.fh.seq sq, for_list (K := X.K) (a := a) (xs := vs) (fun i => Mid X (B.pinned F1) (J i)) ⟨F1, ss, h0, s1.pinned⟩ (fun i σ' H' _ ⟨F', ss', j', s'⟩ => s'.fh.seq (s'.pin.seq sq)) step (by rw [ll]; exact fin)⟩
    · refine .inr ⟨vs, Same.sqt g.fh sq, for_tup (K := X.K) (a := a) (xs := vs) (fun i => Mid X (B.pinned F1) (J i)) ⟨F1, ss, h0, s1.pinned⟩ (fun i σ' H' _ ⟨F', ss', j', s'⟩ => Same.sqt s'.fh (Same.sqt s'.pin sq)) step (by rw [ll]; exact fin)⟩
/-- for k in range(n) -/
theorem go_rng1 {n : Int} (j : Nat) {x : Str} (J : Nat → List SD → Prop) (cx : Cxt X) (he : PD X B a ss (.int n)) (hn : -(2 ^ 62) ≤ n ∧ n < 2 ^ 62) (h0 : J 0 ss)
    (hb : ∀ (i : Nat) (ss' : List SD), (i : Int) < n → J i ss' → Go X B body (ss'.set j (.dat (.int (i : Int)))) (lpE X B (J (i + 1)) rest D))
    (hd : ∀ ss', J n.toNat ss' → Go X B rest ss' D) (hm : X.mg "range" = none) (hg : Gl X "range" := by rfl) (hn1 : NSt X a := by intro _; rfl)
    (hps : ∀ wi, PI X (.Name x p) (.Call (.Name "range" p2) [a] [] p3) wi → PS X (.For (.Name x p) (.Call (.Name "range" p2) [a] [] p3) body [] pos) (tFor wi (gName j) (tSS X body)) := by intro _ hw; exact ps_for (Cxt.pass (by assumption)) (Cxt.calm (by assumption)) hw (pg_name (Cxt.nd (by assumption)) (by rfl) (by first | exact Or.inl rfl | exact Or.inr rfl)) pss_sem) :
    Go X B (.For (.Name x p) (.Call (.Name "range" p2) [a] [] p3) body [] pos :: rest) ss D :=
  go_step (hps _ (pi_range1 hg hm (pa_cons pe_sem pa_nil (hn1 [])) (hn1 []))) fun σ F H s => he σ F H s _ fun v F1 H1 g r => by
    cases r
    refine ⟨n, rfl, hn.1, hn.2, for_range (lo := 0) (n := n.toNat) (fun i => Mid X B (J i)) ⟨F1, ss, h0, s.grow g⟩ (fun i σ' H' hi ⟨F', ss', j', s'⟩ => ?_) fun σ' H' ⟨F', ss', j', s'⟩ => hd ss' j' σ' F' H' s'⟩
    have e0 : (0 : Int) + (i : Int) = (i : Int) := Int.zero_add _
    show tSS X body (lpE X B (J (i + 1)) rest D) (σ'.set j (some (.int ((0 : Int) + (i : Int))))) H'
    rw [e0]
    exact hb i ss' (by omega) j' _ F' H' (s'.set_dat (.int _))
/-- for k in range(lo, n) -/
theorem go_rng2 {lo n : Int} (j : Nat) {x : Str} (J : Nat → List SD → Prop) (cx : Cxt X) (he : PD X B a ss (.int lo)) (he2 : PD X B b ss (.int n)) (hn : (-(2 ^ 62) ≤ lo ∧ lo < 2 ^ 62) ∧ -(2 ^ 62) ≤ n ∧ n < 2 ^ 62) (h0 : J 0 ss)
    (hb : ∀ (i : Nat) (ss' : List SD), lo + (i : Int) < n → J i ss' → Go X B body (ss'.set j (.dat (.int (lo + (i : Int))))) (lpE X B (J (i + 1)) rest D))
    (hd : ∀ ss', J (n - lo).toNat ss' → Go X B rest ss' D) (hm : X.mg "range" = none) (hg : Gl X "range" := by rfl) (hn1 : NSt X a := by intro _; rfl) (hn2 : NSt X b := by intro _; rfl)
    (hps : ∀ wi, PI X (.Name x p) (.Call (.Name "range" p2) [a, b] [] p3) wi → PS X (.For (.Name x p) (.Call (.Name "range" p2) [a, b] [] p3) body [] pos) (tFor wi (gName j) (tSS X body)) := by intro _ hw; exact ps_for (Cxt.pass (by assumption)) (Cxt.calm (by assumption)) hw (pg_name (Cxt.nd (by assumption)) (by rfl) (by first | exact Or.inl rfl | exact Or.inr rfl)) pss_sem) :
    Go X B (.For (.Name x p) (.Call (.Name "range" p2) [a, b] [] p3) body [] pos :: rest) ss D :=
  go_step (hps _ (pi_range2 hg hm (pa_cons pe_sem (pa_cons pe_sem pa_nil (hn2 [])) (hn1 [b])) (by rw [hn1 [b], hn2 []]; rfl) (hn2 []))) fun σ F H s => he σ F H s _ fun v F1 H1 g1 r1 => he2 σ F1 H1 (s.grow g1) _ fun w F2 H2 g2 r2 => by
    cases r1; cases r2
    refine ⟨lo, n, rfl, ⟨hn.1.1, hn.1.2, hn.2.1, hn.2.2⟩, for_range (lo := lo) (n := (n - lo).toNat) (fun i => Mid X B (J i)) ⟨F2, ss, h0, s.grow (g1.trans g2)⟩ (fun i σ' H' hi ⟨F', ss', j', s'⟩ => ?_) fun σ' H' ⟨F', ss', j', s'⟩ => hd ss' j' σ' F' H' s'⟩
    exact hb i ss' (by omega) j' _ F' H' (s'.set_dat (.int _))
theorem go_while (J : Nat → List SD → Prop) (m0 : Nat) (cx : Cxt X) (h0 : J m0 ss)
    (hs : ∀ (m : Nat) (ss' : List SD), J m ss' → ∃ k, TD X B c ss' k ∧ (k = true → Go X B body ss' (lpE X B (fun s => ∃ m', m' < m ∧ J m' s) rest D)) ∧ (k = false → Go X B rest ss' D)) : Go X B (.While c body [] pos :: rest) ss D :=
  go_step (ps_while cx.pass pt_sem pss_sem) fun σ F H s => by
    refine ⟨fun m => Mid X B (J m), ⟨m0, F, ss, h0, s⟩, fun m σ' H' ⟨F', ss', j', s'⟩ => ?_⟩
    obtain ⟨k, tk, h1, h2⟩ := hs m ss' j'
    refine tk σ' F' H' s' _ fun F1 H1 g => ?_
    cases k with
    | true => exact iteT ⟨Mid X B (fun s => ∃ m', m' < m ∧ J m' s), fun σ2 H2 ⟨F2, ss2, ⟨m', hm, j2⟩, s2⟩ => ⟨m', hm, F2, ss2, j2, s2⟩, h1 rfl σ' F1 H1 (s'.grow g)⟩
    | false => exact iteF (h2 rfl σ' F1 H1 (s'.grow g))
end
end G

namespace G
open PySem L2
/-! ### what a def promises: of data -/
inductive Out where
  | val (d : PyData)
  | new (ds : List PyData)
  | exc (c : Addr)
  | raw (P : Hp → V → Hp → Hp → Prop)
def OutK (K : PySem.W.Frag) (C : Addr) (F H : Hp) (Q : VK) (E : XK) : Out → Prop
  | .val d => ∀ v F' H', Grow F H F' H' → Rp K C F' v d → Q v H'
  | .new ds => ∀ a vs F' H', Grow F H F' H' → H a = none → F' a = none → H' a = some (.lst vs) → RpAll K C F' vs ds → Q (.ref a) H'
  | .exc c => ∀ H', Same H H' → E (.ref c) none H'
  | .raw P => ∀ v F' H', Grow F H F' H' → P H v F' H' → Q v H'
def spO {α : Type} (K : PySem.W.Frag) (C : Addr) (args : α → List PyData) (pre : α → Prop) (out : α → Out) : Sp := fun vs H Q E =>
  ∃ (x : α) (F : Hp), pre x ∧ Same F H ∧ RpAll K C F vs (args x) ∧ OutK K C F H Q E (out x)
/-- a def of the module that keeps the promise sp -/
def Cal (P : Program) (w : World) (K : PySem.W.Frag) (mg : Str → Option Value) (base : Heap) (x : Str) (k : Nat) (sp : Sp) : Prop :=
  ∃ (f : Addr) (fd : FuncData) (ps : List Str), FnOk P w K mg base (L2.CX P w) k f fd ps sp ∧ mg x = some (.ref f) ∧ PySem.W.keepIn K (.ref f) = true ∧ Binds K fd ps []
/-- a method of the class at C -/
def CalM (P : Program) (w : World) (K : PySem.W.Frag) (mg : Str → Option Value) (base : Heap) (C : Addr) (m : Str) (k : Nat) (sp : Sp) : Prop :=
  ∃ (f : Addr) (fd : FuncData) (ps : List Str), FnOk P w K mg base (L2.CX P w) k f fd ps sp ∧ Meth K C m f ∧ Binds K fd ps []
/-- an exception of this class may leave, from slots and heap as W says -/
def PX (X : Cx) (B : Bs) (W : WX) (e : Expr) (ss : List SD) (c : Addr) : Prop := ∀ (σ : St) (F H : Hp), Sat X.K B ss σ F H → (∀ H', Same H H' → W (.ref c) none σ H') → ∀ Q : VK, tSem X e σ H Q
section
variable {X : Cx} {B : Bs} {ss : List SD} {e a b c : Expr} {es : List Expr} {pos p p2 p3 p4 : Pos} {d x y z : PyData} {ds ds' : List PyData} {rest body orelse : List Stmt} {st : Stmt} {D : Ends}
  {α : Type} {args : α → List PyData} {pre : α → Prop} {out : α → Out} {fn : Str} {k : Nat}
theorem pd_call (cf : Cal X.prog X.w X.K X.mg X.base fn k (spO X.K B.C args pre out)) (hr : Room k X.A) (u : α) (ha : PDs X B (e :: es) ss (args u)) (ho : out u = .val d) (hp : pre u)  (hg : Gl X fn := by rfl)
    (hdb : (fn == ("__debug__" : Str)) = false := by decide) (he : starEach (e :: es) X.env = (false, eval e X.env) :: starEach es X.env := by rfl) (hpl : (backTo pos (starEach es X.env)).any (·.1) = false := by rfl) :
    PD X B (.Call (.Name fn p) (e :: es) [] pos) ss d := fun σ F H s Q q => by
  obtain ⟨f, fd, ps, F0, hm, hk, hb⟩ := cf
  refine sem_of (pe_call (dvs := []) (ds := []) F0 hr hg hm hk hb .nil passL pa_sem hdb he hpl) (ha σ F H s _ fun vs F1 H1 g r => ?_)
  refine ⟨u, F1, hp, g.fh, by rw [List.append_nil]; exact r, ?_⟩
  rw [ho]
  exact fun v F2 H2 g2 r2 => q v F2 H2 (g.trans g2) r2
theorem pn_call (cf : Cal X.prog X.w X.K X.mg X.base fn k (spO X.K B.C args pre out)) (hr : Room k X.A) (u : α) (ha : PDs X B (e :: es) ss (args u)) (ho : out u = .new ds) (hp : pre u) (hg : Gl X fn := by rfl)
    (hdb : (fn == ("__debug__" : Str)) = false := by decide) (he : starEach (e :: es) X.env = (false, eval e X.env) :: starEach es X.env := by rfl) (hpl : (backTo pos (starEach es X.env)).any (·.1) = false := by rfl) :
    PN X B (.Call (.Name fn p) (e :: es) [] pos) ss ds := fun σ F H s Q q => by
  obtain ⟨f, fd, ps, F0, hm, hk, hb⟩ := cf
  refine sem_of (pe_call (dvs := []) (ds := []) F0 hr hg hm hk hb .nil passL pa_sem hdb he hpl) (ha σ F H s _ fun vs F1 H1 g r => ?_)
  refine ⟨u, F1, hp, g.fh, by rw [List.append_nil]; exact r, ?_⟩
  rw [ho]
  exact fun l ws F2 H2 g2 n nf h2 r2 => q l ws F2 H2 (g.trans g2) (g.hh.free n) nf h2 r2
theorem px_call {W : WX} {cc : Addr} (tk : Takes X W) (cf : Cal X.prog X.w X.K X.mg X.base fn k (spO X.K B.C args pre out)) (hr : Room k X.A) (u : α) (ha : PDs X B (e :: es) ss (args u)) (ho : out u = .exc cc) (hp : pre u) (hg : Gl X fn := by rfl)
    (hdb : (fn == ("__debug__" : Str)) = false := by decide) (he : starEach (e :: es) X.env = (false, eval e X.env) :: starEach es X.env := by rfl) (hpl : (backTo pos (starEach es X.env)).any (·.1) = false := by rfl) :
    PX X B W (.Call (.Name fn p) (e :: es) [] pos) ss cc := fun σ F H s hW Q => by
  obtain ⟨f, fd, ps, F0, hm, hk, hb⟩ := cf
  refine sem_of (pe_callS (E := WE W) F0 hr hg hm hk hb (fun σ => passAt tk σ) pa_sem hdb he hpl) (ha σ F H s _ fun vs F1 H1 g r => ?_)
  refine ⟨u, F1, hp, g.fh, r, ?_⟩
  rw [ho]
  exact fun H' h => hW H' (g.hh.trans h)
/-- o.m() -/
theorem pd_meth0 {m h t : Int} {nm : Str} {pl : Sem Bool} (cf : CalM X.prog X.w X.K X.mg X.base B.C nm k (spO X.K B.C args pre out)) (cl : Cls X.K B.C) (hr : Room k X.A) (u : α) (ha : PD X B a ss (flr m h t ds)) (hu : args u = [flr m h t ds]) (hlk : ∀ b, (flF m h t b).lookup nm = none) (ho : out u = .val d) (hp : pre u)
    (ht : eval (.Call (.Attribute a nm p) [] [] pos) X.env = (do
      let ov ← eval a X.env
      standAt p.atName
      let (f, first) ← holding [ov] (getMethod ov nm pl)
      callWith pos f first (backTo pos (starEach [] X.env)) (backToKw pos (keywordEach [] X.env))) := by rfl) :
    PD X B (.Call (.Attribute a nm p) [] [] pos) ss d := fun σ F H s Q q => by
  obtain ⟨f, fd, ps, F0, hm, hb⟩ := cf
  refine sem_of (pe_meth0 (dvs := []) (ds := []) pe_sem cl hm F0 hr hb .nil passL ht) (ha σ F H s _ fun v F1 H1 g r => ?_)
  have r' := r
  cases r with
  | flr h1 h2 h3 =>
    refine ⟨_, _, _, rfl, g.fh _ _ h1, hlk _, u, F1, hp, g.fh, by rw [hu]; exact .one r', ?_⟩
    rw [ho]
    exact fun v F2 H2 g2 r2 => q v F2 H2 (g.trans g2) r2
theorem pn_meth0 {m h t : Int} {nm : Str} {pl : Sem Bool} (cf : CalM X.prog X.w X.K X.mg X.base B.C nm k (spO X.K B.C args pre out)) (cl : Cls X.K B.C) (hr : Room k X.A) (u : α) (ha : PD X B a ss (flr m h t ds)) (hu : args u = [flr m h t ds]) (hlk : ∀ b, (flF m h t b).lookup nm = none) (ho : out u = .new ds') (hp : pre u)
    (ht : eval (.Call (.Attribute a nm p) [] [] pos) X.env = (do
      let ov ← eval a X.env
      standAt p.atName
      let (f, first) ← holding [ov] (getMethod ov nm pl)
      callWith pos f first (backTo pos (starEach [] X.env)) (backToKw pos (keywordEach [] X.env))) := by rfl) :
    PN X B (.Call (.Attribute a nm p) [] [] pos) ss ds' := fun σ F H s Q q => by
  obtain ⟨f, fd, ps, F0, hm, hb⟩ := cf
  refine sem_of (pe_meth0 (dvs := []) (ds := []) pe_sem cl hm F0 hr hb .nil passL ht) (ha σ F H s _ fun v F1 H1 g r => ?_)
  have r' := r
  cases r with
  | flr h1 h2 h3 =>
    refine ⟨_, _, _, rfl, g.fh _ _ h1, hlk _, u, F1, hp, g.fh, by rw [hu]; exact .one r', ?_⟩
    rw [ho]
    exact fun l ws F2 H2 g2 n nf h2 r2 => q l ws F2 H2 (g.trans g2) (g.hh.free n) nf h2 r2
/-! ### statements that raise -/
theorem go_asgX {W : WX} {cc : Addr} {i : Nat} {x : Str} (hN : X.N.Nodup) (hi : X.N[i]? = some x) (he : PX X B W e ss cc) (k : ∀ (σ : St) (F H : Hp), Sat X.K B ss σ F H → ∀ H', Same H H' → W (.ref cc) none σ H') (hx : Loc X.env.scope x := by first | exact Or.inl rfl | exact Or.inr rfl) (hs : swapsWith e (some (.Name x p)) pos.line X.env = pure false := by rfl)
    (hf : X.fn x = true ∨ X.env.scope.names.lookup x = some .local := by first | exact .inl rfl | exact .inr rfl) : Go X B (.Assign [.Name x p] e pos :: rest) ss D :=
  go_step (ps_set hN hi hx pe_sem hs hf) fun σ F H s => he σ F H s (k σ F H s) _
theorem go_dropX {W : WX} {cc : Addr} (he : PX X B W e ss cc) (k : ∀ (σ : St) (F H : Hp), Sat X.K B ss σ F H → ∀ H', Same H H' → W (.ref cc) none σ H') (hs : swapsWith e none pos.line X.env = pure false := by rfl) : Go X B (.Expr e pos :: rest) ss D :=
  go_step (ps_expr pe_sem hs) fun σ F H s => he σ F H s (k σ F H s) _
theorem go_retX {W : WX} {cc : Addr} (he : PX X B W e ss cc) (k : ∀ (σ : St) (F H : Hp), Sat X.K B ss σ F H → ∀ H', Same H H' → W (.ref cc) none σ H') : Go X B (.Return (some e) pos :: rest) ss D :=
  go_step (ps_ret pe_sem) fun σ F H s => he σ F H s (k σ F H s) _
/-- what the top has written of an own error class without more -/
structure ExT (K : PySem.W.Frag) (mg : Str → Option Value) (x : Str) (C : Addr) : Prop where
  gP : mg x = some (.ref C)
  xP : PySem.W.excIn K C [.type "ValueError", .type "Exception", .type "BaseException", .type "object"] "ValueError.__new__" = true
  kP : PySem.W.keepIn K (.ref C) = true
  bP : PySem.W.subIn K (.ref C) (.type "BaseException") = some true
  tP : PySem.W.typeIn K (.ref C) = some (.type "type")
theorem go_raise {W : WX} {cc : Addr} {x m : Str} {j : Nat} (hc : X.calm = true) (tk : Takes X W) (T : ExT X.K X.mg x cc) (k : ∀ (σ : St) (F H : Hp), Sat X.K B ss σ F H → W (.ref cc) none σ H) (hg : Gl X x := by rfl) (hdb : (x == ("__debug__" : Str)) = false := by decide) :
    Go X B (.Raise (some (.Call (.Name x p) [.Constant (.str m) j p2] [] p3)) none p4 :: rest) ss D :=
  go_step (ps_raise hc tk (pmk_own PySem.F.excBase_ValueError T.xP T.gP T.kP (raises_own T.bP T.tP) hg hdb)) fun σ F H s => k σ F H s

/-! ### comprehensions -/
theorem Sat.swap {K : PySem.W.Frag} {σ : St} {F H : Hp} {j : Nat} (h : Sat K B ss σ F H) : Sat K B (ss.set j .un) (σ.set j none) F H := by
  refine ⟨h.g, h.pin, by rw [List.length_set, List.length_set]; exact h.len, fun i sd q => ?_, fun i l xs ys hil q1 q2 => ?_⟩
  · by_cases hj : j = i
    · subst hj
      have hi : j < ss.length := by
        have := (List.getElem?_eq_some_iff.mp q).1
        rwa [List.length_set] at this
      rw [List.getElem?_set_self hi] at q
      cases q; trivial
    · rw [List.getElem?_set_ne hj] at q ⊢
      exact h.slot i sd q
  · have f : ∀ {l : Nat} {xs : List PyData}, (ss.set j .un)[l]? = some (.own xs) → j ≠ l ∧ ss[l]? = some (.own xs) := fun {l xs} q => by
      by_cases hj : j = l
      · subst hj
        have hi : j < ss.length := by
          have := (List.getElem?_eq_some_iff.mp q).1
          rwa [List.length_set] at this
        rw [List.getElem?_set_self hi] at q; cases q
      · rw [List.getElem?_set_ne hj] at q; exact ⟨hj, q⟩
    obtain ⟨n1, e1⟩ := f q1
    obtain ⟨n2, e2⟩ := f q2
    rw [List.getElem?_set_ne n1, List.getElem?_set_ne n2]
    exact h.ne i l xs ys hil e1 e2
/-- the names of a block that runs for a comprehension -/
abbrev Blk (X : Cx) (scope : Scope) (s : Shared) (H : Hp) (C : Addr) (cl : List (Str × Addr)) (fp : List Addr) : Cx := X.blk s H scope (compEnvC scope cl C X.env) fp
def tBlk (X : Cx) (scope : Scope) (e : Expr) : TE := fun σ H Q => ∀ (s : Shared) (H' : Hp) (C : Addr) (cl : List (Str × Addr)) (fp : List Addr), tSem (Blk X scope s H' C cl fp) e σ H Q
def tBlkT (X : Cx) (scope : Scope) (e : Expr) : TT := fun σ H Q => ∀ (s : Shared) (H' : Hp) (C : Addr) (cl : List (Str × Addr)) (fp : List Addr), tSemT (Blk X scope s H' C cl fp) e σ H Q
/-- a comprehension that gives a new list -/
def PLc (X : Cx) (B : Bs) (e : Expr) (ss : List SD) (ds : List PyData) : Prop := ∃ (elt tg iter : Expr) (ifs : List Expr) (scope : Scope) (pos : Pos) (wi : TI) (g : TG) (tt : TT) (te : TE) (own : List (Str × Nat)),
  e = .ListComp elt [⟨tg, iter, ifs, 0⟩] scope pos ∧ PI X tg iter wi ∧ BlkOk X.N X.env.scope scope own ∧ (∀ (s : Shared) (H : Hp) (C : Addr) (cl : List (Str × Addr)) (fp : List Addr), PG (Blk X scope s H C cl fp) tg g) ∧
  (∀ (s : Shared) (H : Hp) (C : Addr) (cl : List (Str × Addr)) (fp : List Addr), PTs (Blk X scope s H C cl fp) ifs tt) ∧ (∀ (s : Shared) (H : Hp) (C : Addr) (cl : List (Str × Addr)) (fp : List Addr), PE (Blk X scope s H C cl fp) elt te) ∧ (∀ x, foldedSetIterable iter X.env x = pure x) ∧
  ∀ (σ : St) (F H : Hp), Sat X.K B ss σ F H → ∀ Q : VK, (∀ a vs F' H', Grow F H F' H' → H a = none → F' a = none → H' a = some (.lst vs) → RpAll X.K B.C F' vs ds → Q (.ref a) H') → tLc wi g tt te (own.map (·.2)) σ H Q
theorem PLc.n (h : PLc X B e ss ds) (cx : Cxt X) : PN X B e ss ds := by
  obtain ⟨elt, tg, iter, ifs, scope, pos, wi, g, tt, te, own, rfl, hi, ok, hg, ht, he, hs, sem⟩ := h
  exact fun σ F H s Q q => sem_of (pe_lc cx.calm cx.nd hi ok hg ht he hs) (sem σ F H s Q q)
theorem PLc.eq (h : PLc X B e ss ds) (q : ds = ds') : PLc X B e ss ds' := q ▸ h
/-- name = [.. for ..] -/
theorem go_asgC (i : Nat) {x : Str} (cx : Cxt X) (h : PLc X B e ss ds) (k : Go X B rest (ss.set i (.own ds)) D) (hi : X.N[i]? = some x := by rfl) (hyl : X.env.scope.names.lookup x = some .local := by rfl)
    (hsw : swapsWith e (some (.Name x p)) pos.line X.env = pure true := by exact sw_true rfl rfl rfl rfl) : Go X B (.Assign [.Name x p] e pos :: rest) ss D := by
  obtain ⟨elt, tg, iter, ifs, scope, pos', wi, g, tt, te, own, rfl, hi', ok, hg, ht, he, hs, sem⟩ := h
  refine go_step (ps_setLc cx.calm cx.nd hi hyl hsw hi' ok hg ht he hs) fun σ F H s => sem σ F H s _ fun a vs F1 H1 g n nf h1 r => ?_
  refine k _ F1 H1 ((s.grow g).set_own (s.g.hh.free n) nf h1 r fun j es hj q z => ?_)
  obtain ⟨a', vs', ea, _, _, h2, _⟩ := s.slot j _ q
  rw [z] at ea
  injection ea with ea
  injection ea with ea
  injection ea with ea
  subst ea
  rw [n] at h2
  cases h2
theorem lcG_sem {β : Type} {xs : List β} {f g : β → PyData} {t : β → Bool} (j : Nat) {tt : TT} {scope : Scope} (he : PIs X B a ss (xs.map f)) (nr : noRaw ss = true) (hz : xs.length < sizeLine)
    (htt : ∀ (Fp : Hp) (u : β), u ∈ xs → ∀ (σ : St) (F H : Hp), Sat X.K (B.pinned Fp) (ss.set j (.dat (f u))) σ F H → ∀ Q : Bool → Hp → Prop, (∀ F' H', Grow F H F' H' → Q (t u) H') → tt σ H Q)
    (hel : ∀ (Fp : Hp) (u : β), u ∈ xs → t u = true → ∀ (s : Shared) (H' : Hp) (C : Addr) (cl : List (Str × Addr)) (fp : List Addr), PD (Blk X scope s H' C cl fp) (B.pinned Fp) e (ss.set j (.dat (f u))) (g u)) :
    ∀ (σ : St) (F H : Hp), Sat X.K B ss σ F H → ∀ Q : VK, (∀ a vs F' H', Grow F H F' H' → H a = none → F' a = none → H' a = some (.lst vs) → RpAll X.K B.C F' vs ((xs.filter t).map g) → Q (.ref a) H') → tLc (iSeq X.K (tSem X a)) (gName j) tt (tBlk X scope e) [j] σ H Q := fun σ F H s Q q =>
  (he σ F H s _ fun l vs F1 H1 g1 sq r => by
    have s1 := s.grow g1
    have ll : vs.length = xs.length := by rw [r.length, List.length_map]
    have main : ∀ Dl, H1 Dl = none → ∃ Pv : Nat → Hp → Prop, Pv 0 (upd H1 Dl (.lst [])) ∧ (∀ i H', Pv i H' → ∃ F', Same F1 F' ∧ Same F' H') ∧
        (∀ i x H', vs[i]? = some x → Pv i H' → gName j x (wipe σ [j]) H' fun σ2 H2 => wipe σ2 [j] = wipe σ [j] ∧ tt σ2 H2 fun b H3 =>
          if b = true then tBlk X scope e σ2 H3 fun z H4 => ∃ acc, H4 Dl = some (.lst acc) ∧ acc.length < sizeLine ∧ Pv (i + 1) (upd H4 Dl (.lst (acc ++ [z]))) else Pv (i + 1) H3) ∧
        (∀ H', Pv vs.length H' → Q (.ref Dl) H') := by
      intro Dl hD
      have ap : ∀ (i : Nat) (es : List PyData), ss[i]? = some (.own es) → σ[i]? ≠ some (some (.ref Dl)) := fun i es e1 e2 => by
        obtain ⟨a', ws, ea, _, _, h2, _⟩ := s1.slot i _ e1
        rw [e2] at ea
        injection ea with ea
        injection ea with ea
        injection ea with ea
        subst ea
        rw [hD] at h2; cases h2
      have hF1 : F1 Dl = none := g1.fh.free hD
      have hB0 : B.H0 Dl = none := s1.g.hh.free hD
      refine ⟨fun i H' => ∃ F' acc, Sat X.K (B.pinned F1) ss σ F' H' ∧ Grow F H F' H' ∧ F' Dl = none ∧ H' Dl = some (.lst acc) ∧ RpAll X.K B.C F' acc (((xs.take i).filter t).map g), ⟨F1, [], s1.pinned.upd hB0 hF1 nr ap, g1.trans (Grow.newO g1.fh hD), hF1, upd_same, ?_⟩, ?_, ?_, ?_⟩
      · rw [List.take_zero]; exact .nil
      · rintro i H' ⟨F', acc, s', _, _⟩
        exact ⟨F', s'.pin, s'.fh⟩
      · rintro i x H' hi ⟨F', acc, s', g', n', h', r'⟩
        obtain ⟨d, hd, rd⟩ := RpAll.getV r hi
        rw [List.getElem?_map] at hd
        cases hu : xs[i]? with
        | none => rw [hu] at hd; cases hd
        | some u =>
          rw [hu] at hd
          cases hd
          have hmem : u ∈ xs := List.mem_of_getElem? hu
          have hil : i < xs.length := (List.getElem?_eq_some_iff.mp hu).1
          have tk : xs.take (i + 1) = xs.take i ++ [u] := by
            rw [List.take_add_one, hu]; rfl
          have al : acc.length ≤ i := by
            rw [r'.length, List.length_map]
            exact Nat.le_trans (List.length_filter_le _ _) (by rw [List.length_take]; omega)
          have wset : (wipe σ [j]).set j (some x) = σ.set j (some x) := by
            show ((wipe σ []).set j none).set j (some x) = _
            rw [List.set_set]; rfl
          have wset2 : wipe (σ.set j (some x)) [j] = wipe σ [j] := by
            show (σ.set j (some x)).set j none = σ.set j none
            rw [List.set_set]
          show wipe ((wipe σ [j]).set j (some x)) [j] = wipe σ [j] ∧ tt ((wipe σ [j]).set j (some x)) H' _
          rw [wset]
          refine ⟨wset2, ?_⟩
          have s2 : Sat X.K (B.pinned F1) (ss.set j (.dat (f u))) (σ.set j (some x)) F' H' := s'.set_dat (rd.mono s'.pin)
          refine htt F1 u hmem _ F' H' s2 _ fun F3 H3 g3 => ?_
          cases hk : t u with
          | false =>
            refine iteF ⟨F3, acc, s'.grow g3, g'.trans g3, g3.own _ _ h' n', g3.hh _ _ h', ?_⟩
            rw [tk, List.filter_append, List.map_append]
            have : ([u].filter t).map g = [] := by rw [List.filter_cons, hk]; rfl
            rw [this, List.append_nil]
            exact r'.mono g3.ff
          | true =>
            refine iteT fun s5 H5 C5 cl5 fp5 => hel F1 u hmem hk s5 H5 C5 cl5 fp5 _ F3 H3 (s2.grow g3) _ fun z F4 H4 g4 r4 => ?_
            have g34 := g3.trans g4
            refine ⟨acc, g34.hh _ _ h', Nat.lt_of_le_of_lt al (Nat.lt_trans hil hz), F4, acc ++ [z], (s'.grow g34).upd hB0 (g34.own _ _ h' n') nr ap, ?_, g34.own _ _ h' n', upd_same, ?_⟩
            · have n4 := g34.own _ _ h' n'
              have hH : H Dl = none := g1.hh.free hD
              exact ⟨fun b o e => by rw [upd_ne (ne_of_none e hH)]; exact (g'.trans g34).hh b o e, (g'.trans g34).ff, fun b o e => by rw [upd_ne (ne_of_none e n4)]; exact g34.fh b o e, (g'.trans g34).own⟩
            · rw [tk, List.filter_append, List.map_append]
              have : ([u].filter t).map g = [g u] := by rw [List.filter_cons, hk]; rfl
              rw [this]
              exact (r'.mono g34.ff).app (.one r4)
      · rintro H' ⟨F', acc, s', g', n', h', r'⟩
        rw [ll, List.take_length] at r'
        exact q Dl acc F' H' g' (g1.hh.free hD) n' h' r'
    refine ⟨l, rfl, ?_⟩
    rcases sq with sq | sq
    · refine .inl ⟨vs, g1.fh.seq sq, fun Dl hD => ?_⟩
      obtain ⟨Pv, p0, pl, ps, pe⟩ := main Dl hD
      exact lc_list (K := X.K) (a := l) (xs := vs) Pv p0 (fun i H' _ pv => let ⟨F', a1, a2⟩ := pl i H' pv; a2.seq (a1.seq sq)) ps pe
    · refine .inr ⟨vs, Same.sqt g1.fh sq, fun Dl hD => ?_⟩
      obtain ⟨Pv, p0, pl, ps, pe⟩ := main Dl hD
      exact lc_tup (K := X.K) (a := l) (xs := vs) Pv p0 (fun i H' _ pv => let ⟨F', a1, a2⟩ := pl i H' pv; Same.sqt a2 (Same.sqt a1 sq)) ps pe)
/-- [e for y in a] -/
theorem pl_lc {β : Type} {xs : List β} {f g : β → PyData} (j : Nat) {y : Str} {scope : Scope} (cx : Cxt X) (he : PIs X B a ss (xs.map f))
    (hel : ∀ (Fp : Hp) (u : β), u ∈ xs → ∀ (s : Shared) (H' : Hp) (C : Addr) (cl : List (Str × Addr)) (fp : List Addr), PD (Blk X scope s H' C cl fp) (B.pinned Fp) e (ss.set j (.dat (f u))) (g u))
    (hz : xs.length < sizeLine) (nr : noRaw ss = true := by rfl)
    (hok : BlkOk X.N X.env.scope scope [(y, j)] := by exact blkOk_by (by kernel_rfl))
    (hpg : X.N.Nodup → ∀ (s : Shared) (H' : Hp) (C : Addr) (cl : List (Str × Addr)) (fp : List Addr), PG (Blk X scope s H' C cl fp) (.Name y p) (gName j) := by intro hnd _ _ _ _ _; exact pg_name hnd (by rfl) (Or.inl rfl))
    (hs : ∀ x, foldedSetIterable a X.env x = pure x := by intro _; rfl) :
    PLc X B (.ListComp e [⟨.Name y p, a, [], 0⟩] scope pos) ss (xs.map g) := by
  have h := lcG_sem (X := X) (B := B) (ss := ss) (e := e) (a := a) (xs := xs) (f := f) (g := g) (t := fun _ => true) (scope := scope) (tt := tYes) j he nr hz
    (fun Fp u hu σ F H s Q q => q F H (Grow.refl s.fh)) (fun Fp u hu _ => hel Fp u hu)
  rw [List.filter_eq_self.mpr (fun _ _ => rfl)] at h
  exact ⟨_, _, _, _, _, _, _, _, _, _, _, rfl, pi_seq pe_sem, hok, hpg cx.nd, fun _ _ _ _ _ => pts_nil, fun s H' C cl fp => ⟨fun pins s1 σ H Q I h => h s H' C cl fp pins s1 I⟩, hs, h⟩
/-- [e for y in a if c] -/
theorem pl_lcIf {β : Type} {xs : List β} {f g : β → PyData} (t : β → Bool) (j : Nat) {y : Str} {scope : Scope} (cx : Cxt X) (he : PIs X B a ss (xs.map f))
    (htt : ∀ (Fp : Hp) (u : β), u ∈ xs → ∀ (s : Shared) (H' : Hp) (C : Addr) (cl : List (Str × Addr)) (fp : List Addr), TD (Blk X scope s H' C cl fp) (B.pinned Fp) c (ss.set j (.dat (f u))) (t u))
    (hel : ∀ (Fp : Hp) (u : β), u ∈ xs → t u = true → ∀ (s : Shared) (H' : Hp) (C : Addr) (cl : List (Str × Addr)) (fp : List Addr), PD (Blk X scope s H' C cl fp) (B.pinned Fp) e (ss.set j (.dat (f u))) (g u))
    (hz : xs.length < sizeLine) (nr : noRaw ss = true := by rfl)
    (hok : BlkOk X.N X.env.scope scope [(y, j)] := by exact blkOk_by (by kernel_rfl))
    (hpg : X.N.Nodup → ∀ (s : Shared) (H' : Hp) (C : Addr) (cl : List (Str × Addr)) (fp : List Addr), PG (Blk X scope s H' C cl fp) (.Name y p) (gName j) := by intro hnd _ _ _ _ _; exact pg_name hnd (by rfl) (Or.inl rfl))
    (hs : ∀ x, foldedSetIterable a X.env x = pure x := by intro _; rfl) :
    PLc X B (.ListComp e [⟨.Name y p, a, [c], 0⟩] scope pos) ss ((xs.filter t).map g) :=
  ⟨_, _, _, _, _, _, _, _, _, _, _, rfl, pi_seq pe_sem, hok, hpg cx.nd, fun s H' C cl fp => pts_one ⟨fun pins s1 σ H Q I h => h s H' C cl fp pins s1 I⟩, fun s H' C cl fp => ⟨fun pins s1 σ H Q I h => h s H' C cl fp pins s1 I⟩, hs,
    lcG_sem (X := X) (B := B) (ss := ss) (e := e) (a := a) (xs := xs) (f := f) (g := g) (t := t) (scope := scope) (tt := tBlkT X scope c) j he nr hz
    (fun Fp u hu σ F H s Q q s1 H1 C1 cl1 fp1 => htt Fp u hu s1 H1 C1 cl1 fp1 σ F H s Q q) hel⟩
/-- a block's own context -/
theorem Cxt.blk (cx : Cxt X) {scope : Scope} {s : Shared} {H : Hp} {C : Addr} {cl : List (Str × Addr)} {fp : List Addr} : Cxt (Blk X scope s H C cl fp) := ⟨cx.calm, cx.nd, PassesOwn.never, cx.units⟩
end

/-! ### a def -/
section
variable {P : Program} {w : World} {K : PySem.W.Frag} {mg : Str → Option Value} {base : Heap}
theorem start_get {N : List Str} {vs : List V} {i : Nat} {v : V} (h : vs[i]? = some v) : (L2.start N vs)[i]? = some (some v) := by
  unfold L2.start
  rw [List.getElem?_append_left (by rw [List.length_map]; exact (List.getElem?_eq_some_iff.mp h).1), List.getElem?_map, h]
  rfl
theorem sat_start {C : Addr} {F H : Hp} {vs : List V} {ds : List PyData} {N : List Str} (hf : Same F H) (r : RpAll K C F vs ds) (hl : ds.length ≤ N.length) :
    Sat K ⟨C, F, H, F⟩ (ds.map SD.dat ++ List.replicate (N.length - ds.length) SD.un) (L2.start N vs) F H where
  g := Grow.refl hf
  pin := Same.refl _
  len := by
    unfold L2.start
    rw [List.length_append, List.length_append, List.length_map, List.length_map, List.length_replicate, List.length_replicate, r.length]
  slot := fun i sd e => by
    by_cases hi : i < ds.length
    · rw [List.getElem?_append_left (by rw [List.length_map]; exact hi), List.getElem?_map, List.getElem?_eq_getElem hi] at e
      cases e
      obtain ⟨v, hv, rv⟩ := RpAll.get r (List.getElem?_eq_getElem hi)
      exact ⟨v, start_get hv, rv⟩
    · rw [List.getElem?_append_right (by rw [List.length_map]; omega), List.getElem?_replicate] at e
      split at e
      · cases e; trivial
      · cases e
  ne := fun i j xs ys hij e1 e2 => by
    exfalso
    by_cases hi : i < ds.length
    · rw [List.getElem?_append_left (by rw [List.length_map]; exact hi), List.getElem?_map, List.getElem?_eq_getElem hi] at e1
      cases e1
    · rw [List.getElem?_append_right (by rw [List.length_map]; omega), List.getElem?_replicate] at e1
      split at e1
      · cases e1
      · cases e1
/-- the ends of a def's body -/
abbrev dE (Q : VK) : Ends := { nx := fun _ H' => Q .non H', rt := Q }
/-- what a def's exceptions are wished to be -/
abbrev dW (E : XK) : WX := fun cls d _ H => E cls d H
theorem ok_fn {x qual : Str} {st : Stmt} {f : Addr} {fd : FuncData} {N ps : List Str} {k : Nat} {C : Addr} {α : Type} {args : α → List PyData} {pre : α → Prop} {out : α → Out} (F : L2.Fun K x qual st f fd) (S : FnScope N ps (defScope st)) (hl : ∀ a, (args a).length = ps.length)
    (body : ∀ (cdv : Value) (A : Around) (outer : List Env) (s : Shared) (H F0 : Hp) (u : α) (Q : VK) (E : XK) (X : Cx) (hX : X = cxOf (L2.CX P w) P w K mg base N qual (defScope st) f cdv A outer s H E), Cxt X → Room k X.A → Takes X (dW E) → pre u → OutK K C F0 H Q E (out u) →
      Go X ⟨C, F0, H, F0⟩ (defBody st) ((args u).map SD.dat ++ List.replicate (N.length - (args u).length) SD.un) (dE Q)) :
    FnOk P w K mg base (L2.CX P w) (k + 1) f fd ps (spO K C args pre out) := by
  have hNl : ps.length ≤ N.length := by have := congrArg List.length S.pre; rw [List.length_take] at this; omega
  refine F.okX S (fun vs H Q E h => ?_) (fun cdv A outer s H vs Q E hr h => ?_)
  · obtain ⟨u, F0, _, _, r, _⟩ := h
    rw [r.length, hl]
  · obtain ⟨u, F0, hp, hf, r, ho⟩ := h
    refine ⟨_, pss_sem, ?_⟩
    have cx : Cxt (cxOf (L2.CX P w) P w K mg base N qual (defScope st) f cdv A outer s H E) := ⟨rfl, S.nd, passes_of rfl, by have := hr.un; show (A.deeper _).units + 65 < cLine; omega⟩
    exact body cdv A outer s H F0 u Q E _ rfl cx hr (takes_of rfl rfl rfl rfl) hp ho _ F0 H (sat_start hf r (by rw [hl]; exact hNl))
theorem cal_mk {x : Str} {st : Stmt} {f : Addr} {fd : FuncData} {ps : List Str} {k : Nat} {sp : Sp} (F : L2.Fun K x x st f fd) (g : mg x = some (.ref f)) (b : Binds K fd ps []) (h : FnOk P w K mg base (L2.CX P w) k f fd ps sp) : Cal P w K mg base x k sp := ⟨f, fd, ps, h, g, F.kp, b⟩
end
end G

namespace G
open PySem L2
/-! ### sorting, doubles -/
def ins (a : Int) : List Int → List Int
  | [] => [a]
  | b :: r => if a ≤ b then a :: b :: r else b :: ins a r
def isort : List Int → List Int
  | [] => []
  | a :: r => ins a (isort r)
theorem ins_perm (a : Int) : ∀ l : List Int, (ins a l).Perm (a :: l)
  | [] => .refl _
  | b :: r => by
    unfold ins
    split
    · exact .refl _
    · exact ((ins_perm a r).cons b).trans (.swap a b r)
theorem isort_perm : ∀ l : List Int, (isort l).Perm l
  | [] => .refl _
  | a :: r => (ins_perm a (isort r)).trans ((isort_perm r).cons a)
theorem ins_sorted (a : Int) : ∀ l : List Int, l.Pairwise (· ≤ ·) → (ins a l).Pairwise (· ≤ ·)
  | [], _ => by unfold ins; exact List.pairwise_singleton _ _
  | b :: r, h => by
    rw [List.pairwise_cons] at h
    unfold ins
    split
    · rename_i hab
      rw [List.pairwise_cons, List.pairwise_cons]
      refine ⟨fun x hx => ?_, h⟩
      rcases List.mem_cons.mp hx with e | hx
      · subst e; exact hab
      · exact Int.le_trans hab (h.1 x hx)
    · rename_i hab
      rw [List.pairwise_cons]
      refine ⟨fun x hx => ?_, ins_sorted a r h.2⟩
      rcases List.mem_cons.mp ((ins_perm a r).mem_iff.mp hx) with e | hx
      · subst e; omega
      · exact h.1 x hx
theorem isort_sorted : ∀ l : List Int, (isort l).Pairwise (· ≤ ·)
  | [] => List.Pairwise.nil
  | a :: r => ins_sorted a _ (isort_sorted r)
theorem sorted_one : ∀ {l m : List Int}, l.Perm m → l.Pairwise (· ≤ ·) → m.Pairwise (· ≤ ·) → l = m
  | [], m, p, _, _ => (List.nil_perm.mp p).symm
  | a :: l, [], p, _, _ => absurd (List.perm_nil.mp p) (by simp)
  | a :: l, b :: m, p, h1, h2 => by
    rw [List.pairwise_cons] at h1 h2
    have hab : a = b := by
      have ha : a ∈ b :: m := p.mem_iff.mp List.mem_cons_self
      have hb : b ∈ a :: l := p.mem_iff.mpr List.mem_cons_self
      rcases List.mem_cons.mp ha with e | ha
      · exact e
      · rcases List.mem_cons.mp hb with e | hb
        · exact e.symm
        · have := h2.1 a ha
          have := h1.1 b hb
          omega
    subst hab
    rw [sorted_one (List.Perm.cons_inv p) h1.2 h2.2]
theorem isort_is {l m : List Int} (p : l.Perm m) (h : l.Pairwise (· ≤ ·)) : l = isort m := sorted_one (p.trans (isort_perm m).symm) h (isort_sorted m)
theorem isort_length (l : List Int) : (isort l).length = l.length := (isort_perm l).length_eq
/-- rows of numbers, a standing -/
abbrev dRow (r : List Int) : PyData := .tuple (r.map .int)
abbrev dSt (S : List (List Int)) : PyData := .tuple (S.map dRow)
abbrev dIs (r : List Int) : List PyData := r.map .int
theorem flatten_take {α : Type} {S : List (List α)} {i : Nat} {r : List α} (h : S[i]? = some r) : (S.take (i + 1)).flatten = (S.take i).flatten ++ r := by
  rw [List.take_add_one, h]
  simp
theorem flatten_take_le {α : Type} (S : List (List α)) (i : Nat) : (S.take i).flatten.length ≤ S.flatten.length := by
  have h : S.flatten = (S.take i).flatten ++ (S.drop i).flatten := by rw [← List.flatten_append, List.take_append_drop]
  rw [h, List.length_append]
  omega
/-- the builtins that the texts name, none of them a name of the module -/
structure Bl (mg : Str → Option Value) : Prop where
  len : mg "len" = none
  list : mg "list" = none
  tuple : mg "tuple" = none
  range : mg "range" = none
  sorted : mg "sorted" = none
  set : mg "set" = none
  min : mg "min" = none
  max : mg "max" = none
  abs : mg "abs" = none
  isinstance : mg "isinstance" = none
  int : mg "int" = none
  bool : mg "bool" = none
  str : mg "str" = none
  all : mg "all" = none
theorem sz1000 {n : Nat} (h : n ≤ 1000) : n ≤ sizeLine := Nat.le_of_lt (small1000 h)
theorem sz4000 {n : Nat} (h : n ≤ 4000) : n ≤ sizeLine := Nat.le_trans h (by decide)
theorem szBig {n : Nat} (h : n ≤ 1000000) : n < sizeLine := Nat.lt_of_le_of_lt h (by decide)
end G

namespace G
open PySem L2
/-! ### min, max with a default; how many unlike ones -/
def minDf (d : Int) : List Int → Int
  | [] => d
  | n :: r => r.foldl min n
def maxDf (d : Int) : List Int → Int
  | [] => d
  | n :: r => r.foldl max n
theorem readsInts {h : Heap} : ∀ {ns : List Int} {us : List Value}, Vals (ns.map V.int) us → ReadsAll h us (ns.map PyData.int) []
  | [], _, .nil => .nil
  | n :: r, _, .cons hv t => by
    obtain ⟨k, rfl⟩ := hv
    exact ReadsAll.cons (as := []) (bs := []) (.int n k) (readsInts t)
theorem depInts : ∀ ns : List Int, PyData.depthAll (ns.map PyData.int) = 0
  | [] => by simp [PyData.depthAll]
  | n :: r => by
    have h := depInts r
    simp only [List.map_cons, PyData.depthAll, PyData.depth]
    omega
theorem alikeInts (ns : List Int) : PySem.W.AlikeAll (ns.map PyData.int) := by
  refine ⟨fun x hx y hy => ?_, fun x hx => ?_⟩
  · obtain ⟨i, _, rfl⟩ := List.mem_map.mp hx
    obtain ⟨j, _, rfl⟩ := List.mem_map.mp hy
    rfl
  · obtain ⟨i, _, rfl⟩ := List.mem_map.mp hx
    exact fun z => nomatch z
section
variable {X : Cx} {B : Bs} {ss : List SD} {e a b c : Expr} {es : List Expr} {pos p p2 p3 p4 : Pos} {d x y z : PyData} {ds ds' : List PyData}
def rMinDf (K : PySem.W.Frag) : List V → List V → Hp → VK → Prop := fun vs zs H Q => ∃ (a : Addr) (ns : List Int) (d : Int), vs = [.ref a] ∧ zs = [.int d] ∧ SqL K H a (ns.map V.int) ∧ Q (.int (minDf d ns)) H
def rMaxDf (K : PySem.W.Frag) : List V → List V → Hp → VK → Prop := fun vs zs H Q => ∃ (a : Addr) (ns : List Int) (d : Int), vs = [.ref a] ∧ zs = [.int d] ∧ SqL K H a (ns.map V.int) ∧ Q (.int (maxDf d ns)) H
theorem cr_minDf (hc : X.calm = true) (hu : X.A.units + 65 < cLine) : CallRK X (.builtin "min") [Str.ofString "default"] (rMinDf X.K) := by
  intro pins s σ H xs zs us ws Q I r rz h
  obtain ⟨a, ns, d, rfl, rfl, hs, q⟩ := h
  obtain rfl := Vals.ref1 r
  cases rz with
  | cons rd rn =>
    cases rn
    obtain ⟨td, rfl⟩ := rd
    obtain ⟨its, rv, pl, hz⟩ := I.list hs
    refine PySem.W.min_list_default (I.ok.hd hc) pl.isList (xs := ns.map PyData.int) (as := []) (by simpa using readsInts (h := s.heap) rv) (alikeInts ns) (by rw [depInts]; omega) (fun e h' tk k => ?_) (fun y ys i v h' tk bs e hv hr k => ?_)
    · cases ns with
      | cons _ _ => cases e
      | nil => exact ⟨.int d, H, I.kept (t' := tk) k, ⟨_, rfl⟩, q⟩
    · cases ns with
      | nil => cases e
      | cons n r =>
        rw [List.map_cons] at e
        injection e with e1 e2
        subst e1 e2
        rw [PySem.W.minD_ints] at hr
        cases hr with
        | int m t => exact ⟨.int (r.foldl min n), H, I.kept (t' := tk) k, ⟨t, rfl⟩, q⟩
theorem cr_maxDf (hc : X.calm = true) (hu : X.A.units + 65 < cLine) : CallRK X (.builtin "max") [Str.ofString "default"] (rMaxDf X.K) := by
  intro pins s σ H xs zs us ws Q I r rz h
  obtain ⟨a, ns, d, rfl, rfl, hs, q⟩ := h
  obtain rfl := Vals.ref1 r
  cases rz with
  | cons rd rn =>
    cases rn
    obtain ⟨td, rfl⟩ := rd
    obtain ⟨its, rv, pl, hz⟩ := I.list hs
    refine PySem.W.max_list_default (I.ok.hd hc) pl.isList (xs := ns.map PyData.int) (as := []) (by simpa using readsInts (h := s.heap) rv) (alikeInts ns) (by rw [depInts]; omega) (fun e h' tk k => ?_) (fun y ys i v h' tk bs e hv hr k => ?_)
    · cases ns with
      | cons _ _ => cases e
      | nil => exact ⟨.int d, H, I.kept (t' := tk) k, ⟨_, rfl⟩, q⟩
    · cases ns with
      | nil => cases e
      | cons n r =>
        rw [List.map_cons] at e
        injection e with e1 e2
        subst e1 e2
        rw [PySem.W.maxD_ints] at hr
        cases hr with
        | int m t => exact ⟨.int (r.foldl max n), H, I.kept (t' := tk) k, ⟨t, rfl⟩, q⟩
theorem pd_minDf {ns : List Int} {k : Int} {nm : Option Str} {kp : Pos} (cx : Cxt X) (ha : PLi X B e ss (ns.map .int)) (hb : PD X B b ss (.int k)) (hm : X.mg "min" = none) (hv : bootBuiltins "min" = some (.builtin "min") := by decide +kernel) (hg : Gl X "min" := by rfl) (hn : NSt X e := by intro _; rfl)
    (he : backTo pos (starEach [e] X.env) = (false, eval e X.env) :: backTo pos (starEach [] X.env) := by rfl) (hpl : (backTo pos (starEach [e] X.env)).any (·.1) = false := by rfl)
    (hall : (backToKw pos (keywordEach [⟨nm, b, kp⟩] X.env)).all (·.1.isSome) = true := by rfl) (hnone : (backToKw pos (keywordEach [⟨nm, b, kp⟩] X.env)).any (·.1.isNone) = false := by rfl) (hks : (backToKw pos (keywordEach [⟨nm, b, kp⟩] X.env)).filterMap (·.1) = [Str.ofString "default"] := by rfl) :
    PD X B (.Call (.Name "min" p) [e] [⟨nm, b, kp⟩] pos) ss (.int (minDf k ns)) := fun σ F H s Q q =>
  sem_of (pe_callBK (cr_minDf cx.calm cx.units) hg hm hv (pa_cons pe_sem pa_nil (hn [])) (pk_cons pe_sem pk_nil) (by decide) (by decide) he hpl hall hnone hks) (ha σ F H s _ fun l vs F1 H1 g1 sq r1 => hb σ F1 H1 (s.grow g1) _ fun w F2 H2 g2 r2 => by
    cases r2
    have e := RpAll.intsV r1
    subst e
    exact ⟨l, ns, k, rfl, rfl, g2.hh.seq sq, q _ F2 H2 (g1.trans g2) (.int _)⟩)
theorem pd_maxDf {ns : List Int} {k : Int} {nm : Option Str} {kp : Pos} (cx : Cxt X) (ha : PLi X B e ss (ns.map .int)) (hb : PD X B b ss (.int k)) (hm : X.mg "max" = none) (hv : bootBuiltins "max" = some (.builtin "max") := by decide +kernel) (hg : Gl X "max" := by rfl) (hn : NSt X e := by intro _; rfl)
    (he : backTo pos (starEach [e] X.env) = (false, eval e X.env) :: backTo pos (starEach [] X.env) := by rfl) (hpl : (backTo pos (starEach [e] X.env)).any (·.1) = false := by rfl)
    (hall : (backToKw pos (keywordEach [⟨nm, b, kp⟩] X.env)).all (·.1.isSome) = true := by rfl) (hnone : (backToKw pos (keywordEach [⟨nm, b, kp⟩] X.env)).any (·.1.isNone) = false := by rfl) (hks : (backToKw pos (keywordEach [⟨nm, b, kp⟩] X.env)).filterMap (·.1) = [Str.ofString "default"] := by rfl) :
    PD X B (.Call (.Name "max" p) [e] [⟨nm, b, kp⟩] pos) ss (.int (maxDf k ns)) := fun σ F H s Q q =>
  sem_of (pe_callBK (cr_maxDf cx.calm cx.units) hg hm hv (pa_cons pe_sem pa_nil (hn [])) (pk_cons pe_sem pk_nil) (by decide) (by decide) he hpl hall hnone hks) (ha σ F H s _ fun l vs F1 H1 g1 sq r1 => hb σ F1 H1 (s.grow g1) _ fun w F2 H2 g2 r2 => by
    cases r2
    have e := RpAll.intsV r1
    subst e
    exact ⟨l, ns, k, rfl, rfl, g2.hh.seq sq, q _ F2 H2 (g1.trans g2) (.int _)⟩)
/-- how many unlike numbers -/
def dcount (ns : List Int) : Nat := (PyProof.Rows.firstMet (fun i => ns.getD i 0) ns.length).length
theorem met_len (ns : List Int) : ∀ i, i ≤ ns.length → (PyProof.Rows.firstMet (fun i => ns.getD i 0) i).length = i → PyProof.Rows.firstMet (fun i => ns.getD i 0) i = ns.take i ∧ (ns.take i).Nodup
  | 0, _, _ => ⟨by rw [List.take_zero]; rfl, by rw [List.take_zero]; exact List.nodup_nil⟩
  | i + 1, hi, h => by
    have hlt : i < ns.length := hi
    have e1 : ns.getD i 0 = ns[i] := by
      rw [List.getD_eq_getElem?_getD, List.getElem?_eq_getElem hlt] <;> rfl
    have e2 : ns.take (i + 1) = ns.take i ++ [ns[i]] := by
      rw [List.take_add_one, List.getElem?_eq_getElem hlt] <;> rfl
    have le := PyProof.Rows.firstMet_length_le (fun i => ns.getD i 0) i
    rw [PyProof.Rows.firstMet_succ] at h ⊢
    unfold PyProof.Rows.step_dedup at h ⊢
    cases hb : (PyProof.Rows.firstMet (fun i => ns.getD i 0) i).any (· == ns.getD i 0) with
    | true =>
      rw [hb, if_pos rfl] at h
      omega
    | false =>
      rw [hb, if_neg (by decide)] at h
      rw [if_neg (by decide)]
      rw [List.length_append, List.length_singleton] at h
      obtain ⟨k1, k2⟩ := met_len ns i (Nat.le_of_lt hlt) (by omega)
      rw [k1] at hb ⊢
      rw [e2, e1]
      refine ⟨rfl, List.nodup_append.mpr ⟨k2, (List.nodup_cons.mpr ⟨by simp, List.nodup_nil⟩), fun x hx y hy => ?_⟩⟩
      rw [List.mem_singleton] at hy
      subst hy
      intro e
      subst e
      have : (ns.take i).any (· == ns.getD i 0) = true := List.any_eq_true.mpr ⟨_, hx, by rw [e1]; exact beq_self_eq_true _⟩
      rw [hb] at this
      cases this
theorem dcount_le (ns : List Int) : dcount ns ≤ ns.length := PyProof.Rows.firstMet_length_le _ _
theorem dcount_lt (ns : List Int) : decide ((dcount ns : Int) < (ns.length : Int)) = !decide ns.Nodup := by
  have le := dcount_le ns
  by_cases h : ns.Nodup
  · have e : dcount ns = ns.length := by
      unfold dcount
      rw [RZ.firstMet_nodup h ns.length (Nat.le_refl _), List.take_length]
    rw [decide_eq_true h, e, decide_eq_false (Int.lt_irrefl _)]; rfl
  · have ne : dcount ns ≠ ns.length := fun e => by
      have := (met_len ns ns.length (Nat.le_refl _) e).2
      rw [List.take_length] at this
      exact h this
    rw [decide_eq_false h, decide_eq_true (by omega)]; rfl
def tLenSet (K : PySem.W.Frag) (ta : TE) : TE := fun σ H Q => ta σ H fun x H1 => ∃ (l : Addr) (ns : List Int), x = .ref l ∧ SqL K H1 l (ns.map V.int) ∧ ns.length ≤ 4000 ∧ Q (.int (dcount ns : Nat)) H1
theorem pe_lenSet {p p2 q pos : Pos} {ta : TE} (hc : X.calm = true) (ha : PE X a ta) (hm : X.mg "len" = none) (hm2 : X.mg "set" = none) (hg : Gl X "len") (hg2 : Gl X "set")
    (na : starEach [a] X.env = (false, eval a X.env) :: starEach [] X.env := by rfl) : PE X (.Call (.Name "len" p) [.Call (.Name "set" p2) [a] [] q] [] pos) (tLenSet X.K ta) := by
  refine ⟨fun pins s σ H Q I h => ?_⟩
  refine PyProof.Rows.Call_ (ld_blt I hg hm boot_len ?_)
  refine PyProof.Rows.callWith_builtin1 (PyProof.Rows.args_cons ?_ rfl) rfl rfl
  refine PyProof.Rows.Call_ (ld_blt I hg2 hm2 PyProof.Rows.boot_set ?_)
  refine PyProof.Rows.callWith_type1 (PyProof.Rows.args_cons (thn (ha.run pins s σ H _ I h) fun v s1 ⟨x, H1, I1, r1, q1⟩ => PyProof.Rows.args_nil ?_) na) na rfl
  obtain ⟨l, ns, rfl, hq, hl, q1⟩ := q1
  cases r1
  obtain ⟨its, r, pl, hz⟩ := I1.list hq
  have hlen : its.toArray.size = ns.length := by rw [List.size_toArray, ← r.length, List.length_map]
  refine call_set_list (I1.ok.hd hc) pl.isList (by simpa using RZ.intsAre_vals r) (by rw [hlen]; unfold scanBound; omega) fun h' tk hS hk => ?_
  refine PyProof.Rows.args_nil ?_
  rw [hlen] at hS
  obtain ⟨o, es, ep, t, ho, hex, hd, _, _, _, hf, hn⟩ := hS
  have I2 : Inv X pins σ H1 { s1 with heap := h', toks := tk } := I1.kept fun b o e => hk b o (Heap.lt_size e) e
  have hdl := dcount_le ns
  exact call_len_set ho hex hd hf (by rw [hn]; show ((dcount ns : Nat) : Int) < 2 ^ 63; omega) ⟨.int (dcount ns : Nat), H1, I2.tok _, ⟨_, by rw [hn] <;> rfl⟩, q1⟩
theorem pd_lenSet {ns : List Int} {p p2 q : Pos} (cx : Cxt X) (ha : PLi X B a ss (ns.map .int)) (hz : ns.length ≤ 4000) (hm : X.mg "len" = none) (hm2 : X.mg "set" = none) (hg : Gl X "len" := by rfl) (hg2 : Gl X "set" := by rfl)
    (na : starEach [a] X.env = (false, eval a X.env) :: starEach [] X.env := by rfl) : PD X B (.Call (.Name "len" p) [.Call (.Name "set" p2) [a] [] q] [] pos) ss (.int (dcount ns : Nat)) := fun σ F H s Q k =>
  sem_of (pe_lenSet cx.calm pe_sem hm hm2 hg hg2 na) (ha σ F H s _ fun l vs F1 H1 g1 sq r1 => by
    have e := RpAll.intsV r1
    subst e
    exact ⟨l, ns, rfl, sq, hz, k _ F1 H1 g1 (.int _)⟩)
end
end G

namespace G
open PySem L2
/-! ### pairs, floors, good rows -/
abbrev dPr (p : Int × Int) : PyData := .tuple [.int p.1, .int p.2]
abbrev dPrs (bs : List (Int × Int)) : List PyData := bs.map dPr
theorem pl_pr (p : Int × Int) : Pl 1 (dPr p) := .tup fun d hd => by
  rcases List.mem_cons.mp hd with e | hd
  · subst e; exact .int
  · rcases List.mem_cons.mp hd with e | hd
    · subst e; exact .int
    · cases hd
theorem pl_prs (bs : List (Int × Int)) : Pl 2 (.list (dPrs bs)) := .lst (Pl.map fun p _ => pl_pr p)
theorem pl_row (r : List Int) : Pl 1 (dRow r) := .tup (Pl.map fun _ _ => .int)
theorem pl_st (S : List (List Int)) : Pl 2 (dSt S) := .tup (Pl.map fun r _ => pl_row r)
theorem eqv_pr (p q : Int × Int) : PyData.eqv (dPr p) (dPr q) = decide (p = q) := by
  obtain ⟨a, b⟩ := p
  obtain ⟨c, d⟩ := q
  simp only [PyData.eqv, PyData.eqvAll]
  by_cases h1 : a = c
  · by_cases h2 : b = d
    · subst h1 h2; simp
    · simp [h1, h2]
  · simp [h1]
theorem any_pr (bs : List (Int × Int)) (q : Int × Int) : ((dPrs bs).any fun z => PyData.eqv z (dPr q)) = decide (q ∈ bs) := by
  induction bs with
  | nil => simp
  | cons p r ih =>
    show (PyData.eqv (dPr p) (dPr q) || (dPrs r).any fun z => PyData.eqv z (dPr q)) = _
    rw [ih, eqv_pr]
    by_cases h : p = q
    · subst h; simp
    · have h' : ¬ q = p := fun e => h e.symm
      simp [h, h']
theorem eqv_ints : ∀ (r t : List Int), PyData.eqvAll (r.map .int) (t.map .int) = decide (r = t)
  | [], [] => by simp [PyData.eqvAll]
  | [], _ :: _ => by simp [PyData.eqvAll]
  | _ :: _, [] => by simp [PyData.eqvAll]
  | a :: r, b :: t => by
    have ih := eqv_ints r t
    simp only [List.map_cons, PyData.eqvAll, PyData.eqv, ih]
    by_cases h : a = b
    · subst h; simp
    · simp [h]
theorem eqv_row (r t : List Int) : PyData.eqv (dRow r) (dRow t) = decide (r = t) := by
  simp only [PyData.eqv]; exact eqv_ints r t
theorem eqv_rows : ∀ (S T : List (List Int)), PyData.eqvAll (S.map dRow) (T.map dRow) = decide (S = T)
  | [], [] => by simp [PyData.eqvAll]
  | [], _ :: _ => by simp [PyData.eqvAll]
  | _ :: _, [] => by simp [PyData.eqvAll]
  | a :: r, b :: t => by
    have ih := eqv_rows r t
    simp only [List.map_cons, PyData.eqvAll, ih, eqv_row]
    by_cases h : a = b
    · subst h; simp
    · simp [h]
theorem eqv_st (S T : List (List Int)) : PyData.eqv (dSt S) (dSt T) = decide (S = T) := by
  simp only [PyData.eqv]; exact eqv_rows S T
/-- no ban between neighbours -/
def rowOk (bs : List (Int × Int)) (r : List Int) : Bool := (List.range (r.length - 1)).all fun k => !decide ((r.getD (k + 1) 0, r.getD k 0) ∈ bs)
theorem rowOk_yes {bs : List (Int × Int)} {r : List Int} (h : ∀ k, k < r.length - 1 → (r.getD (k + 1) 0, r.getD k 0) ∉ bs) : rowOk bs r = true := by
  unfold rowOk
  rw [List.all_eq_true]
  intro k hk
  rw [List.mem_range] at hk
  rw [decide_eq_false (h k hk)]; rfl
theorem rowOk_no {bs : List (Int × Int)} {r : List Int} {k : Nat} (hk : k < r.length - 1) (h : (r.getD (k + 1) 0, r.getD k 0) ∈ bs) : rowOk bs r = false := by
  unfold rowOk
  rw [List.all_eq_false]
  refine ⟨k, List.mem_range.mpr hk, ?_⟩
  rw [decide_eq_true h]; decide
/-- a stack that is not too high and keeps the bans -/
def stackOk (h : Int) (bs : List (Int × Int)) (r : List Int) : Bool := decide ((r.length : Int) ≤ h) && rowOk bs r
/-- good, as the text looks at it -/
def good (m h : Int) (bs : List (Int × Int)) (S : List (List Int)) : Bool :=
  decide ((S.length : Int) = m) && decide S.flatten.Nodup && S.flatten.all (fun c => decide (0 ≤ c) && decide (c ≤ 9)) && S.all (stackOk h bs)
theorem foldl_min_le : ∀ (r : List Int) (a : Int), r.foldl min a ≤ a ∧ (∀ x ∈ r, r.foldl min a ≤ x) ∧ (r.foldl min a = a ∨ r.foldl min a ∈ r)
  | [], a => ⟨Int.le_refl _, fun x h => (nomatch h), .inl rfl⟩
  | b :: r, a => by
    obtain ⟨h1, h2, h3⟩ := foldl_min_le r (min a b)
    have e : (b :: r).foldl min a = r.foldl min (min a b) := rfl
    rw [e]
    refine ⟨by omega, fun x hx => ?_, ?_⟩
    · rcases List.mem_cons.mp hx with e | hx
      · subst e; omega
      · exact h2 x hx
    · rcases h3 with h3 | h3
      · rw [h3]
        rcases Int.le_total a b with q | q
        · left; omega
        · right; rw [List.mem_cons]; left; omega
      · exact .inr (List.mem_cons_of_mem _ h3)
theorem foldl_max_le : ∀ (r : List Int) (a : Int), a ≤ r.foldl max a ∧ (∀ x ∈ r, x ≤ r.foldl max a) ∧ (r.foldl max a = a ∨ r.foldl max a ∈ r)
  | [], a => ⟨Int.le_refl _, fun x h => (nomatch h), .inl rfl⟩
  | b :: r, a => by
    obtain ⟨h1, h2, h3⟩ := foldl_max_le r (max a b)
    have e : (b :: r).foldl max a = r.foldl max (max a b) := rfl
    rw [e]
    refine ⟨by omega, fun x hx => ?_, ?_⟩
    · rcases List.mem_cons.mp hx with e | hx
      · subst e; omega
      · exact h2 x hx
    · rcases h3 with h3 | h3
      · rw [h3]
        rcases Int.le_total a b with q | q
        · right; rw [List.mem_cons]; left; omega
        · left; omega
      · exact .inr (List.mem_cons_of_mem _ h3)
theorem minDf_neg (ns : List Int) : decide (minDf 0 ns < 0) = !ns.all (fun c => decide (0 ≤ c)) := by
  cases ns with
  | nil => rfl
  | cons a r =>
    obtain ⟨h1, h2, h3⟩ := foldl_min_le r a
    show decide (r.foldl min a < 0) = _
    by_cases h : r.foldl min a < 0
    · rw [decide_eq_true h]
      have : (a :: r).all (fun c => decide (0 ≤ c)) = false := by
        rw [List.all_eq_false]
        rcases h3 with e | e
        · exact ⟨a, List.mem_cons_self, by simp; omega⟩
        · exact ⟨_, List.mem_cons_of_mem _ e, by simp; omega⟩
      rw [this]; rfl
    · rw [decide_eq_false h]
      have : (a :: r).all (fun c => decide (0 ≤ c)) = true := by
        rw [List.all_eq_true]
        intro x hx
        rcases List.mem_cons.mp hx with e | e
        · subst e; simp; omega
        · have := h2 x e; simp; omega
      rw [this]; rfl
theorem maxDf_nine (ns : List Int) : decide (9 < maxDf 0 ns) = !ns.all (fun c => decide (c ≤ 9)) := by
  cases ns with
  | nil => rfl
  | cons a r =>
    obtain ⟨h1, h2, h3⟩ := foldl_max_le r a
    show decide (9 < r.foldl max a) = _
    by_cases h : 9 < r.foldl max a
    · rw [decide_eq_true h]
      have : (a :: r).all (fun c => decide (c ≤ 9)) = false := by
        rw [List.all_eq_false]
        rcases h3 with e | e
        · exact ⟨a, List.mem_cons_self, by simp; omega⟩
        · exact ⟨_, List.mem_cons_of_mem _ e, by simp; omega⟩
      rw [this]; rfl
    · rw [decide_eq_false h]
      have : (a :: r).all (fun c => decide (c ≤ 9)) = true := by
        rw [List.all_eq_true]
        intro x hx
        rcases List.mem_cons.mp hx with e | e
        · subst e; simp; omega
        · have := h2 x e; simp; omega
      rw [this]; rfl
theorem all_isort (p : Int → Bool) (l : List Int) : (isort l).all p = l.all p := by
  rw [Bool.eq_iff_iff, List.all_eq_true, List.all_eq_true]
  exact ⟨fun h x hx => h x ((isort_perm l).mem_iff.mpr hx), fun h x hx => h x ((isort_perm l).mem_iff.mp hx)⟩
theorem all_and2 {α : Type} (f g : α → Bool) : ∀ l : List α, l.all (fun x => f x && g x) = (l.all f && l.all g)
  | [] => rfl
  | a :: r => by
    rw [List.all_cons, List.all_cons, List.all_cons, all_and2 f g r]
    cases f a <;> cases g a <;> cases r.all f <;> cases r.all g <;> rfl
theorem of_not_false {b : Bool} (h : (!b) = false) : b = true := by cases b <;> first | rfl | cases h
theorem of_not_true {b : Bool} (h : (!b) = true) : b = false := by cases b <;> first | rfl | cases h
theorem nodup_isort (l : List Int) : (isort l).Nodup ↔ l.Nodup := (isort_perm l).nodup_iff
/-- what the class Floor is, as the top leaves it -/
structure FlT (K : PySem.W.Frag) (mg : Str → Option Value) (C : Addr) : Prop where
  cl : Cls K C
  nM : NoAttr K C "many"
  nH : NoAttr K C "high"
  nS : NoAttr K C "strong"
  nB : NoAttr K C "banned"
  mgC : mg "Floor" = some (.ref C)
theorem at_nat {xs : List PyData} {j : Nat} {d : PyData} {z : Int} (e : z = (j : Int)) (h : xs[j]? = some d) : atI xs z = some d := by
  rw [e]; exact atI_nat h
theorem row_at {r : List Int} {j : Nat} (h : j < r.length) : (r.map PyData.int)[j]? = some (.int (r.getD j 0)) := by
  rw [List.getElem?_map, List.getElem?_eq_getElem h, List.getD_eq_getElem?_getD, List.getElem?_eq_getElem h] <;> rfl
theorem PD.tp {X : Cx} {B : Bs} {e : Expr} {ss : List SD} {ds : List PyData} (h : PD X B e ss (.tuple ds)) : PIt X B e ss ds := h.itt.it
theorem PD.ls {X : Cx} {B : Bs} {e : Expr} {ss : List SD} {ds : List PyData} (h : PD X B e ss (.list ds)) : PIt X B e ss ds := h.itl.it
end G

namespace G
open PySem L2
/-! ### lifts -/
abbrev FL := Int × Int × Int × List (Int × Int)
abbrev dFl (f : FL) : PyData := flr f.1 f.2.1 f.2.2.1 (dPrs f.2.2.2)
abbrev goodF (f : FL) (S : List (List Int)) : Bool := good f.1 f.2.1 f.2.2.2 S
abbrev LF := Nat × Nat × Nat
abbrev dLf (l : LF) : PyData := .tuple [.int (l.1 : Int), .int (l.2.1 : Int), .int (l.2.2 : Int)]
abbrev L3 := Int × Int × Int
abbrev dL3 (l : L3) : PyData := .tuple [.int l.1, .int l.2.1, .int l.2.2]
def cast3 (l : LF) : L3 := (l.1, l.2.1, l.2.2)
theorem dLf_cast (l : LF) : dLf l = dL3 (cast3 l) := rfl
def behindL (S : List (List Int)) (l : LF) : List (List Int) :=
  let r := S.getD l.1 []
  (S.set l.2.1 (S.getD l.2.1 [] ++ r.drop (r.length - l.2.2))).set l.1 (r.take (r.length - l.2.2))
theorem set_perm {α : Type} : ∀ (S : List (List α)) (i : Nat) (r : List α), i < S.length → ((S.set i r).flatten ++ S.getD i []).Perm (S.flatten ++ r)
  | [], i, r, h => by simp at h
  | x :: S, 0, r, h => by
    show ((r :: S).flatten ++ x).Perm ((x :: S).flatten ++ r)
    rw [List.flatten_cons, List.flatten_cons, List.append_assoc, List.append_assoc]
    have h1 : (r ++ (S.flatten ++ x)).Perm ((S.flatten ++ x) ++ r) := List.perm_append_comm
    have h2 : ((S.flatten ++ x) ++ r).Perm ((x ++ S.flatten) ++ r) := List.perm_append_comm.append_right r
    rw [List.append_assoc, List.append_assoc] at h2
    exact (h1.trans (by rw [List.append_assoc]; exact h2))
  | x :: S, i + 1, r, h => by
    show ((x :: S.set i r).flatten ++ S.getD i []).Perm ((x :: S).flatten ++ r)
    rw [List.flatten_cons, List.flatten_cons, List.append_assoc, List.append_assoc]
    exact (set_perm S i r (by simpa using h)).append_left x
theorem getD_set_ne {α : Type} {S : List (List α)} {i j : Nat} (h : i ≠ j) (r : List α) : (S.set i r).getD j [] = S.getD j [] := by
  rw [List.getD_eq_getElem?_getD, List.getD_eq_getElem?_getD, List.getElem?_set_ne h]
theorem getD_set_eq {α : Type} {S : List (List α)} {i : Nat} (h : i < S.length) (r : List α) : (S.set i r).getD i [] = r := by
  rw [List.getD_eq_getElem?_getD, List.getElem?_set_self h]; rfl
theorem behind_length (S : List (List Int)) (l : LF) : (behindL S l).length = S.length := by
  unfold behindL; rw [List.length_set, List.length_set]
theorem behind_perm {S : List (List Int)} {l : LF} (ha : l.1 < S.length) (hb : l.2.1 < S.length) (hab : l.1 ≠ l.2.1) : (behindL S l).flatten.Perm S.flatten := by
  obtain ⟨a, b, k⟩ := l
  simp only at ha hb hab
  unfold behindL
  simp only
  generalize hr : S.getD a [] = r
  generalize hn : r.length - k = n
  have h1 := set_perm (S.set b (S.getD b [] ++ r.drop n)) a (r.take n) (by rw [List.length_set]; exact ha)
  rw [getD_set_ne (Ne.symm hab), hr] at h1
  have h2 := set_perm S b (S.getD b [] ++ r.drop n) hb
  -- X ++ r ~ Y ++ take n ; Y ++ q ~ S ++ q ++ drop n
  have h3 : ((S.set b (S.getD b [] ++ r.drop n)).flatten).Perm (S.flatten ++ r.drop n) := by
    have h4 : ((S.set b (S.getD b [] ++ r.drop n)).flatten ++ S.getD b []).Perm ((S.flatten ++ r.drop n) ++ S.getD b []) := by
      refine h2.trans ?_
      rw [List.append_assoc]
      exact List.perm_append_comm.append_left _
    exact (List.perm_append_right_iff _).mp h4
  have h5 : (((S.set b (S.getD b [] ++ r.drop n)).set a (r.take n)).flatten ++ r).Perm (S.flatten ++ r) := by
    refine h1.trans ((h3.append_right _).trans ?_)
    rw [List.append_assoc]
    refine List.Perm.append_left _ ?_
    have := (List.perm_append_comm : (r.drop n ++ r.take n).Perm (r.take n ++ r.drop n))
    rw [List.take_append_drop] at this
    exact this
  exact (List.perm_append_right_iff _).mp h5
/-- the lifts from stack a to stack b that are let -/
def liftsAB (f : FL) (S : List (List Int)) (a b n : Nat) : List LF := ((List.range n).filter fun i => decide (a ≠ b) && goodF f (behindL S (a, b, i + 1))).map fun i => (a, b, i + 1)
def topN (f : FL) (S : List (List Int)) (a : Nat) : Nat := min f.2.2.1.toNat (S.getD a []).length
def liftsOf (f : FL) (S : List (List Int)) : List LF := (List.range S.length).flatMap fun a => (List.range S.length).flatMap fun b => liftsAB f S a b (topN f S a)
theorem fm_succ {α : Type} (f : Nat → List α) (n : Nat) : (List.range (n + 1)).flatMap f = (List.range n).flatMap f ++ f n := by
  rw [List.range_succ, List.flatMap_append]; simp
theorem fm_le {α : Type} (f : Nat → List α) (c : Nat) (h : ∀ i, (f i).length ≤ c) : ∀ n, ((List.range n).flatMap f).length ≤ n * c
  | 0 => by simp
  | n + 1 => by
    rw [fm_succ, List.length_append, Nat.succ_mul]
    have := fm_le f c h n
    have := h n
    omega
theorem lab_succ (f : FL) (S : List (List Int)) (a b n : Nat) : liftsAB f S a b (n + 1) = liftsAB f S a b n ++ if (decide (a ≠ b) && goodF f (behindL S (a, b, n + 1))) = true then [(a, b, n + 1)] else [] := by
  unfold liftsAB
  rw [List.range_succ, List.filter_append, List.map_append]
  congr 1
  by_cases h : (decide (a ≠ b) && goodF f (behindL S (a, b, n + 1))) = true
  · rw [if_pos h, List.filter_cons, if_pos h]; rfl
  · rw [if_neg h, List.filter_cons, if_neg h]; rfl
theorem lab_le (f : FL) (S : List (List Int)) (a b n : Nat) : (liftsAB f S a b n).length ≤ n := by
  unfold liftsAB
  rw [List.length_map]
  exact Nat.le_trans (List.length_filter_le _ _) (by rw [List.length_range]; exact Nat.le_refl _)
theorem mem_lab {f : FL} {S : List (List Int)} {a b n : Nat} {l : LF} : l ∈ liftsAB f S a b n ↔ l.1 = a ∧ l.2.1 = b ∧ a ≠ b ∧ 1 ≤ l.2.2 ∧ l.2.2 ≤ n ∧ goodF f (behindL S l) = true := by
  unfold liftsAB
  rw [List.mem_map]
  constructor
  · rintro ⟨i, hi, rfl⟩
    rw [List.mem_filter, List.mem_range, Bool.and_eq_true] at hi
    obtain ⟨h1, h2, h3⟩ := hi
    exact ⟨rfl, rfl, of_decide_eq_true h2, by simp, by simp only; omega, h3⟩
  · obtain ⟨x, y, z⟩ := l
    rintro ⟨rfl, rfl, h1, h2, h3, h4⟩
    simp only at *
    refine ⟨z - 1, ?_, by rw [Nat.sub_add_cancel h2]⟩
    rw [List.mem_filter, List.mem_range, Bool.and_eq_true]
    refine ⟨by omega, decide_eq_true h1, ?_⟩
    rw [Nat.sub_add_cancel h2]; exact h4
theorem mem_liftsOf {f : FL} {S : List (List Int)} {l : LF} : l ∈ liftsOf f S ↔ l.1 < S.length ∧ l.2.1 < S.length ∧ l.1 ≠ l.2.1 ∧ 1 ≤ l.2.2 ∧ l.2.2 ≤ topN f S l.1 ∧ goodF f (behindL S l) = true := by
  unfold liftsOf
  rw [List.mem_flatMap]
  constructor
  · rintro ⟨a, ha, h⟩
    rw [List.mem_flatMap] at h
    obtain ⟨b, hb, h⟩ := h
    rw [List.mem_range] at ha hb
    obtain ⟨rfl, rfl, h3, h4, h5, h6⟩ := mem_lab.mp h
    exact ⟨ha, hb, h3, h4, h5, h6⟩
  · rintro ⟨h1, h2, h3, h4, h5, h6⟩
    exact ⟨l.1, List.mem_range.mpr h1, List.mem_flatMap.mpr ⟨l.2.1, List.mem_range.mpr h2, mem_lab.mpr ⟨rfl, rfl, h3, h4, h5, h6⟩⟩⟩
theorem pl_l3 (l : L3) : Pl 1 (dL3 l) := .tup fun d hd => by
  rcases List.mem_cons.mp hd with e | hd
  · subst e; exact .int
  · rcases List.mem_cons.mp hd with e | hd
    · subst e; exact .int
    · rcases List.mem_cons.mp hd with e | hd
      · subst e; exact .int
      · cases hd
theorem pl_lfs (ls : List LF) : Pl 2 (.list (ls.map dLf)) := .lst (Pl.map fun l _ => pl_l3 (cast3 l))
theorem eqv_l3 (p q : L3) : PyData.eqv (dL3 p) (dL3 q) = decide (p = q) := by
  obtain ⟨a, b, c⟩ := p
  obtain ⟨a', b', c'⟩ := q
  simp only [PyData.eqv, PyData.eqvAll]
  by_cases h1 : a = a'
  · by_cases h2 : b = b'
    · by_cases h3 : c = c'
      · subst h1 h2 h3; simp
      · simp [h1, h2, h3]
    · simp [h1, h2]
  · simp [h1]
theorem any_l3 (ls : List LF) (q : L3) : ((ls.map dLf).any fun z => PyData.eqv z (dL3 q)) = decide (q ∈ ls.map cast3) := by
  induction ls with
  | nil => simp
  | cons p r ih =>
    show (PyData.eqv (dL3 (cast3 p)) (dL3 q) || (r.map dLf).any fun z => PyData.eqv z (dL3 q)) = _
    rw [ih, eqv_l3, List.map_cons]
    by_cases h : cast3 p = q
    · simp [h]
    · have h' : ¬ q = cast3 p := fun e => h e.symm
      simp [h, h']
theorem cast3_inj {l m : LF} (h : cast3 l = cast3 m) : l = m := by
  obtain ⟨a, b, c⟩ := l
  obtain ⟨a', b', c'⟩ := m
  simp only [cast3, Prod.mk.injEq] at h
  obtain ⟨h1, h2, h3⟩ := h
  have : a = a' := by omega
  have : b = b' := by omega
  have : c = c' := by omega
  subst_vars; rfl
theorem ixN_nat {n j : Nat} (hj : j < n) : ixN n (j : Int) = some j := by
  unfold ixN
  rw [if_pos (by omega), if_pos (by omega)]
  simp
theorem cut_from {xs : List PyData} {n : Nat} (h : n ≤ xs.length) : cutD xs (some (n : Int)) none = xs.drop n := by
  unfold cutD
  rw [HT.sIx_nat, HT.sIx_none, Nat.min_eq_left h]
  rw [List.take_of_length_le (by rw [List.length_drop]; exact Nat.le_refl _)]
theorem cut_to {xs : List PyData} {n : Nat} (h : n ≤ xs.length) : cutD xs none (some (n : Int)) = xs.take n := by
  unfold cutD
  rw [HT.sIx_nat, HT.sIx_none, Nat.min_eq_left h, List.drop_zero, Nat.sub_zero]
theorem st_at {S : List (List Int)} {j : Nat} (h : j < S.length) : (S.map dRow)[j]? = some (dRow (S.getD j [])) := by
  rw [List.getElem?_map, List.getElem?_eq_getElem h, List.getD_eq_getElem?_getD, List.getElem?_eq_getElem h] <;> rfl
theorem row_le {S : List (List Int)} (j : Nat) : (S.getD j []).length ≤ S.flatten.length := by
  rw [List.getD_eq_getElem?_getD]
  cases e : S[j]? with
  | none => simp
  | some r =>
    have h := flatten_take_le S (j + 1)
    rw [flatten_take e, List.length_append] at h
    simp only [Option.getD_some]
    omega
theorem good_len {f : FL} {S : List (List Int)} (h : goodF f S = true) : (S.length : Int) = f.1 := by
  unfold goodF good at h
  simp only [Bool.and_eq_true] at h
  exact of_decide_eq_true h.1.1.1
end G

namespace G
open PySem L2
theorem set_lem (σ : St) {i j : Nat} (hij : i ≠ j) (a b : Option V) : ((((σ.set j none).set i none).set i a).set j b) = (σ.set i a).set j b := by
  rw [List.set_set, List.set_comm none a (Ne.symm hij), List.set_set]
theorem set_lem2 (σ : St) {i j : Nat} (hij : i ≠ j) (a b : Option V) : ((((σ.set i a).set j b).set j none).set i none) = (σ.set j none).set i none := by
  rw [List.set_set, List.set_comm a none hij, List.set_set]
section
variable {X : Cx} {B : Bs} {ss : List SD} {e a b c : Expr} {es : List Expr} {pos p p2 p3 p4 p5 : Pos} {d x y z : PyData} {ds ds' : List PyData} {rest body orelse : List Stmt} {st : Stmt} {D : Ends}
/-- a list of pairs that stands still -/
def PIp (X : Cx) (B : Bs) (e : Expr) (ss : List SD) (ps : List (Int × Int)) : Prop := ∀ (σ : St) (F H : Hp), Sat X.K B ss σ F H → ∀ Q : VK,
  (∀ a vs F' H', Grow F H F' H' → (∀ H2, Same F' H2 → Same B.H0 H2 → SqL X.K H2 a vs ∧ RpAll X.K B.C H2 vs (dPrs ps)) → Q (.ref a) H') → tSem X e σ H Q
theorem PD.ips {ps : List (Int × Int)} (h : PD X B e ss (.list (dPrs ps))) : PIp X B e ss ps := fun σ F H s Q q => h σ F H s Q fun v F' H' g r => by
  cases r with
  | lst h1 h2 => exact q _ _ F' H' g fun H2 e _ => ⟨SqL.of (e _ _ h1), h2.mono e⟩
/-- a borrowed name, as things stand -/
theorem pb_bor (i : Nat) {x : Str} {d : PyData} (hN : X.N[i]? = some x := by rfl) (hs : ss[i]? = some (.bor d) := by rfl) (hv : Vis X.env.scope x := by first | exact Or.inl rfl | exact Or.inr (Or.inl rfl) | exact Or.inr (Or.inr rfl)) (hd : (x == ("__debug__" : Str)) = false := by decide)
    (hcd : (x == ("__classdict__" : Str)) = false := by decide) : PB X B (.Name x p) ss d := fun σ F H s Q q => by
  obtain ⟨v, e, r⟩ := s.slot i _ hs
  exact sem_of (pe_var hN hv hd hcd) ⟨v, e, q v F H (Grow.refl s.fh) (r.mono s.g.hh)⟩
theorem pip_bor (i : Nat) {x : Str} {ps : List (Int × Int)} (hN : X.N[i]? = some x := by rfl) (hs : ss[i]? = some (.bor (.list (dPrs ps))) := by rfl) (hv : Vis X.env.scope x := by first | exact Or.inl rfl | exact Or.inr (Or.inl rfl) | exact Or.inr (Or.inr rfl)) (hd : (x == ("__debug__" : Str)) = false := by decide)
    (hcd : (x == ("__classdict__" : Str)) = false := by decide) : PIp X B (.Name x p) ss ps := fun σ F H s Q q => by
  obtain ⟨v, e, r⟩ := s.slot i _ hs
  cases r with
  | lst h1 h2 => exact sem_of (pe_var hN hv hd hcd) ⟨_, e, q _ _ F H (Grow.refl s.fh) fun H2 _ e2 => ⟨SqL.of (e2 _ _ h1), h2.mono e2⟩⟩
/-- len of a borrowed list -/
theorem pd_lenB (ha : PB X B e ss (.list ds)) (hm : X.mg "len" = none) (hg : Gl X "len" := by rfl) (hn : NSt X e := by intro _; rfl) : PD X B (.Call (.Name "len" p) [e] [] pos) ss (.int ds.length) := fun σ F H s Q q =>
  sem_of (pe_callB call_len_seq hg hm PySem.boot_len (pa_cons pe_sem pa_nil (hn [])) (by decide) (by decide) (hn []) rfl) (ha σ F H s _ fun v F1 H1 g r => by
    cases r with
    | lst h1 h2 => exact ⟨_, _, rfl, .inl (SqL.of h1), q _ F1 H1 g (by rw [h2.length]; exact .int _)⟩)
/-- the state with a pair in two slots -/
abbrev set2 (ss : List SD) (i j : Nat) (u : Int × Int) : List SD := (ss.set i (.dat (.int u.1))).set j (.dat (.int u.2))
abbrev gPair (K : PySem.W.Frag) (i j : Nat) : TG := gTup K 2 (gCons (gName i) (gCons (gName j) gNil))
theorem go_for2 {ps : List (Int × Int)} (i j : Nat) {x y : Str} {kx : Nat} (J : Nat → List SD → Prop) (cx : Cxt X) (he : PIp X B e ss ps) (h0 : J 0 ss)
    (hb : ∀ (Fp : Hp) (n : Nat) (u : Int × Int) (ss' : List SD), ps[n]? = some u → J n ss' → Go X (B.pinned Fp) body (set2 ss' i j u) (lpE X (B.pinned Fp) (J (n + 1)) rest D))
    (hd : ∀ ss', J ps.length ss' → Go X B rest ss' D)
    (hps : ∀ wi, PI X (.Tuple [.Name x p, .Name y p2] kx p3) e wi → PS X (.For (.Tuple [.Name x p, .Name y p2] kx p3) e body [] pos) (tFor wi (gPair X.K i j) (tSS X body)) := by
      intro _ hw; exact ps_for (Cxt.pass (by assumption)) (Cxt.calm (by assumption)) hw (pg_tup (Cxt.calm (by assumption)) (pgs_cons (pg_name (Cxt.nd (by assumption)) (by rfl) (by first | exact Or.inl rfl | exact Or.inr rfl)) (pgs_cons (pg_name (Cxt.nd (by assumption)) (by rfl) (by first | exact Or.inl rfl | exact Or.inr rfl)) pgs_nil))) pss_sem) :
    Go X B (.For (.Tuple [.Name x p, .Name y p2] kx p3) e body [] pos :: rest) ss D :=
  go_step (hps _ (pi_list pe_sem)) fun σ F H s => he σ F H s _ fun a vs F1 H1 g sq => by
    have s1 := s.grow g
    have pn : Same B.Fp F1 := s.pin.trans g.ff
    obtain ⟨sq1, r1⟩ := sq H1 g.fh s1.g.hh
    have ll : vs.length = ps.length := by rw [r1.length, List.length_map]
    refine ⟨a, rfl, ⟨vs, sq1⟩, for_list (K := X.K) (a := a) (xs := vs) (fun n => Mid X (B.pinned F1) (J n)) ⟨F1, ss, h0, s1.pinned⟩ (fun n σ' H' _ ⟨F', ss', j', s'⟩ => (sq H' (s'.pin.trans s'.fh) s'.g.hh).1) (fun n w σ' H' hi ⟨F', ss', j', s'⟩ => ?_) (by rw [ll]; exact fun σ' H' ⟨F', ss', j', s'⟩ => hd ss' j' σ' F' H' (s'.unpin pn))⟩
    obtain ⟨_, r2⟩ := sq H' (s'.pin.trans s'.fh) s'.g.hh
    obtain ⟨d, hd', rd⟩ := RpAll.getV r2 hi
    rw [List.getElem?_map] at hd'
    cases hu : ps[n]? with
    | none => rw [hu] at hd'; cases hd'
    | some u =>
      rw [hu] at hd'
      cases hd'
      cases rd with
      | tup h1 h2 =>
        cases h2 with
        | cons e1 t1 =>
          cases t1 with
          | cons e2 t2 =>
            cases t2
            cases e1
            cases e2
            refine ⟨_, _, rfl, h1, rfl, _, _, rfl, _, _, rfl, rfl, ?_⟩
            exact hb F1 n u ss' hu j' _ F' H' ((s'.set_dat (.int _)).set_dat (.int _))
/-- [e for x, y in a] -/
theorem pl_lc2 {ps : List (Int × Int)} {g : Int × Int → PyData} (i j : Nat) {x y : Str} {kx : Nat} {scope : Scope} (cx : Cxt X) (he : PIp X B a ss ps)
    (hel : ∀ (Fp : Hp) (u : Int × Int), u ∈ ps → ∀ (s : Shared) (H' : Hp) (C : Addr) (cl : List (Str × Addr)) (fp : List Addr), PD (Blk X scope s H' C cl fp) (B.pinned Fp) e (set2 ss i j u) (g u))
    (hz : ps.length < sizeLine) (hij : i ≠ j) (nr : noRaw ss = true := by rfl)
    (hok : BlkOk X.N X.env.scope scope [(x, i), (y, j)] := by exact blkOk_by (by kernel_rfl))
    (hpg : X.calm = true → X.N.Nodup → ∀ (s : Shared) (H' : Hp) (C : Addr) (cl : List (Str × Addr)) (fp : List Addr), PG (Blk X scope s H' C cl fp) (.Tuple [.Name x p, .Name y p2] kx p3) (gPair X.K i j) := by
      intro hcl hnd _ _ _ _ _; exact pg_tup hcl (pgs_cons (pg_name hnd (by rfl) (Or.inl rfl)) (pgs_cons (pg_name hnd (by rfl) (Or.inl rfl)) pgs_nil)))
    (hs : ∀ x, foldedSetIterable a X.env x = pure x := by intro _; rfl) :
    PLc X B (.ListComp e [⟨.Tuple [.Name x p, .Name y p2] kx p3, a, [], 0⟩] scope pos) ss (ps.map g) :=
  ⟨_, _, _, _, _, _, _, _, _, _, [(x, i), (y, j)], rfl, pi_list pe_sem, hok, hpg cx.calm cx.nd, fun _ _ _ _ _ => pts_nil, fun s H' C cl fp => (⟨fun pins s1 σ H Q I h => h s H' C cl fp pins s1 I⟩ : PE _ e (tBlk X scope e)), hs, fun σ F H s Q q => he σ F H s _ fun l vs F1 H1 g1 sq => by
    have s1 := s.grow g1
    obtain ⟨sq1, r1⟩ := sq H1 g1.fh s1.g.hh
    have ll : vs.length = ps.length := by rw [r1.length, List.length_map]
    refine ⟨l, rfl, ⟨vs, sq1⟩, fun Dl hD => ?_⟩
    have ap : ∀ (i : Nat) (es : List PyData), ss[i]? = some (.own es) → σ[i]? ≠ some (some (.ref Dl)) := fun i es e1 e2 => by
      obtain ⟨a', ws, ea, _, _, h2, _⟩ := s1.slot i _ e1
      rw [e2] at ea
      injection ea with ea
      injection ea with ea
      injection ea with ea
      subst ea
      rw [hD] at h2; cases h2
    have hF1 : F1 Dl = none := g1.fh.free hD
    have hB0 : B.H0 Dl = none := s1.g.hh.free hD
    have hH : H Dl = none := g1.hh.free hD
    refine lc_list (K := X.K) (a := l) (xs := vs) (fun i H' => ∃ F' acc, Sat X.K (B.pinned F1) ss σ F' H' ∧ Grow F H F' H' ∧ F' Dl = none ∧ H' Dl = some (.lst acc) ∧ RpAll X.K B.C F' acc ((ps.take i).map g))
      ⟨F1, [], s1.pinned.upd hB0 hF1 nr ap, g1.trans (Grow.newO g1.fh hD), hF1, upd_same, ?_⟩ ?_ ?_ ?_
    · rw [List.take_zero]; exact .nil
    · rintro i H' _ ⟨F', acc, s', _, _⟩
      exact (sq H' (s'.pin.trans s'.fh) s'.g.hh).1
    · rintro n w H' hi ⟨F', acc, s', g', n', h', r'⟩
      obtain ⟨_, r2⟩ := sq H' (s'.pin.trans s'.fh) s'.g.hh
      obtain ⟨d, hd', rd⟩ := RpAll.getV r2 hi
      rw [List.getElem?_map] at hd'
      cases hu : ps[n]? with
      | none => rw [hu] at hd'; cases hd'
      | some u =>
        rw [hu] at hd'
        cases hd'
        have hil : n < ps.length := (List.getElem?_eq_some_iff.mp hu).1
        have tk : ps.take (n + 1) = ps.take n ++ [u] := by rw [List.take_add_one, hu]; rfl
        have al : acc.length ≤ n := by rw [r'.length, List.length_map, List.length_take]; omega
        cases rd with
        | tup h1 h2 =>
          cases h2 with
          | cons e1 t1 =>
            cases t1 with
            | cons e2 t2 =>
              cases t2
              cases e1
              cases e2
              have wset : ((wipe σ [i, j]).set i (some (V.int u.1))).set j (some (V.int u.2)) = (σ.set i (some (V.int u.1))).set j (some (V.int u.2)) := set_lem σ hij _ _
              refine ⟨_, _, rfl, h1, rfl, _, _, rfl, _, _, rfl, rfl, ?_⟩
              simp only [gName, List.map_cons, List.map_nil]
              show wipe (((wipe σ [i, j]).set i (some (V.int u.1))).set j (some (V.int u.2))) [i, j] = wipe σ [i, j] ∧ _
              rw [wset]
              refine ⟨?_, ?_⟩
              · exact set_lem2 σ hij _ _
              · simp only [tYes, ↓reduceIte]
                intro s5 H5 C5 cl5 fp5
                refine hel F1 u (List.mem_of_getElem? hu) s5 H5 C5 cl5 fp5 _ F' H' ((s'.set_dat (.int _)).set_dat (.int _)) _ fun z F4 H4 g4 r4 => ?_
                have n4 := g4.own _ _ h' n'
                refine ⟨acc, g4.hh _ _ h', Nat.lt_of_le_of_lt al (Nat.lt_trans hil hz), F4, acc ++ [z], (s'.grow g4).upd hB0 n4 nr ap, ?_, n4, upd_same, ?_⟩
                · exact ⟨fun b o e => by rw [upd_ne (ne_of_none e hH)]; exact (g'.trans g4).hh b o e, (g'.trans g4).ff, fun b o e => by rw [upd_ne (ne_of_none e n4)]; exact g4.fh b o e, (g'.trans g4).own⟩
                · rw [tk, List.map_append]
                  exact (r'.mono g4.ff).app (.one r4)
    · rintro H' ⟨F', acc, s', g', n', h', r'⟩
      rw [ll, List.take_length] at r'
      exact q Dl acc F' H' g' hH n' h' r'⟩
end
end G

namespace G
open PySem L2
/-! ### sorted(set(pairs)) -/
def ltP2 (p q : Int × Int) : Prop := p.1 < q.1 ∨ (p.1 = q.1 ∧ p.2 < q.2)
instance (p q : Int × Int) : Decidable (ltP2 p q) := inferInstanceAs (Decidable (_ ∨ _))
def insP (a : Int × Int) : List (Int × Int) → List (Int × Int)
  | [] => [a]
  | b :: r => if ltP2 a b then a :: b :: r else if a = b then b :: r else b :: insP a r
def sdedup : List (Int × Int) → List (Int × Int)
  | [] => []
  | a :: r => insP a (sdedup r)
theorem mem_insP (a x : Int × Int) : ∀ l, x ∈ insP a l ↔ x = a ∨ x ∈ l
  | [] => by simp [insP]
  | b :: r => by
    unfold insP
    split
    · simp
    · split
      · rename_i h
        subst h
        simp
      · rw [List.mem_cons, mem_insP a x r, List.mem_cons]
        constructor
        · rintro (h | h | h)
          · exact .inr (.inl h)
          · exact .inl h
          · exact .inr (.inr h)
        · rintro (h | h | h)
          · exact .inr (.inl h)
          · exact .inl h
          · exact .inr (.inr h)
theorem mem_sdedup (x : Int × Int) : ∀ l, x ∈ sdedup l ↔ x ∈ l
  | [] => Iff.rfl
  | a :: r => by unfold sdedup; rw [mem_insP, mem_sdedup x r, List.mem_cons]
theorem ltP2_trans {a b c : Int × Int} (h : ltP2 a b) (k : ltP2 b c) : ltP2 a c := by
  unfold ltP2 at *
  omega
theorem ltP2_irr {a : Int × Int} : ¬ ltP2 a a := by unfold ltP2; omega
theorem ltP2_tri (a b : Int × Int) : ltP2 a b ∨ a = b ∨ ltP2 b a := by
  obtain ⟨x, y⟩ := a
  obtain ⟨z, w⟩ := b
  unfold ltP2
  simp only [Prod.mk.injEq]
  omega
theorem insP_sorted (a : Int × Int) : ∀ l : List (Int × Int), l.Pairwise ltP2 → (insP a l).Pairwise ltP2
  | [], _ => by unfold insP; exact List.pairwise_singleton _ _
  | b :: r, h => by
    unfold insP
    have h' := List.pairwise_cons.mp h
    split
    · rename_i hab
      refine List.pairwise_cons.mpr ⟨fun x hx => ?_, h⟩
      rcases List.mem_cons.mp hx with e | hx
      · subst e; exact hab
      · exact ltP2_trans hab (h'.1 x hx)
    · split
      · exact h
      · rename_i h1 h2
        refine List.pairwise_cons.mpr ⟨fun x hx => ?_, insP_sorted a r h'.2⟩
        rcases (mem_insP a x r).mp hx with e | hx
        · subst e
          rcases ltP2_tri x b with q | q | q
          · exact absurd q h1
          · exact absurd q h2
          · exact q
        · exact h'.1 x hx
theorem sdedup_sorted : ∀ l, (sdedup l).Pairwise ltP2
  | [] => List.Pairwise.nil
  | a :: r => insP_sorted a _ (sdedup_sorted r)
theorem srtP_one : ∀ {l m : List (Int × Int)}, l.Pairwise ltP2 → m.Pairwise ltP2 → (∀ x, x ∈ l ↔ x ∈ m) → l = m
  | [], [], _, _, _ => rfl
  | [], b :: m, _, _, h => by have := (h b).mpr List.mem_cons_self; cases this
  | a :: l, [], _, _, h => by have := (h a).mp List.mem_cons_self; cases this
  | a :: l, b :: m, h1, h2, h => by
    rw [List.pairwise_cons] at h1 h2
    have hab : a = b := by
      rcases List.mem_cons.mp ((h a).mp List.mem_cons_self) with e | ha
      · exact e
      · rcases List.mem_cons.mp ((h b).mpr List.mem_cons_self) with e | hb
        · exact e.symm
        · exact absurd (ltP2_trans (h1.1 b hb) (h2.1 a ha)) ltP2_irr
    subst hab
    rw [srtP_one h1.2 h2.2 fun x => ⟨fun hx => ?_, fun hx => ?_⟩]
    · rcases List.mem_cons.mp ((h x).mp (List.mem_cons_of_mem _ hx)) with e | k
      · subst e; exact absurd (h1.1 _ hx) ltP2_irr
      · exact k
    · rcases List.mem_cons.mp ((h x).mpr (List.mem_cons_of_mem _ hx)) with e | k
      · subst e; exact absurd (h2.1 _ hx) ltP2_irr
      · exact k
theorem sdedup_is {l m : List (Int × Int)} (h : l.Pairwise ltP2) (k : ∀ x, x ∈ l ↔ x ∈ m) : l = sdedup m :=
  srtP_one h (sdedup_sorted m) fun x => (k x).trans (mem_sdedup x m).symm
theorem insP_len (a : Int × Int) : ∀ l, (insP a l).length ≤ l.length + 1
  | [] => Nat.le_refl _
  | b :: r => by
    unfold insP
    split
    · exact Nat.le_refl _
    · split
      · exact Nat.le_succ _
      · rw [List.length_cons, List.length_cons]; have := insP_len a r; omega
theorem sdedup_len : ∀ l, (sdedup l).length ≤ l.length
  | [] => Nat.le_refl _
  | a :: r => Nat.le_trans (insP_len a _) (Nat.succ_le_succ (sdedup_len r))
def pl2 (p : Int × Int) : List Int := [p.1, p.2]
theorem pl2_inj {p q : Int × Int} (h : pl2 p = pl2 q) : p = q := by
  obtain ⟨a, b⟩ := p
  obtain ⟨c, d⟩ := q
  simp only [pl2, List.cons.injEq, and_true] at h
  exact Prod.ext h.1 h.2
/-- the pairs of a list, as the library's rules name them -/
theorem rp_pairs {K : PySem.W.Frag} {C : Addr} {H : Hp} : ∀ {vs : List V} {ps : List (Int × Int)}, RpAll K C H vs (dPrs ps) →
    ∃ ks : List (Addr × List Int), vs = ks.map (fun p => V.ref p.1) ∧ ks.map (·.2) = ps.map pl2 ∧ ∀ p ∈ ks, SqT K H p.1 (p.2.map V.int)
  | _, [], .nil => ⟨[], rfl, rfl, fun _ h => nomatch h⟩
  | _, p :: ps, .cons h t => by
    obtain ⟨ks, e1, e2, e3⟩ := rp_pairs t
    cases h with
    | tup h1 h2 =>
      rename_i a _
      cases h2 with
      | cons r1 t1 =>
        cases t1 with
        | cons r2 t2 =>
          cases t2
          cases r1
          cases r2
          refine ⟨(a, pl2 p) :: ks, by rw [e1]; rfl, by rw [List.map_cons, e2]; rfl, fun q hq => ?_⟩
          rcases List.mem_cons.mp hq with e | hq
          · subst e; exact h1
          · exact e3 q hq
theorem pairs_rp {K : PySem.W.Frag} {C : Addr} {H : Hp} : ∀ {ks : List (Addr × List Int)} {ps : List (Int × Int)}, ks.map (·.2) = ps.map pl2 → (∀ p ∈ ks, SqT K H p.1 (p.2.map V.int)) → RpAll K C H (ks.map fun p => V.ref p.1) (dPrs ps)
  | [], [], _, _ => .nil
  | [], _ :: _, e, _ => by cases e
  | _ :: _, [], e, _ => by cases e
  | k :: ks, p :: ps, e, h => by
    rw [List.map_cons, List.map_cons] at e
    injection e with e1 e2
    refine .cons ?_ (pairs_rp e2 fun q hq => h q (List.mem_cons_of_mem _ hq))
    have h1 := h k List.mem_cons_self
    rw [show k.2 = pl2 p from e1] at h1
    exact .tup h1 (.cons (.int _) (.cons (.int _) .nil))
theorem of_pl2 : ∀ {l : List (List Int)} {ps : List (Int × Int)}, (∀ x ∈ l, x ∈ ps.map pl2) → ∃ qs : List (Int × Int), l = qs.map pl2 ∧ ∀ q ∈ qs, q ∈ ps
  | [], _, _ => ⟨[], rfl, fun _ h => nomatch h⟩
  | x :: l, ps, h => by
    obtain ⟨qs, e, k⟩ := of_pl2 (l := l) fun y hy => h y (List.mem_cons_of_mem _ hy)
    obtain ⟨q, hq, eq⟩ := List.mem_map.mp (h x List.mem_cons_self)
    refine ⟨q :: qs, by rw [List.map_cons, e, eq], fun y hy => ?_⟩
    rcases List.mem_cons.mp hy with z | hy
    · subst z; exact hq
    · exact k y hy
section
variable {X : Cx} {B : Bs} {ss : List SD} {e a b c : Expr} {pos p p2 p3 p4 p5 : Pos}
theorem pn_sortedSet {ps : List (Int × Int)} {q : Pos} (cx : Cxt X) (ha : PLi X B a ss (dPrs ps)) (hz : ps.length < 64) (hb : ∀ u ∈ ps, (0 ≤ u.1 ∧ u.1 < 64) ∧ 0 ≤ u.2 ∧ u.2 < 64) (hm : X.mg "sorted" = none) (hm2 : X.mg "set" = none)
    (hv : bootBuiltins "sorted" = some (.builtin "sorted") := by decide +kernel) (hv2 : bootBuiltins "set" = some (.type "set") := by decide +kernel) (hg : Gl X "sorted" := by rfl) (hg2 : Gl X "set" := by rfl)
    (na : NSt X a := by intro _; rfl) (na2 : NSt X (.Call (.Name "set" p2) [a] [] q) := by intro _; rfl) : PN X B (.Call (.Name "sorted" p) [.Call (.Name "set" p2) [a] [] q] [] pos) ss (dPrs (sdedup ps)) := fun σ F H s Q k => by
  have hset : PE X (.Call (.Name "set" p2) [a] [] q) (tCB (rSetOfT X.K X.prog X.w) (tCons (tSem X a) tNil)) :=
    pe_callTy (cr_setOfT cx.calm (by have := cx.units; omega)) hg2 hm2 hv2 (pa_cons pe_sem pa_nil (na [])) (by decide) (by decide) (na []) rfl
  refine sem_of (pe_callB (cr_sortedT cx.calm) hg hm hv (pa_cons hset pa_nil (na2 [])) (by decide) (by decide) (na2 []) rfl) (ha σ F H s _ fun l vs F1 H1 g1 sq r1 => ?_)
  obtain ⟨ks, e1, e2, e3⟩ := rp_pairs (r1.mono g1.fh)
  obtain ⟨ks', e1', e2', e3'⟩ := rp_pairs r1
  have hkk : ks = ks' := by
    have h1 : ks.map (fun p => V.ref p.1) = ks'.map (fun p => V.ref p.1) := e1.symm.trans e1'
    have h2 : ks.map (·.2) = ks'.map (·.2) := e2.trans e2'.symm
    clear e1 e2 e3 e1' e2' e3'
    induction ks generalizing ks' with
    | nil => cases ks' with
      | nil => rfl
      | cons _ _ => cases h1
    | cons x r ih => cases ks' with
      | nil => cases h1
      | cons y t =>
        rw [List.map_cons, List.map_cons] at h1 h2
        injection h1 with h1 h1'
        injection h2 with h2 h2'
        injection h1 with h1
        rw [ih t h1' h2', Prod.ext h1 h2]
  subst hkk
  have hkl : ks.length = ps.length := by
    have := congrArg List.length e2
    rwa [List.length_map, List.length_map] at this
  have hks : ∀ q ∈ ks, ∃ u ∈ ps, q.2 = pl2 u := fun q hq => by
    have : q.2 ∈ ps.map pl2 := by rw [← e2]; exact List.mem_map_of_mem hq
    obtain ⟨u, hu, e⟩ := List.mem_map.mp this
    exact ⟨u, hu, e.symm⟩
  refine ⟨l, ks, rfl, by rw [← e1]; exact sq, e3, by omega, fun t L ht hL1 hL2 => ?_⟩
  have gt : Grow F1 H1 F1 (upd H1 t (SetTO X.prog X.w t L)) := Grow.newO g1.fh ht
  refine ⟨t, L, 2, 64, rfl, upd_same, fun p hp => Same.sqt gt.hh (e3 p (hL1 p hp)), by decide, fun p hp => ?_, fun L' t' hperm hnd hl64 hpw ht' => ?_⟩
  · obtain ⟨u, hu, e⟩ := hks p (hL1 p hp)
    rw [e]
    obtain ⟨h1, h2⟩ := hb u hu
    refine ⟨rfl, ?_⟩
    intro x hx
    rcases List.mem_cons.mp hx with z | hx
    · subst z; exact h1
    · rcases List.mem_cons.mp hx with z | hx
      · subst z; exact h2
      · cases hx
  · have hL'ks : ∀ p ∈ L', p ∈ ks := fun p hp => hL1 p (hperm.mem_iff.mp hp)
    obtain ⟨qs, eq1, eq2⟩ := of_pl2 (l := L'.map (·.2)) (ps := ps) fun x hx => by
      obtain ⟨p, hp, e⟩ := List.mem_map.mp hx
      obtain ⟨u, hu, e'⟩ := hks p (hL'ks p hp)
      rw [← e, e']; exact List.mem_map_of_mem hu
    have hqs : qs = sdedup ps := by
      refine sdedup_is ?_ fun x => ⟨fun hx => eq2 x hx, fun hx => ?_⟩
      · have nd2 : (qs.map pl2).Nodup := eq1 ▸ hnd
        have pw2 : (L'.map (·.2)).Pairwise (fun q r => TS.code 64 q ≤ TS.code 64 r) := List.pairwise_map.mpr hpw
        rw [eq1] at pw2
        have both := (List.pairwise_map.mp pw2).and (List.pairwise_map.mp nd2)
        refine List.Pairwise.imp_of_mem (fun {a b} ha hb' h => ?_) both
        have b1 := hb a (eq2 a ha)
        have b2 := hb b (eq2 b hb')
        exact pair_lt h.1 h.2 b1.1 b1.2 b2.1 b2.2
      · have hx' : pl2 x ∈ ks.map (·.2) := by rw [e2]; exact List.mem_map_of_mem hx
        obtain ⟨p, hp, e⟩ := List.mem_map.mp hx'
        have h3 := hL2 p hp
        obtain ⟨p', hp', e'⟩ := List.mem_map.mp h3
        have h4 : p'.2 ∈ L'.map (·.2) := List.mem_map_of_mem (hperm.mem_iff.mpr hp')
        rw [e', e, eq1] at h4
        obtain ⟨y, hy, ey⟩ := List.mem_map.mp h4
        rw [← pl2_inj ey]; exact hy
    subst hqs
    exact k t' _ F1 _ ((g1.trans gt).trans (Grow.newO gt.fh ht')) (g1.hh.free (gt.hh.free ht')) (g1.fh.free (gt.hh.free ht')) upd_same (pairs_rp eq1 fun p hp => e3' p (hL'ks p hp))
end
end G

namespace G
open PySem L2
/-! ### defs whose arguments are borrowed -/
inductive ArgsOk (K : PySem.W.Frag) (C : Addr) (F H : Hp) : List V → List SD → Prop
  | nil : ArgsOk K C F H [] []
  | dat {v : V} {vs : List V} {d : PyData} {ss : List SD} : Rp K C F v d → ArgsOk K C F H vs ss → ArgsOk K C F H (v :: vs) (.dat d :: ss)
  | bor {v : V} {vs : List V} {d : PyData} {ss : List SD} : Rp K C H v d → ArgsOk K C F H vs ss → ArgsOk K C F H (v :: vs) (.bor d :: ss)
theorem ArgsOk.length {K : PySem.W.Frag} {C : Addr} {F H : Hp} {vs : List V} {ss : List SD} (h : ArgsOk K C F H vs ss) : vs.length = ss.length := by
  induction h with
  | nil => rfl
  | dat _ _ ih => exact congrArg (· + 1) ih
  | bor _ _ ih => exact congrArg (· + 1) ih
theorem ArgsOk.noOwn {K : PySem.W.Frag} {C : Addr} {F H : Hp} {vs : List V} {ss : List SD} (h : ArgsOk K C F H vs ss) : ∀ (i : Nat) (ds : List PyData), ss[i]? ≠ some (.own ds) := by
  induction h with
  | nil => intro i ds e; simp at e
  | dat _ _ ih =>
    intro i ds e
    cases i with
    | zero => simp at e
    | succ i => exact ih i ds (by simpa using e)
  | bor _ _ ih =>
    intro i ds e
    cases i with
    | zero => simp at e
    | succ i => exact ih i ds (by simpa using e)
theorem ArgsOk.get {K : PySem.W.Frag} {C : Addr} {F H : Hp} {vs : List V} {ss : List SD} (h : ArgsOk K C F H vs ss) : ∀ (i : Nat) (sd : SD), ss[i]? = some sd → ∃ v, vs[i]? = some v ∧ SlotOk K ⟨C, F, H, F⟩ F H sd (some (some v)) := by
  induction h with
  | nil => intro i sd e; simp at e
  | @dat v vs d ss r _ ih =>
    intro i sd e
    cases i with
    | zero => cases Option.some.inj (by simpa using e); exact ⟨v, rfl, v, rfl, r⟩
    | succ i =>
      obtain ⟨v, h1, h2⟩ := ih i sd (by simpa using e)
      exact ⟨v, by simpa using h1, h2⟩
  | @bor v vs d ss r _ ih =>
    intro i sd e
    cases i with
    | zero => cases Option.some.inj (by simpa using e); exact ⟨v, rfl, v, rfl, r⟩
    | succ i =>
      obtain ⟨v, h1, h2⟩ := ih i sd (by simpa using e)
      exact ⟨v, by simpa using h1, h2⟩
def spG {α : Type} (K : PySem.W.Frag) (C : Addr) (args : α → List SD) (pre : α → Prop) (out : α → Out) : Sp := fun vs H Q E =>
  ∃ (x : α) (F : Hp), pre x ∧ Same F H ∧ ArgsOk K C F H vs (args x) ∧ OutK K C F H Q E (out x)
theorem sat_startG {K : PySem.W.Frag} {C : Addr} {F H : Hp} {vs : List V} {as : List SD} {N : List Str} (hf : Same F H) (r : ArgsOk K C F H vs as) (hl : as.length ≤ N.length) :
    Sat K ⟨C, F, H, F⟩ (as ++ List.replicate (N.length - as.length) SD.un) (L2.start N vs) F H where
  g := Grow.refl hf
  pin := Same.refl _
  len := by
    unfold L2.start
    rw [List.length_append, List.length_append, List.length_map, List.length_replicate, List.length_replicate, r.length]
  slot := fun i sd e => by
    by_cases hi : i < as.length
    · rw [List.getElem?_append_left hi] at e
      obtain ⟨v, hv, rv⟩ := r.get i sd e
      rw [start_get hv]
      exact rv
    · rw [List.getElem?_append_right (by omega), List.getElem?_replicate] at e
      split at e
      · cases e; trivial
      · cases e
  ne := fun i j xs ys hij e1 e2 => by
    exfalso
    by_cases hi : i < as.length
    · rw [List.getElem?_append_left hi] at e1
      exact r.noOwn i xs e1
    · rw [List.getElem?_append_right (by omega), List.getElem?_replicate] at e1
      split at e1
      · cases e1
      · cases e1
section
variable {P : Program} {w : World} {K : PySem.W.Frag} {mg : Str → Option Value} {base : Heap}
theorem ok_fnG {x qual : Str} {st : Stmt} {f : Addr} {fd : FuncData} {N ps : List Str} {k : Nat} {C : Addr} {α : Type} {args : α → List SD} {pre : α → Prop} {out : α → Out} (F : L2.Fun K x qual st f fd) (S : FnScope N ps (defScope st)) (hl : ∀ a, (args a).length = ps.length)
    (body : ∀ (cdv : Value) (A : Around) (outer : List Env) (s : Shared) (H F0 : Hp) (u : α) (Q : VK) (E : XK) (X : Cx) (hX : X = cxOf (L2.CX P w) P w K mg base N qual (defScope st) f cdv A outer s H E), Cxt X → Room k X.A → Takes X (dW E) → pre u → OutK K C F0 H Q E (out u) →
      Go X ⟨C, F0, H, F0⟩ (defBody st) (args u ++ List.replicate (N.length - (args u).length) SD.un) (dE Q)) :
    FnOk P w K mg base (L2.CX P w) (k + 1) f fd ps (spG K C args pre out) := by
  have hNl : ps.length ≤ N.length := by have := congrArg List.length S.pre; rw [List.length_take] at this; omega
  refine F.okX S (fun vs H Q E h => ?_) (fun cdv A outer s H vs Q E hr h => ?_)
  · obtain ⟨u, F0, _, _, r, _⟩ := h
    rw [r.length, hl]
  · obtain ⟨u, F0, hp, hf, r, ho⟩ := h
    refine ⟨_, pss_sem, ?_⟩
    have cx : Cxt (cxOf (L2.CX P w) P w K mg base N qual (defScope st) f cdv A outer s H E) := ⟨rfl, S.nd, passes_of rfl, by have := hr.un; show (A.deeper _).units + 65 < cLine; omega⟩
    exact body cdv A outer s H F0 u Q E _ rfl cx hr (takes_of rfl rfl rfl rfl) hp ho _ F0 H (sat_startG hf r (by rw [hl]; exact hNl))
end
section
variable {X : Cx} {B : Bs} {ss : List SD} {e a b c : Expr} {es : List Expr} {pos p p2 p3 p4 : Pos} {d x y z : PyData} {ds ds' : List PyData} {rest body orelse : List Stmt} {st : Stmt} {D : Ends}
  {α : Type} {args : α → List SD} {pre : α → Prop} {out : α → Out} {fn : Str} {k : Nat}
def PGa (X : Cx) (B : Bs) (es : List Expr) (ss : List SD) (as : List SD) : Prop := ∀ (σ : St) (F H : Hp), Sat X.K B ss σ F H → ∀ Q : List V → Hp → Prop, (∀ vs F' H', Grow F H F' H' → ArgsOk X.K B.C F' H' vs as → Q vs H') → tSemA X es σ H Q
theorem ArgsOk.mono {K : PySem.W.Frag} {C : Addr} {F H F' H' : Hp} {vs : List V} {as : List SD} (h : ArgsOk K C F H vs as) (g : Grow F H F' H') : ArgsOk K C F' H' vs as := by
  induction h with
  | nil => exact .nil
  | dat r _ ih => exact .dat (r.mono g.ff) ih
  | bor r _ ih => exact .bor (r.mono g.hh) ih
theorem pga_nil : PGa X B [] ss [] := fun σ F H s Q q => semA_of pa_nil (q [] F H (Grow.refl s.fh) .nil)
theorem pga_dat {as : List SD} (h : PD X B e ss d) (t : PGa X B es ss as) (hn : NSt X e := by intro _; rfl) : PGa X B (e :: es) ss (.dat d :: as) := fun σ F H s Q q =>
  semA_of (pa_cons pe_sem pa_sem (hn es)) (h σ F H s _ fun v F1 H1 g1 r1 => t σ F1 H1 (s.grow g1) _ fun vs F2 H2 g2 r2 => q (v :: vs) F2 H2 (g1.trans g2) (.dat (r1.mono g2.ff) r2))
theorem pga_bor {as : List SD} (h : PB X B e ss d) (t : PGa X B es ss as) (hn : NSt X e := by intro _; rfl) : PGa X B (e :: es) ss (.bor d :: as) := fun σ F H s Q q =>
  semA_of (pa_cons pe_sem pa_sem (hn es)) (h σ F H s _ fun v F1 H1 g1 r1 => t σ F1 H1 (s.grow g1) _ fun vs F2 H2 g2 r2 => q (v :: vs) F2 H2 (g1.trans g2) (.bor (r1.mono g2.hh) r2))
theorem pd_callG (cf : Cal X.prog X.w X.K X.mg X.base fn k (spG X.K B.C args pre out)) (hr : Room k X.A) (u : α) (ha : PGa X B (e :: es) ss (args u)) (ho : out u = .val d) (hp : pre u)  (hg : Gl X fn := by rfl)
    (hdb : (fn == ("__debug__" : Str)) = false := by decide) (he : starEach (e :: es) X.env = (false, eval e X.env) :: starEach es X.env := by rfl) (hpl : (backTo pos (starEach es X.env)).any (·.1) = false := by rfl) :
    PD X B (.Call (.Name fn p) (e :: es) [] pos) ss d := fun σ F H s Q q => by
  obtain ⟨f, fd, ps, F0, hm, hk, hb⟩ := cf
  refine sem_of (pe_call (dvs := []) (ds := []) F0 hr hg hm hk hb .nil passL pa_sem hdb he hpl) (ha σ F H s _ fun vs F1 H1 g r => ?_)
  refine ⟨u, F1, hp, g.fh, by rw [List.append_nil]; exact r, ?_⟩
  rw [ho]
  exact fun v F2 H2 g2 r2 => q v F2 H2 (g.trans g2) r2
theorem px_callG {W : WX} {cc : Addr} (tk : Takes X W) (cf : Cal X.prog X.w X.K X.mg X.base fn k (spG X.K B.C args pre out)) (hr : Room k X.A) (u : α) (ha : PGa X B (e :: es) ss (args u)) (ho : out u = .exc cc) (hp : pre u) (hg : Gl X fn := by rfl)
    (hdb : (fn == ("__debug__" : Str)) = false := by decide) (he : starEach (e :: es) X.env = (false, eval e X.env) :: starEach es X.env := by rfl) (hpl : (backTo pos (starEach es X.env)).any (·.1) = false := by rfl) :
    PX X B W (.Call (.Name fn p) (e :: es) [] pos) ss cc := fun σ F H s hW Q => by
  obtain ⟨f, fd, ps, F0, hm, hk, hb⟩ := cf
  refine sem_of (pe_callS (E := WE W) F0 hr hg hm hk hb (fun σ => passAt tk σ) pa_sem hdb he hpl) (ha σ F H s _ fun vs F1 H1 g r => ?_)
  refine ⟨u, F1, hp, g.fh, r, ?_⟩
  rw [ho]
  exact fun H' h => hW H' (g.hh.trans h)

/-! ### a floor is made -/
/-- the numbers, the bans: is it a floor -/
def okPair (u : Int × Int) : Bool := (decide (0 ≤ u.1) && decide (u.1 ≤ 9)) && (decide (0 ≤ u.2) && decide (u.2 ≤ 9)) && decide (u.1 ≠ u.2)
def bansOk (bs : List (Int × Int)) : Bool := decide (bs.length ≤ 20) && bs.all okPair
def numsOk (m h t : Int) : Bool := (decide (2 ≤ m) && decide (m ≤ 4)) && (decide (1 ≤ h) && decide (h ≤ 6)) && (decide (1 ≤ t) && decide (t ≤ 3))
def floorOk (f : FL) : Bool := numsOk f.1 f.2.1 f.2.2.1 && bansOk f.2.2.2
/-- the floor as it holds its bans -/
def normF (f : FL) : FL := (f.1, f.2.1, f.2.2.1, sdedup f.2.2.2)
/-- __init__ of a new floor at p: from the heap H1 ahead of it -/
def spInit (K : PySem.W.Frag) (C cNF : Addr) : Sp := fun vs H Q E => ∃ (f : FL) (p dx : Addr) (v : V) (F H1 : Hp), vs = [.ref p, .int f.1, .int f.2.1, .int f.2.2.1, v] ∧ H = upd (upd H1 dx (.own p)) p (.ins C dx []) ∧ H1 p = none ∧ H1 dx = none ∧ dx ≠ p ∧ Same F H1 ∧
  Rp K C H1 v (.list (dPrs f.2.2.2)) ∧ (floorOk f = true → ∀ F' H', Grow F H1 F' H' → Rp K C F' (.ref p) (dFl (normF f)) → Q .non H') ∧ (floorOk f = false → ∀ H', Same H1 H' → E (.ref cNF) none H')
/-- the class can be made by a call -/
def CalI (P : Program) (w : World) (K : PySem.W.Frag) (mg : Str → Option Value) (base : Heap) (x : Str) (k : Nat) (sp : Sp) (C : Addr) : Prop :=
  ∃ (f : Addr) (fd : FuncData) (ps : List Str), Mk K C f ∧ FnOk P w K mg base (L2.CX P w) k f fd ps sp ∧ mg x = some (.ref C) ∧ Binds K fd ps []
theorem run_makeS {CX : CXT} {C f : Addr} {fd : FuncData} {ps : List Str} {sp : Sp} {E : St → XK} {pins : List (Addr × Obj)} {σ : St} {H : Hp} {s : Shared} {Q : VK} {us : List Value} {vs : List V} (M : Mk X.K C f) (F : FnOk X.prog X.w X.K X.mg X.base CX k f fd ps sp) (hr : Room (k + 1) X.A) (hb : Binds X.K fd ps [])
    (hx : PassesAt CX X σ (E σ)) (I : Inv X pins σ H s) (r : Vals vs us)
    (h : ∀ x dx, H x = none → H dx = none → dx ≠ x → sp (.ref x :: vs) (upd (upd H dx (.own x)) x (.ins C dx [])) (fun v H2 => v = .non ∧ Q (.ref x) H2) (E σ)) :
    wpAny (model X.prog X.w) X.A (call (.ref C) us) (EP X pins σ Q) X.xe s := by
  have hq := h (s.heap.objs.size + 1) s.heap.objs.size (I.hok.fresh (Nat.le_succ _)) (I.hok.fresh (Nat.le_refl _)) (Nat.ne_of_lt (Nat.lt_succ_self _))
  have I2 := Inv.made (C := C) I
  have r2 : Vals (V.ref (s.heap.objs.size + 1) :: vs) (Value.ref (s.heap.objs.size + 1) :: us) := .cons rfl r
  have hl : (Value.ref (s.heap.objs.size + 1) :: us).length = ps.length := by
    have e := r2.length
    rw [F.len _ _ _ _ hq] at e
    exact e.symm
  have b := hb _ (Value.ref (s.heap.objs.size + 1) :: us) I2.kIn (by rw [List.append_nil]; exact hl)
  rw [List.append_nil] at b
  refine wpAny_call (make_map (f := f) I.kIn M.makes M.init (beq_iff_eq.mp M.fn) (codeAny_mono (F.run _ X.stack _ _ ⟨Value.ref (s.heap.objs.size + 1) :: us, []⟩ (Value.ref (s.heap.objs.size + 1) :: us) _ _ (E σ) (hr.make C us [])
    (I2.env0.make C us []) b r2 hq) fun r s' hq' => ?_))
  cases r with
  | error e => exact hx pins _ _ e s' I2 hq'
  | ok fl =>
    cases fl with
    | ret u =>
      obtain ⟨v, H', I3, rv, ev, q3⟩ := I2.after hq'
      subst ev
      exact ⟨rv, ⟨V.ref (s.heap.objs.size + 1), H', I3, rfl, q3⟩⟩
    | next => exact False.elim hq'
    | brk => exact False.elim hq'
    | cont => exact False.elim hq'
def tMakeS (C : Addr) (sp : Sp) (E : St → XK) (t : TA) : TE := fun σ H Q => t σ H fun vs H1 => ∀ x dx, H1 x = none → H1 dx = none → dx ≠ x →
  sp (.ref x :: vs) (upd (upd H1 dx (.own x)) x (.ins C dx [])) (fun v H2 => v = .non ∧ Q (.ref x) H2) (E σ)
theorem pe_makeS {CX : CXT} {C f : Addr} {fd : FuncData} {ps : List Str} {sp : Sp} {E : St → XK} {t : TA} (M : Mk X.K C f) (F : FnOk X.prog X.w X.K X.mg X.base CX k f fd ps sp) (hr : Room (k + 1) X.A) (hg : Gl X fn) (hm : X.mg fn = some (.ref C)) (hb : Binds X.K fd ps []) (hx : ∀ σ, PassesAt CX X σ (E σ))
    (ha : PA X (e :: es) t) (hdb : (fn == ("__debug__" : Str)) = false := by decide) (he : starEach (e :: es) X.env = (false, eval e X.env) :: starEach es X.env := by rfl) (hpl : (backTo pos (starEach es X.env)).any (·.1) = false := by rfl) :
    PE X (.Call (.Name fn p) (e :: es) [] pos) (tMakeS C sp E t) := by
  refine ⟨fun pins s σ H Q I h => ?_⟩
  refine wpAny_Call_Name_kw (ld_glob I hg hm ?_ hdb)
  refine PySem.W.callWith_K (h₀ := X.base) I.ok.mod.kin M.kp (thn (ha.run pos pins s σ H _ I h) fun us s1 ⟨vs, H1, I1, r, q⟩ => ⟨I1.kIn, ?_⟩) he hpl
  exact run_makeS M F hr hb (hx σ) I1 r q
theorem args5 {K : PySem.W.Frag} {C : Addr} {F H : Hp} {f : FL} {vs : List V} (r : ArgsOk K C F H vs [.dat (.int f.1), .dat (.int f.2.1), .dat (.int f.2.2.1), .bor (.list (dPrs f.2.2.2))]) : ∃ v, vs = [.int f.1, .int f.2.1, .int f.2.2.1, v] ∧ Rp K C H v (.list (dPrs f.2.2.2)) := by
  cases r with
  | dat r1 t1 => cases t1 with
    | dat r2 t2 => cases t2 with
      | dat r3 t3 => cases t3 with
        | bor r4 t4 =>
          cases t4
          cases r1; cases r2; cases r3
          exact ⟨_, rfl, r4⟩
/-- Floor(a, b, c, bans) -/
theorem pd_make {cNF : Addr} (cf : CalI X.prog X.w X.K X.mg X.base fn k (spInit X.K B.C cNF) B.C) (hr : Room (k + 1) X.A) (f : FL) (ha : PGa X B (e :: es) ss [.dat (.int f.1), .dat (.int f.2.1), .dat (.int f.2.2.1), .bor (.list (dPrs f.2.2.2))]) (ho : floorOk f = true) (hg : Gl X fn := by rfl)
    (hdb : (fn == ("__debug__" : Str)) = false := by decide) (he : starEach (e :: es) X.env = (false, eval e X.env) :: starEach es X.env := by rfl) (hpl : (backTo pos (starEach es X.env)).any (·.1) = false := by rfl) :
    PD X B (.Call (.Name fn p) (e :: es) [] pos) ss (dFl (normF f)) := fun σ F H s Q q => by
  obtain ⟨f0, fd, ps, M, F0, hm, hb⟩ := cf
  refine sem_of (pe_make (dvs := []) (ds := []) (E := E0) M F0 hr hg hm hb .nil passL pa_sem hdb he hpl) (ha σ F H s _ fun vs F1 H1 g r => ?_)
  obtain ⟨v, rfl, r4⟩ := args5 r
  intro x dx hx hdx hne
  refine ⟨f, x, dx, v, F1, H1, rfl, rfl, hx, hdx, hne, g.fh, r4, fun _ F2 H2 g2 r2 => ⟨rfl, q _ F2 H2 (g.trans g2) r2⟩, fun z => by rw [ho] at z; cases z⟩
theorem px_make {W : WX} {cNF : Addr} (tk : Takes X W) (cf : CalI X.prog X.w X.K X.mg X.base fn k (spInit X.K B.C cNF) B.C) (hr : Room (k + 1) X.A) (f : FL) (ha : PGa X B (e :: es) ss [.dat (.int f.1), .dat (.int f.2.1), .dat (.int f.2.2.1), .bor (.list (dPrs f.2.2.2))]) (ho : floorOk f = false) (hg : Gl X fn := by rfl)
    (hdb : (fn == ("__debug__" : Str)) = false := by decide) (he : starEach (e :: es) X.env = (false, eval e X.env) :: starEach es X.env := by rfl) (hpl : (backTo pos (starEach es X.env)).any (·.1) = false := by rfl) :
    PX X B W (.Call (.Name fn p) (e :: es) [] pos) ss cNF := fun σ F H s hW Q => by
  obtain ⟨f0, fd, ps, M, F0, hm, hb⟩ := cf
  refine sem_of (pe_makeS (E := WE W) M F0 hr hg hm hb (fun σ => passAt tk σ) pa_sem hdb he hpl) (ha σ F H s _ fun vs F1 H1 g r => ?_)
  obtain ⟨v, rfl, r4⟩ := args5 r
  intro x dx hx hdx hne
  exact ⟨f, x, dx, v, F1, H1, rfl, rfl, hx, hdx, hne, g.fh, r4, fun z => (by rw [ho] at z; cases z), fun _ H2 h2 => hW H2 (g.hh.trans h2)⟩
end
end G

namespace G
open PySem L2
section
variable {X : Cx} {B : Bs} {ss : List SD} {e a b c : Expr} {es : List Expr} {pos p p2 p3 p4 p5 : Pos} {d x y z : PyData} {ds ds' : List PyData} {rest body orelse : List Stmt} {st : Stmt} {D : Ends}
/-- [e for y in range(a)] -/
theorem pl_lcR {g : Nat → PyData} {n : Int} (j : Nat) {y : Str} {scope : Scope} (cx : Cxt X) (he : PD X B a ss (.int n)) (hn : 0 ≤ n ∧ n < 1000000)
    (hel : ∀ (i : Nat), (i : Int) < n → ∀ (s : Shared) (H' : Hp) (C : Addr) (cl : List (Str × Addr)) (fp : List Addr), PD (Blk X scope s H' C cl fp) B e (ss.set j (.dat (.int (i : Int)))) (g i))
    (hm : X.mg "range" = none) (nr : noRaw ss = true := by rfl) (hg : Gl X "range" := by rfl) (hn1 : NSt X a := by intro _; rfl)
    (hok : BlkOk X.N X.env.scope scope [(y, j)] := by exact blkOk_by (by kernel_rfl))
    (hpg : X.N.Nodup → ∀ (s : Shared) (H' : Hp) (C : Addr) (cl : List (Str × Addr)) (fp : List Addr), PG (Blk X scope s H' C cl fp) (.Name y p) (gName j) := by intro hnd _ _ _ _ _; exact pg_name hnd (by rfl) (Or.inl rfl))
    (hs : ∀ x, foldedSetIterable (.Call (.Name "range" p2) [a] [] p3) X.env x = pure x := by intro _; rfl) :
    PLc X B (.ListComp e [⟨.Name y p, .Call (.Name "range" p2) [a] [] p3, [], 0⟩] scope pos) ss ((List.range n.toNat).map g) :=
  ⟨_, _, _, _, _, _, _, _, _, _, [(y, j)], rfl, pi_range1 hg hm (pa_cons pe_sem pa_nil (hn1 [])) (hn1 []), hok, hpg cx.nd, fun _ _ _ _ _ => pts_nil, fun s H' C cl fp => (⟨fun pins s1 σ H Q I h => h s H' C cl fp pins s1 I⟩ : PE _ e (tBlk X scope e)), hs, fun σ F H s Q q => he σ F H s _ fun v F1 H1 g1 r1 => by
    cases r1
    have s1 := s.grow g1
    have hbig := sizeLine_eq
    refine ⟨n, rfl, by omega, by omega, fun Dl hD => ?_⟩
    have ap : ∀ (i : Nat) (es : List PyData), ss[i]? = some (.own es) → σ[i]? ≠ some (some (.ref Dl)) := fun i es e1 e2 => by
      obtain ⟨a', ws, ea, _, _, h2, _⟩ := s1.slot i _ e1
      rw [e2] at ea
      injection ea with ea
      injection ea with ea
      injection ea with ea
      subst ea
      rw [hD] at h2; cases h2
    have hF1 : F1 Dl = none := g1.fh.free hD
    have hB0 : B.H0 Dl = none := s1.g.hh.free hD
    have hH : H Dl = none := g1.hh.free hD
    refine lc_range (lo := 0) (n := n.toNat) (fun i H' => ∃ F' acc, Sat X.K B ss σ F' H' ∧ Grow F H F' H' ∧ F' Dl = none ∧ H' Dl = some (.lst acc) ∧ RpAll X.K B.C F' acc ((List.range i).map g))
      ⟨F1, [], s1.upd hB0 hF1 nr ap, g1.trans (Grow.newO g1.fh hD), hF1, upd_same, ?_⟩ ?_ ?_
    · rw [List.range_zero]; exact .nil
    · rintro i H' hi ⟨F', acc, s', g', n', h', r'⟩
      have e0 : (0 : Int) + (i : Int) = (i : Int) := Int.zero_add _
      rw [e0]
      have al : acc.length = i := by rw [r'.length, List.length_map, List.length_range]
      have wset' : ∀ v, (wipe σ (List.map (fun x => x.2) [(y, j)])).set j v = σ.set j v := fun v => by
        show ((wipe σ []).set j none).set j v = _
        rw [List.set_set]; rfl
      unfold gName
      rw [wset']
      have wset2 : wipe (σ.set j (some (V.int (i : Int)))) [j] = wipe σ [j] := by
        show (σ.set j _).set j none = σ.set j none
        rw [List.set_set]
      refine ⟨wset2, ?_⟩
      simp only [tYes, ↓reduceIte]
      intro s5 H5 C5 cl5 fp5
      refine hel i (by omega) s5 H5 C5 cl5 fp5 _ F' H' (s'.set_dat (.int _)) _ fun z F4 H4 g4 r4 => ?_
      have n4 := g4.own _ _ h' n'
      refine ⟨acc, g4.hh _ _ h', by rw [al]; omega, F4, acc ++ [z], (s'.grow g4).upd hB0 n4 nr ap, ?_, n4, upd_same, ?_⟩
      · exact ⟨fun b o e => by rw [upd_ne (ne_of_none e hH)]; exact (g'.trans g4).hh b o e, (g'.trans g4).ff, fun b o e => by rw [upd_ne (ne_of_none e n4)]; exact g4.fh b o e, (g'.trans g4).own⟩
      · rw [List.range_succ, List.map_append]
        exact (r'.mono g4.ff).app (.one r4)
    · rintro H' ⟨F', acc, s', g', n', h', r'⟩
      exact q Dl acc F' H' g' hH n' h' r'⟩
end
/-! ### a list or a tuple -/
/-- a row: a tuple or a list of numbers -/
abbrev dSq (tp : Bool) (r : List Int) : PyData := cond tp (.tuple (r.map .int)) (.list (r.map .int))
abbrev dSqs (tp : Bool) (S : List (List Int)) : PyData := cond tp (.tuple (S.map (dSq tp))) (.list (S.map (dSq tp)))
theorem PD.isq {X : Cx} {B : Bs} {e : Expr} {ss : List SD} {tp : Bool} {r : List Int} (h : PD X B e ss (dSq tp r)) : PIs X B e ss (r.map .int) := by
  cases tp
  · exact PD.itl h
  · exact PD.itt h
theorem PD.isqs {X : Cx} {B : Bs} {e : Expr} {ss : List SD} {tp : Bool} {S : List (List Int)} (h : PD X B e ss (dSqs tp S)) : PIs X B e ss (S.map (dSq tp)) := by
  cases tp
  · exact PD.itl h
  · exact PD.itt h
/-- the law's floor -/
abbrev dF4 (f : FL) : PyData := .tuple [.int f.1, .int f.2.1, .int f.2.2.1, .list (dPrs f.2.2.2)]
def cellAt (ns : List Int) (k : Int) : Int := (ns[k.toNat]?).getD 0
def lawBans (ns : List Int) (first most : Int) (n : Nat) : List (Int × Int) := (List.range n).flatMap fun (k : Nat) =>
  let p := cellAt ns (first + 1 + (k : Int))
  if p % most = p / most % most then [] else [(p % most, p / most % most)]
def lawFl (ns : List Int) (first most : Int) : FL :=
  let c := cellAt ns first
  (2 + c % 3, 1 + c / 3 % 6, 1 + c / 18 % 3, lawBans ns first most (c / 72 % 5).toNat)
theorem lawBans_succ (ns : List Int) (first most : Int) (n : Nat) : lawBans ns first most (n + 1) = lawBans ns first most n ++ (
  let p := cellAt ns (first + 1 + (n : Int))
  if p % most = p / most % most then [] else [(p % most, p / most % most)]) := fm_succ _ _
theorem lawBans_len (ns : List Int) (first most : Int) (n : Nat) : (lawBans ns first most n).length ≤ n := by
  have := fm_le (fun (k : Nat) => (let p := cellAt ns (first + 1 + (k : Int))
    if p % most = p / most % most then [] else [(p % most, p / most % most)] : List (Int × Int))) 1 (fun i => by dsimp only; split <;> simp) n
  unfold lawBans
  omega
theorem lawFl_nums (ns : List Int) (first most : Int) : (2 ≤ (lawFl ns first most).1 ∧ (lawFl ns first most).1 ≤ 4) ∧ (1 ≤ (lawFl ns first most).2.1 ∧ (lawFl ns first most).2.1 ≤ 6) ∧ (1 ≤ (lawFl ns first most).2.2.1 ∧ (lawFl ns first most).2.2.1 ≤ 3) ∧ (lawFl ns first most).2.2.2.length ≤ 4 := by
  have l := lawBans_len ns first most (cellAt ns first / 72 % 5).toNat
  unfold lawFl
  dsimp only
  omega
theorem lawBans_ok {ns : List Int} {first most : Int} {n : Nat} (h1 : 0 < most) (h2 : most ≤ 10) {u : Int × Int} (h : u ∈ lawBans ns first most n) : okPair u = true := by
  unfold lawBans at h
  obtain ⟨k, _, hk⟩ := List.mem_flatMap.mp h
  dsimp only at hk
  split at hk
  · cases hk
  · rename_i hne
    rw [List.mem_singleton] at hk
    subst hk
    have a1 := Int.emod_nonneg (cellAt ns (first + 1 + (k : Int))) (show most ≠ 0 by omega)
    have a2 := Int.emod_lt_of_pos (cellAt ns (first + 1 + (k : Int))) h1
    have b1 := Int.emod_nonneg (cellAt ns (first + 1 + (k : Int)) / most) (show most ≠ 0 by omega)
    have b2 := Int.emod_lt_of_pos (cellAt ns (first + 1 + (k : Int)) / most) h1
    unfold okPair
    simp only [Bool.and_eq_true, decide_eq_true_eq, ne_eq]
    omega
theorem lawFl_ok (ns : List Int) (first : Int) {most : Int} (h1 : 0 < most) (h2 : most ≤ 10) : floorOk (lawFl ns first most) = true := by
  obtain ⟨n1, n2, n3, n4⟩ := lawFl_nums ns first most
  unfold floorOk numsOk bansOk
  rw [decide_eq_true n1.1, decide_eq_true n1.2, decide_eq_true n2.1, decide_eq_true n2.2, decide_eq_true n3.1, decide_eq_true n3.2, decide_eq_true (by omega)]
  have : (lawFl ns first most).2.2.2.all okPair = true := List.all_eq_true.mpr fun u hu => lawBans_ok h1 h2 hu
  rw [this]; rfl
theorem prs_app (q : List (Int × Int)) (x y : Int) : dPrs q ++ [.tuple [.int x, .int y]] = dPrs (q ++ [(x, y)]) := by
  unfold dPrs
  rw [List.map_append]; rfl
theorem rowOk_norm (bs : List (Int × Int)) (r : List Int) : rowOk (sdedup bs) r = rowOk bs r := by
  unfold rowOk
  congr 1
  funext k
  rw [decide_eq_decide.mpr (mem_sdedup _ bs)]
theorem good_norm (f : FL) (S : List (List Int)) : goodF (normF f) S = goodF f S := by
  obtain ⟨m, h, t, bs⟩ := f
  have : stackOk h (sdedup bs) = stackOk h bs := by
    funext r
    unfold stackOk
    rw [rowOk_norm]
  show good m h (sdedup bs) S = good m h bs S
  unfold good
  rw [this]
theorem behind_norm (f : FL) (S : List (List Int)) : liftsOf (normF f) S = liftsOf f S := by
  unfold liftsOf liftsAB topN
  simp only [good_norm]
  rfl
end G

namespace G
open PySem L2
section
variable {X : Cx} {B : Bs} {ss : List SD} {e a b c : Expr} {es : List Expr} {pos p p2 p3 p4 p5 : Pos} {d x y z : PyData} {ds ds' : List PyData} {rest body orelse : List Stmt} {st : Stmt} {D : Ends}
/-- the script, read as a list -/
theorem PD.scl {ns : List Int} (h : PD X B e ss (scr ns)) : PLi X B e ss (ns.map .int) := fun σ F H s Q q => h σ F H s Q fun v F' H' g r => by
  generalize hd : scr ns = dd at r
  cases r with
  | non => cases hd
  | bl => cases hd
  | int => cases hd
  | str => cases hd
  | lst => cases hd
  | tup => cases hd
  | flr => cases hd
  | @scr a ms h1 =>
    have e1 : ns.map PyData.int = ms.map PyData.int := by
      injection hd with h2
      injection h2 with h3 _
      injection h3 with h4 _
      injection h4
    have e2 : ns = ms := by
      have inj : ∀ {l m : List Int}, l.map PyData.int = m.map PyData.int → l = m := by
        intro l
        induction l with
        | nil => intro m q; cases m with
          | nil => rfl
          | cons _ _ => cases q
        | cons i l ih => intro m q; cases m with
          | nil => cases q
          | cons j m =>
            rw [List.map_cons, List.map_cons] at q
            injection q with q1 q2
            injection q1 with q1
            rw [q1, ih q2]
      exact inj e1
    subst e2
    exact q _ _ F' H' g (g.fh.seq h1) (RpAll.ints ns)
/-- for k in range(n - 1, -1, -1) -/
theorem go_rngD {n : Int} (j : Nat) {x : Str} (J : Nat → List SD → Prop) (cx : Cxt X) (he : PDs X B [a, b, c] ss [.int (n - 1), .int (-1), .int (-1)]) (hn : 0 ≤ n ∧ n < 2 ^ 60) (h0 : J 0 ss)
    (hb : ∀ (i : Nat) (ss' : List SD), (i : Int) < n → J i ss' → Go X B body (ss'.set j (.dat (.int (n - 1 - (i : Int))))) (lpE X B (J (i + 1)) rest D))
    (hd : ∀ ss', J n.toNat ss' → Go X B rest ss' D) (hm : X.mg "range" = none) (hg : Gl X "range" := by rfl)
    (hs : starEach [a, b, c] X.env = (false, eval a X.env) :: starEach [b, c] X.env := by rfl) (hpl : (backTo p3 (starEach [b, c] X.env)).any (·.1) = false := by rfl)
    (hps : ∀ wi, PI X (.Name x p) (.Call (.Name "range" p2) [a, b, c] [] p3) wi → PS X (.For (.Name x p) (.Call (.Name "range" p2) [a, b, c] [] p3) body [] pos) (tFor wi (gName j) (tSS X body)) := by intro _ hw; exact ps_for (Cxt.pass (by assumption)) (Cxt.calm (by assumption)) hw (pg_name (Cxt.nd (by assumption)) (by rfl) (by first | exact Or.inl rfl | exact Or.inr rfl)) pss_sem) :
    Go X B (.For (.Name x p) (.Call (.Name "range" p2) [a, b, c] [] p3) body [] pos :: rest) ss D :=
  go_step (hps _ (pi_range3 hg hm pa_sem hs hpl)) fun σ F H s => he σ F H s _ fun vs F1 H1 g r => by
    cases r with
    | cons r1 t1 => cases t1 with
      | cons r2 t2 => cases t2 with
        | cons r3 t3 =>
          cases t3; cases r1; cases r2; cases r3
          have e1 : (n - 1 - (-1) : Int).toNat = n.toNat := by omega
          have rg := RgC.neg (i := n - 1) (j := -1) (by omega) (by omega) (by omega) (by omega)
          rw [e1] at rg
          refine ⟨n - 1, -1, -1, n.toNat, rfl, rg, for_rangeC (lo := n - 1) (c := -1) (n := n.toNat) (fun i => Mid X B (J i)) ⟨F1, ss, h0, s.grow g⟩ (fun i σ' H' hi ⟨F', ss', j', s'⟩ => ?_) fun σ' H' ⟨F', ss', j', s'⟩ => hd ss' j' σ' F' H' s'⟩
          have e0 : n - 1 + ((i : Nat) : Int) * -1 = n - 1 - (i : Int) := by omega
          show tSS X body (lpE X B (J (i + 1)) rest D) (σ'.set j (some (.int (n - 1 + ((i : Nat) : Int) * -1)))) H'
          rw [e0]
          exact hb i ss' (by omega) j' _ F' H' (s'.set_dat (.int _))
end
def rgI (a b : Int) : List Int := (List.range (b - a).toNat).map fun i => a + (i : Nat)
theorem rgD_I (a b : Int) : rgD a b = dIs (rgI a b) := by
  unfold rgD rgI dIs
  rw [List.map_map]; rfl
theorem rgI_len (a b : Int) : (rgI a b).length = (b - a).toNat := by unfold rgI; rw [List.length_map, List.length_range]
/-! ### a lift goes back -/
def backL (l : LF) : LF := (l.2.1, l.1, l.2.2)
theorem set_getD_self {α : Type} (S : List (List α)) {i : Nat} (h : i < S.length) : S.set i (S.getD i []) = S := by
  apply List.ext_getElem?
  intro k
  by_cases e : i = k
  · subst e
    rw [List.getElem?_set_self h, List.getD_eq_getElem?_getD, List.getElem?_eq_getElem h] <;> rfl
  · rw [List.getElem?_set_ne e]
theorem behind_back {S : List (List Int)} {l : LF} (ha : l.1 < S.length) (hb : l.2.1 < S.length) (hab : l.1 ≠ l.2.1) (hk : l.2.2 ≤ (S.getD l.1 []).length) : behindL (behindL S l) (backL l) = S := by
  obtain ⟨a, b, k⟩ := l
  simp only at ha hb hab hk
  have hT : behindL S (a, b, k) = (S.set b (S.getD b [] ++ (S.getD a []).drop ((S.getD a []).length - k))).set a ((S.getD a []).take ((S.getD a []).length - k)) := rfl
  generalize hr : S.getD a [] = r at hT hk
  generalize hq : S.getD b [] = q at hT
  have hTb : (behindL S (a, b, k)).getD b [] = q ++ r.drop (r.length - k) := by
    rw [hT, getD_set_ne hab, getD_set_eq hb]
  have hTa : (behindL S (a, b, k)).getD a [] = r.take (r.length - k) := by
    rw [hT, getD_set_eq (by rw [List.length_set]; exact ha)]
  show (((behindL S (a, b, k)).set a ((behindL S (a, b, k)).getD a [] ++ ((behindL S (a, b, k)).getD b []).drop (((behindL S (a, b, k)).getD b []).length - k))).set b (((behindL S (a, b, k)).getD b []).take (((behindL S (a, b, k)).getD b []).length - k))) = S
  rw [hTa, hTb]
  have e1 : (q ++ r.drop (r.length - k)).length - k = q.length := by
    rw [List.length_append, List.length_drop]; omega
  rw [e1, List.drop_left, List.take_left, List.take_append_drop, hT, List.set_set, List.set_comm _ _ hab, List.set_set, ← hr, ← hq]
  have e2 : (S.set b (S.getD b [])).set a (S.getD a []) = S := by
    rw [set_getD_self S hb, set_getD_self S ha]
  rw [List.set_comm _ _ (Ne.symm hab)] at e2 ⊢
  first
    | exact e2
    | (rw [List.set_comm _ _ hab]; exact e2)
theorem back_in {f : FL} {S : List (List Int)} {l : LF} (h : l ∈ liftsOf f S) (hg : goodF f S = true) : backL l ∈ liftsOf f (behindL S l) ∧ behindL (behindL S l) (backL l) = S ∧ goodF f (behindL S l) = true ∧ (behindL S l).flatten.Perm S.flatten := by
  obtain ⟨h1, h2, h3, h4, h5, h6⟩ := mem_liftsOf.mp h
  have hk : l.2.2 ≤ (S.getD l.1 []).length := Nat.le_trans h5 (Nat.min_le_right _ _)
  have hbk := behind_back h1 h2 h3 hk
  refine ⟨mem_liftsOf.mpr ⟨by rw [behind_length]; exact h2, by rw [behind_length]; exact h1, Ne.symm h3, h4, ?_, by rw [hbk]; exact hg⟩, hbk, h6, behind_perm h1 h2 h3⟩
  have hTb : ((behindL S l).getD l.2.1 []).length = (S.getD l.2.1 []).length + l.2.2 := by
    unfold behindL
    dsimp only
    rw [getD_set_ne h3, getD_set_eq h2, List.length_append, List.length_drop]
    omega
  show l.2.2 ≤ min f.2.2.1.toNat ((behindL S l).getD l.2.1 []).length
  rw [hTb]
  have : l.2.2 ≤ f.2.2.1.toNat := Nat.le_trans h5 (Nat.min_le_left _ _)
  omega
/-! ### the law as the end wants it -/
def spLaw (K : PySem.W.Frag) : Sp := fun vs H Q _ => ∃ (a : Addr) (ns : List Int), vs = [.ref a] ∧ SqL K H a (ns.map V.int) ∧ ns.length ≤ 63 ∧ ∀ H', Q (.bl true) H'
abbrev sp_law (K : PySem.W.Frag) (C : Addr) : Sp := spO K C (fun ns : List Int => [scr ns]) (fun ns => ns.length ≤ 63) (fun _ => .val (.bool true))
theorem law_imp {P : Program} {w : World} {K : PySem.W.Frag} {mg : Str → Option Value} {base : Heap} {CX : CXT} {k : Nat} {f C : Addr} {fd : FuncData} {ps : List Str} (F : FnOk P w K mg base CX k f fd ps (sp_law K C)) : FnOk P w K mg base CX k f fd ps (spLaw K) :=
  F.imp fun vs H Q E ⟨a, ns, hv, hs, hl, hq⟩ => ⟨ns, H, hl, fun _ _ h => h, by rw [hv]; exact .cons (.scr hs) .nil, fun v F' H' _ r => by cases r; exact hq H'⟩
end G

namespace G
open PySem L2
/-! ### a def that is called while an error is held: p is that error -/
abbrev SpE := Addr × Obj → Sp
structure FnE (P : Program) (w : World) (K : PySem.W.Frag) (mg : Str → Option Value) (base : Heap) (k : Nat) (f : Addr) (fd : FuncData) (ps : List Str) (sp : SpE) : Prop where
  ln : ∀ (p : Addr × Obj) (vs : List V) (H : Hp) (Q : VK) (E : XK), sp p vs H Q E → vs.length = ps.length
  go : ∀ (p : Addr × Obj) (A : Around) (outer : List Env) (s : Shared) (H : Hp) (gs : Args) (us : List Value) (vs : List V) (Q : VK) (E : XK), L2H.RoomH k A → L2H.PinOk outer H s p → Env0 P w K mg base A outer s H →
    BindsTo s fd gs (ps.zip us) → Vals vs us → sp p vs H Q E → codeAny (model P w) A (.call (.ref f) gs) (CR (L2.CX P w) outer P w H s Q E) s
section
variable {P : Program} {w : World} {K : PySem.W.Frag} {mg : Str → Option Value} {base : Heap}
theorem fnE_of {x qual : Str} {st : Stmt} {f : Addr} {fd : FuncData} {N ps : List Str} {k : Nat} {sp : SpE} (F : L2.Fun K x qual st f fd) (S : FnScope N ps (defScope st)) (hln : ∀ (p : Addr × Obj) (vs : List V) (H : Hp) (Q : VK) (E : XK), sp p vs H Q E → vs.length = ps.length)
    (body : ∀ (p : Addr × Obj) (cdv : Value) (A : Around) (outer : List Env) (s : Shared) (H : Hp) (vs : List V) (Q : VK) (E : XK) (X : Cx), X = L2H.cxH (L2.CX P w) P w K mg base N qual (defScope st) f cdv A outer s H E p → sp p vs H Q E → tSS X (defBody st) { nx := fun _ H' => Q .non H', rt := Q } (L2.start N vs) H) :
    FnE P w K mg base (k + 1) f fd ps sp := by
  obtain ⟨oc, od, kV, doc, pm, an, cdv, ct, osl, rfl, lk, hcd⟩ := F.ex
  refine ⟨hln, fun p A outer s H gs us vs Q E room pin env bind vals hsp => ?_⟩
  have kin : K.In s.heap := env.mod.kin.keeps fun b o q => (env.bs b o q).1
  have hlim : s.heap.NoLimit := env.mod.nolimit.keeps fun b o q => (env.bs b o q).1
  have kinds : ∀ y ∈ ps.zip us, (defScope st).names.lookup y.1 = some .local ∨ ((defScope st).names.lookup y.1 = some .cell ∧ ((cellsFrom (s.heap.objs.size + 1) (defScope st).names []).lookup y.1).isSome = true) := by
    rintro ⟨m, v⟩ hy
    rcases S.par m (List.of_mem_zip hy).1 with q | q
    · exact Or.inl q
    · exact Or.inr ⟨q, PySem.W.cellsFrom_some _ _ _ (Or.inl q)⟩
  refine codeAny_call_function room.depth (kin _ _ lk) rfl S.co S.gen rfl (PySem.W.codeRec_of kin hcd) (bind _ _ _ _ ?_)
  refine wpAny_newFunctionEnv_cells S.kind kinds fun ev hev s1 c1 => ?_
  subst hev
  refine ⟨hlim.keeps c1.toInCall.keep, codeAny_func ?_⟩
  have J := L2H.inv_startH (CX := L2.CX P w) (E := E) S pin env (hln p vs H Q E hsp) vals c1
  refine wpAny_mono (body p cdv A outer s H vs Q E _ rfl hsp [] s1 J) (fun fl s' hs => ?_) fun _ _ z => z
  cases fl with
  | next =>
    obtain ⟨σ', H', J', q⟩ := hs
    exact ⟨V.non, H', J'.os, J'.bare, J'.base, J'.hok, rfl, q⟩
  | ret u =>
    obtain ⟨v, σ', H', J', rv, q⟩ := hs
    exact ⟨v, H', J'.os, J'.bare, J'.base, J'.hok, rv, q⟩
  | brk => obtain ⟨_, _, _, q⟩ := hs; exact q.elim
  | cont => obtain ⟨_, _, _, q⟩ := hs; exact q.elim
end
section
variable {X : Cx} {B : Bs} {ss : List SD} {e a b c : Expr} {es : List Expr} {pos p p2 p3 p4 p5 : Pos} {d x y z : PyData} {ds ds' : List PyData} {rest body orelse : List Stmt} {st : Stmt} {D : Ends}
/-- the same call, an expression of the suite -/
theorem pe_callE {fn : Str} {k : Nat} {f : Addr} {fd : FuncData} {ps : List Str} {sp : SpE} {t : TA} {q : Addr × Obj} (F : FnE X.prog X.w X.K X.mg X.base k f fd ps sp) (hr : L2H.RoomH k X.A) (hq : q ∈ X.pn) (hg : Gl X fn) (hm : X.mg fn = some (.ref f)) (hk : PySem.W.keepIn X.K (.ref f) = true) (hb : Binds X.K fd ps [])
    (ha : PA X (e :: es) t) (hdb : (fn == ("__debug__" : Str)) = false := by decide) (he : starEach (e :: es) X.env = (false, eval e X.env) :: starEach es X.env := by rfl) (hpl : (backTo pos (starEach es X.env)).any (·.1) = false := by rfl) :
    PE X (.Call (.Name fn p) (e :: es) [] pos) (fun σ H Q => t σ H fun vs H1 => sp q vs H1 Q E0) := by
  refine ⟨fun pins s σ H Q I h => wpAny_Call_Name_kw (ld_glob I hg hm ?_ hdb)⟩
  refine PySem.W.callWith_K (h₀ := X.base) I.ok.mod.kin hk (thn (ha.run pos pins s σ H _ I h) fun us s1 ⟨vs, H1, I1, r, hs⟩ => ⟨I1.kIn, ?_⟩) he hpl
  have hl : us.length = ps.length := by rw [← r.length]; exact F.ln _ _ _ _ _ hs
  have bd := hb s1 us I1.kIn (by rw [List.append_nil]; exact hl)
  rw [List.append_nil] at bd
  obtain ⟨g1, g2, g3, g4, g5⟩ := I1.pin q (List.mem_append_left _ hq)
  have pin : L2H.PinOk X.stack H1 s1 q := ⟨g1, g2, fun z => (List.mem_cons.mp (I1.stkSub q.1 z)).elim g3 g4, g5⟩
  refine wpAny_call (codeAny_mono (F.go q X.A X.stack s1 H1 ⟨us, []⟩ us vs Q E0 hr pin I1.env0 bd r hs) fun r' s' z => ?_)
  cases r' with
  | error u => exact passL pins σ H1 s1 u s' I1 z
  | ok fl =>
    cases fl with
    | ret u => exact I1.after z
    | next => exact z.elim
    | brk => exact z.elim
    | cont => exact z.elim
/-- isinstance of an error at hand -/
theorem call_isP {q : Addr × Obj} {E : Addr} (cE : ExcC X.K E) (hq : q ∈ X.pn) (hz : Zc (.ref E) none q.2) (hf : ∃ us, q.2.data = .fields us) : CallR X (.builtin "isinstance") (rIsE X.K E q.1) := by
  obtain ⟨qa, ⟨oc, od, oda, osl⟩⟩ := q
  rintro pins s σ H xs us Q I r ⟨cl, cv, b, rfl, only, kit, k⟩
  match us, r with
  | [u1, u2], .cons r1 (.cons r2 .nil) =>
    obtain rfl : u1 = Value.ref qa := r1
    obtain rfl := only _ r2
    obtain ⟨here, _⟩ := I.pin _ (List.mem_append_left _ hq)
    obtain ⟨vs, hv⟩ := hf
    obtain ⟨hc, hd⟩ := hz
    dsimp only at hv hc hd
    subst hc hd hv
    have at_ : PySem.W.InstAt s.heap qa ⟨.ref E, none, .fields vs, osl⟩ E none := ⟨here, rfl, rfl, trivial⟩
    exact PySem.W.kia_one (PySem.W.handS_kitx_exc cE.hg cE.hk cE.hs cE.hd cE.ha cE.hn cE.ht cE.hm) I.kIn at_ kit (fun z => nomatch z) fun tk => ⟨.bl b, H, I.kept (t' := tk) fun _ _ z => z, rfl, k⟩
theorem pd_isE {n : Str} {q : Addr × Obj} {E : Addr} {cl : V} {cv : Value} {bb : Bool} (i : Nat) (cE : ExcC X.K E) (hq : q ∈ X.pn) (hz : Zc (.ref E) none q.2) (hf : ∃ us, q.2.data = .fields us) (hs : ss[i]? = some (.val (.ref q.1))) (ht : PE X c (tC cl)) (only : ∀ u, RelV cl u → u = cv) (kit : PySem.W.kitOne X.K (.ref E) cv = some bb)
    (hm : X.mg "isinstance" = none) (hN : X.N[i]? = some n := by rfl) (hv : Vis X.env.scope n := by first | exact Or.inl rfl | exact Or.inr (Or.inl rfl) | exact Or.inr (Or.inr rfl)) (hd : (n == ("__debug__" : Str)) = false := by decide) (hcd : (n == ("__classdict__" : Str)) = false := by decide)
    (hg : Gl X "isinstance" := by rfl) (hb : bootBuiltins "isinstance" = some (.builtin "isinstance") := by decide +kernel) (n1 : NSt X (.Name n p2) := by intro _; rfl) (n2 : NSt X c := by intro _; rfl) (hpl : (backTo pos (starEach [c] X.env)).any (·.1) = false := by rfl) :
    PD X B (.Call (.Name "isinstance" p) [.Name n p2, c] [] pos) ss (.bool bb) := fun σ F H s Q k =>
  sem_of (pe_callB (call_isP cE hq hz hf) hg hm hb (pa_cons (pe_var hN hv hd hcd) (pa_cons ht pa_nil (n2 [])) (n1 [c])) (by decide) (by decide) (n1 [c]) hpl) ⟨.ref q.1, s.slot i _ hs, ⟨cl, cv, bb, rfl, only, kit, k _ F H (Grow.refl s.fh) (.bl bb)⟩⟩
theorem pd_isOwn {n x : Str} {q : Addr × Obj} {E cl : Addr} {bb : Bool} (i : Nat) (cE : ExcC X.K E) (hq : q ∈ X.pn) (hz : Zc (.ref E) none q.2) (hf : ∃ us, q.2.data = .fields us) (hs : ss[i]? = some (.val (.ref q.1))) (hcl : X.mg x = some (.ref cl)) (kit : PySem.W.kitOne X.K (.ref E) (.ref cl) = some bb)
    (hm : X.mg "isinstance" = none) (hN : X.N[i]? = some n := by rfl) (hv : Vis X.env.scope n := by first | exact Or.inl rfl | exact Or.inr (Or.inl rfl) | exact Or.inr (Or.inr rfl)) (hd : (n == ("__debug__" : Str)) = false := by decide) (hcd : (n == ("__classdict__" : Str)) = false := by decide)
    (hg : Gl X "isinstance" := by rfl) (hg2 : Gl X x := by rfl) (hdb : (x == ("__debug__" : Str)) = false := by decide) (n1 : NSt X (.Name n p2) := by intro _; rfl) (n2 : NSt X (.Name x p3) := by intro _; rfl) (hpl : (backTo pos (starEach [.Name x p3] X.env)).any (·.1) = false := by rfl) :
    PD X B (.Call (.Name "isinstance" p) [.Name n p2, .Name x p3] [] pos) ss (.bool bb) :=
  pd_isE (cl := .ref cl) (cv := .ref cl) i cE hq hz hf hs (pe_glob hg2 hcl rfl hdb) (fun _ r => r) kit hm hN hv hd hcd hg (by decide +kernel) n1 n2 hpl
/-- weaker ends -/
theorem ss_mono {l : List Stmt} {D1 D2 : Ends} {σ : St} {H : Hp} (h : tSS X l D1 σ H) (n : ∀ σ' H', D1.nx σ' H' → D2.nx σ' H') (r : ∀ v H', D1.rt v H' → D2.rt v H') (b : ∀ σ' H', D1.bk σ' H' → D2.bk σ' H') (c : ∀ σ' H', D1.ct σ' H' → D2.ct σ' H') : tSS X l D2 σ H := fun pins s I =>
  thn (h pins s I) fun f s1 q => by
    cases f with
    | next => obtain ⟨σ', H', J, z⟩ := q; exact ⟨σ', H', J, n _ _ z⟩
    | brk => obtain ⟨σ', H', J, z⟩ := q; exact ⟨σ', H', J, b _ _ z⟩
    | cont => obtain ⟨σ', H', J, z⟩ := q; exact ⟨σ', H', J, c _ _ z⟩
    | ret u => obtain ⟨v, σ', H', J, rv, z⟩ := q; exact ⟨v, σ', H', J, rv, r _ _ z⟩
theorem Sat.over {K : PySem.W.Frag} {σ : St} {F H H' : Hp} (h : Sat K B ss σ F H) (e : Same H H') : Sat K B ss σ F H' := h.grow ⟨e, Same.refl _, h.fh.trans e, fun _ _ _ n => n⟩
/-- try: body, except x as n: suite; Pc tells the classes that the body may raise -/
theorem go_try {n x : Str} {cc : Addr} {b0 : Stmt} {suite : List Stmt} (i : Nat) (Pc : Addr → Prop) (J Js : List SD → Prop) (cx : Cxt X) (hm : X.mg x = some (.ref cc)) (hpc : ∀ E, Pc E → PySem.W.exmOne X.K (.ref E) (.ref cc) = some true)
    (hb : ∀ (pn : List (Addr × Obj)) (xe : Value → Shared → Prop) (W : WX), Takes (X.tr pn xe) W → (∀ (E : Addr) (σ : St) (F H : Hp), Pc E → Sat X.K B ss σ F H → ∀ H', Same H H' → W (.ref E) none σ H') → Cxt (X.tr pn xe) → Go (X.tr pn xe) B body ss { D with nx := Mid X B J })
    (hsu : ∀ (E a : Addr) (oe : Obj) (pn : List (Addr × Obj)), Pc E → Zc (.ref E) none oe → (∃ us, oe.data = .fields us) → Go (X.suite a ((a, oe) :: pn)) B (b0 :: suite) (ss.set i (.val (.ref a))) { nx := Mid X B Js, rt := fun _ _ => False, bk := fun _ _ => False, ct := fun _ _ => False })
    (hj : ∀ ss', Js ss' → J (ss'.set i .un)) (h3 : ∀ ss', J ss' → Go X B rest ss' D)
    (hi : X.N[i]? = some n := by rfl) (hst : X.stack = X.env :: X.outer := by rfl) (hfr : X.env.frame = some X.env.locals := by rfl) (hln : X.env.kindOf n = some .local := by rfl) (hg : Gl X x := by rfl) (hdb : (x == ("__debug__" : Str)) = false := by decide) :
    Go X B (.Try body [.ExceptHandler (some (.Name x p)) (some n) (b0 :: suite) p2] [] [] p3 :: rest) ss D := by
  refine go_stepC (ps_try_as (c := .ref cc) (i := i) (Wout := fun _ _ _ _ => False)
    (tb := fun W D' σ H => ∀ pn xe, Takes (X.tr pn xe) W → PassesOwn (model X.prog X.w) X.A X.env xe → tSS (X.tr pn xe) body D' σ H)
    (ts := fun a cls dd D' σ H => ∀ oe pn, Zc cls dd oe → (∃ us, oe.data = .fields us) → tSS (X.suite a ((a, oe) :: pn)) (b0 :: suite) D' σ H)
    hst hfr cx.nd hi hln ⟨hg, hdb, Or.inl hm⟩ takes0
    (fun W pn xe tk po => ⟨fun pins s σ H D' I h => h pn xe tk po pins s I⟩)
    (fun a oe cls dd pn hz hf => ⟨fun pins s σ H D' I h => h oe pn hz hf pins s I⟩)) J (fun σ F H s => ?_) h3
  intro pn xe tk po
  refine hb pn xe _ tk (fun E σ' F' H' hE s' H2 e2 => ?_) ⟨cx.calm, cx.nd, po, cx.units⟩ σ F H s
  refine ⟨true, hpc E hE, fun _ a ha oe pn2 hz hf => ?_, fun z => nomatch z⟩
  refine ss_mono (hsu E a oe pn2 hE hz hf _ F' H2 ((s'.over e2).set_val)) (fun σ3 H3 ⟨F3, ss3, j3, s3⟩ => ⟨F3, _, hj _ j3, s3.swap⟩) (fun _ _ z => z.elim) (fun _ _ z => z.elim) fun _ _ z => z.elim
end
/-! ### the law's kinds -/
/-- the eight error classes of the module, told by number -/
structure KindT (mg : Str → Option Value) (c : Nat → Addr) : Prop where
  g0 : mg "NoFloor" = some (.ref (c 0))
  g1 : mg "NoStanding" = some (.ref (c 1))
  g2 : mg "NoLift" = some (.ref (c 2))
  g3 : mg "OtherCrates" = some (.ref (c 3))
  g4 : mg "TooMany" = some (.ref (c 4))
  g5 : mg "NoNames" = some (.ref (c 5))
  g6 : mg "NoOrder" = some (.ref (c 6))
  g7 : mg "BadText" = some (.ref (c 7))
  vE : mg "ValueError" = none
/-- E is the class of number k, and no other's child -/
structure KindOf (K : PySem.W.Frag) (c : Nat → Addr) (k : Nat) (E : Addr) : Prop where
  ex : ExcC K E
  is : ∀ j, j < 8 → PySem.W.kitOne K (.ref E) (.ref (c j)) = some (decide (k = j))
  vE : PySem.W.kitOne K (.ref E) (.type "ValueError") = some true
def oneD (k : Nat) : List PyData := (List.range 8).map (fun j => PyData.bool (decide (k = j))) ++ [.bool true]
def spKind (K : PySem.W.Frag) (C : Addr) (c : Nat → Addr) : SpE := fun p vs H Q E => ∃ (k : Nat) (D : Addr) (F : Hp), vs = [.ref p.1] ∧ Same F H ∧ Zc (.ref D) none p.2 ∧ (∃ us, p.2.data = .fields us) ∧ KindOf K c k D ∧ OutK K C F H Q E (.new (oneD k))
def CalE (P : Program) (w : World) (K : PySem.W.Frag) (mg : Str → Option Value) (base : Heap) (x : Str) (k : Nat) (sp : SpE) : Prop :=
  ∃ (f : Addr) (fd : FuncData) (ps : List Str), FnE P w K mg base k f fd ps sp ∧ mg x = some (.ref f) ∧ PySem.W.keepIn K (.ref f) = true ∧ Binds K fd ps []
theorem calE_mk {P : Program} {w : World} {K : PySem.W.Frag} {mg : Str → Option Value} {base : Heap} {x : Str} {st : Stmt} {f : Addr} {fd : FuncData} {ps : List Str} {k : Nat} {sp : SpE} (F : L2.Fun K x x st f fd) (g : mg x = some (.ref f)) (b : Binds K fd ps []) (h : FnE P w K mg base k f fd ps sp) : CalE P w K mg base x k sp := ⟨f, fd, ps, h, g, F.kp, b⟩
section
variable {X : Cx} {B : Bs} {ss : List SD} {pos p p2 : Pos}
theorem pn_kind {fn n : Str} {k m : Nat} {E : Addr} {c : Nat → Addr} {q : Addr × Obj} (i : Nat) (cf : CalE X.prog X.w X.K X.mg X.base fn k (spKind X.K B.C c)) (hr : L2H.RoomH k X.A) (hq : q ∈ X.pn) (hz : Zc (.ref E) none q.2) (hf : ∃ us, q.2.data = .fields us) (kd : KindOf X.K c m E) (hs : ss[i]? = some (.val (.ref q.1)))
    (hN : X.N[i]? = some n := by rfl) (hv : Vis X.env.scope n := by first | exact Or.inl rfl | exact Or.inr (Or.inl rfl) | exact Or.inr (Or.inr rfl)) (hd : (n == ("__debug__" : Str)) = false := by decide) (hcd : (n == ("__classdict__" : Str)) = false := by decide)
    (hg : Gl X fn := by rfl) (hdb : (fn == ("__debug__" : Str)) = false := by decide) (n1 : NSt X (.Name n p2) := by intro _; rfl) (hpl : (backTo pos (starEach [] X.env)).any (·.1) = false := by rfl) :
    PN X B (.Call (.Name fn p) [.Name n p2] [] pos) ss (oneD m) := fun σ F H s Q h => by
  obtain ⟨f, fd, ps, FE, hm, hk, hb⟩ := cf
  refine sem_of (pe_callE (q := q) FE hr hq hg hm hk hb (pa_cons (pe_var hN hv hd hcd) pa_nil (n1 [])) hdb (n1 []) hpl) ⟨.ref q.1, s.slot i _ hs, m, E, F, rfl, s.fh, hz, hf, kd, ?_⟩
  exact fun l vs F2 H2 g2 nn nf h2 r2 => h l vs F2 H2 g2 nn nf h2 r2
end
end G

namespace G
open PySem L2
/-! ### isinstance of data -/
def tyD : PyData → Option String
  | .none => some "NoneType"
  | .bool _ => some "bool"
  | .int _ => some "int"
  | .str _ => some "str"
  | .list _ => some "list"
  | .tuple _ => some "tuple"
  | _ => none
theorem sqt_ty {K : PySem.W.Frag} {H : Hp} {a : Addr} {xs : List V} (h : SqT K H a xs) : TyX K H (.ref a) (.type "tuple") := by
  rcases h with (h | ⟨o, h⟩) | ⟨o, its, n, h1, h2, _⟩
  · exact .base (.tup h)
  · exact .fTuple h
  · exact .kTuple h1 h2
theorem rp_ty {K : PySem.W.Frag} {C : Addr} {H : Hp} {v : V} {d : PyData} {t : String} (r : Rp K C H v d) (h : tyD d = some t) : TyX K H v (.type t) := by
  cases r with
  | non => cases h; exact .base .non
  | bl b => cases h; exact .base (.bl b)
  | int i => cases h; exact .base (.int i)
  | str x => cases h; exact .base (.str x)
  | lst h1 _ => cases h; exact .base (.lst h1)
  | tup h1 _ => cases h; exact sqt_ty h1
  | flr _ _ _ => cases h
  | scr _ => cases h
section
variable {X : Cx} {B : Bs} {ss : List SD} {e a b c : Expr} {es : List Expr} {pos p p2 p3 p4 p5 : Pos} {d x y z : PyData} {ds ds' : List PyData} {rest body orelse : List Stmt} {st : Stmt} {D : Ends}
theorem pd_isi {n : Str} {t : String} {k : Bool} (T : String) (ha : PB X B e ss d) (hty : tyD d = some t) (hk : kitB t T = some k) (hm : X.mg "isinstance" = none) (hmT : X.mg n = none) (hv : bootBuiltins n = some (.type T) := by decide +kernel) (hg : Gl X "isinstance" := by rfl) (hg2 : Gl X n := by rfl) (hnn : n ≠ "__name__" := by decide) (hdb : (n == ("__debug__" : Str)) = false := by decide)
    (hb : bootBuiltins "isinstance" = some (.builtin "isinstance") := by decide +kernel) (n1 : NSt X e := by intro _; rfl) (n2 : NSt X (.Name n p2) := by intro _; rfl) (hpl : (backTo pos (starEach [.Name n p2] X.env)).any (·.1) = false := by rfl) :
    PD X B (.Call (.Name "isinstance" p) [e, .Name n p2] [] pos) ss (.bool k) := fun σ F H s Q q =>
  sem_of (pe_callB call_isi hg hm hb (pa_cons pe_sem (pa_cons (pe_bltn (v := .ty T) hg2 hmT hv rfl hnn hdb) pa_nil (n2 [])) (n1 [.Name n p2])) (by decide) (by decide) (n1 [.Name n p2]) hpl)
    (ha σ F H s _ fun v F1 H1 g r => ⟨v, .ty T, .type t, .type T, k, rfl, .ty T, rp_ty r hty, kit_ty hk, q _ F1 H1 g (.bl k)⟩)
end
theorem eqv_refl {n : Nat} {d : PyData} (h : Pl n d) : PyData.eqv d d = true := by
  have all : ∀ {n : Nat} {ds : List PyData}, (∀ d ∈ ds, PyData.eqv d d = true) → PyData.eqvAll ds ds = true := by
    intro n ds
    induction ds with
    | nil => intro _; simp [PyData.eqvAll]
    | cons d r ih =>
      intro q
      simp only [PyData.eqvAll, Bool.and_eq_true]
      exact ⟨q d List.mem_cons_self, ih fun e he => q e (List.mem_cons_of_mem _ he)⟩
  induction h with
  | non => simp [PyData.eqv]
  | bl => simp [PyData.eqv]
  | int => simp [PyData.eqv]
  | str _ => simp [PyData.eqv]
  | @lst n ds _ ih => simp only [PyData.eqv]; exact all (n := n) ih
  | @tup n ds _ ih => simp only [PyData.eqv]; exact all (n := n) ih
end G

namespace G
open PySem L2
/-! ### a tuple with a list that may change within -/
def tolP (K : PySem.W.Frag) (C : Addr) (n i j : Nat) (ds : List PyData) (d2 : PyData) : Hp → V → Hp → Hp → Prop := fun H v F' H' =>
  ∃ (t l : Addr) (us vs : List V) (w : V), v = .ref t ∧ SqT K F' t us ∧ us.length = n ∧ us[i]? = some (.ref l) ∧ us[j]? = some w ∧ H l = none ∧ F' l = none ∧ H' l = some (.lst vs) ∧ RpAll K C F' vs ds ∧ Rp K C F' w d2
theorem tolP_grow {K : PySem.W.Frag} {C : Addr} {n i j : Nat} {ds : List PyData} {d2 : PyData} {H0 F H F' H' : Hp} {v : V} (h : tolP K C n i j ds d2 H0 v F H) (g : Grow F H F' H') : tolP K C n i j ds d2 H0 v F' H' := by
  obtain ⟨t, l, us, vs, w, e, h1, hl, h2, h3, h4, h5, h6, h7, h8⟩ := h
  exact ⟨t, l, us, vs, w, e, Same.sqt g.ff h1, hl, h2, h3, h4, g.own l _ h6 h5, g.hh l _ h6, h7.mono g.ff, h8.mono g.ff⟩
theorem tolP_from {K : PySem.W.Frag} {C : Addr} {n i j : Nat} {ds : List PyData} {d2 : PyData} {H0 H1 F' H' : Hp} {v : V} (e : Same H0 H1) (h : tolP K C n i j ds d2 H1 v F' H') : tolP K C n i j ds d2 H0 v F' H' := by
  obtain ⟨t, l, us, vs, w, e1, h1, hl, h2, h3, h4, h⟩ := h
  exact ⟨t, l, us, vs, w, e1, h1, hl, h2, h3, e.free h4, h⟩
def noOwn : List SD → Bool
  | [] => true
  | .own _ :: _ => false
  | _ :: r => noOwn r
theorem noOwn_at : ∀ {ss : List SD} {j : Nat} {es : List PyData}, noOwn ss = true → ss[j]? ≠ some (.own es)
  | [], j, es, _ => by simp
  | x :: r, 0, es, n => fun e => by
    have e' : x = .own es := Option.some.inj (by simpa using e)
    subst e'
    simp [noOwn] at n
  | x :: r, j + 1, es, n => fun e => by
    refine noOwn_at (ss := r) (j := j) (es := es) ?_ (by simpa using e)
    cases x with
    | own ds => simp [noOwn] at n
    | un => exact n
    | dat d => exact n
    | bor d => exact n
    | val v => exact n
    | raw P => exact n
section
variable {X : Cx} {B : Bs} {ss : List SD} {e a b c : Expr} {es : List Expr} {pos p p2 p3 p4 p5 : Pos} {d x y z : PyData} {ds ds' : List PyData} {rest body orelse : List Stmt} {st : Stmt} {D : Ends}
  {α : Type} {args : α → List PyData} {pre : α → Prop} {out : α → Out} {fn : Str} {k : Nat}
def PRw (X : Cx) (B : Bs) (e : Expr) (ss : List SD) (P : Hp → V → Hp → Hp → Prop) : Prop := ∀ (σ : St) (F H : Hp), Sat X.K B ss σ F H → ∀ Q : VK, (∀ v F' H', Grow F H F' H' → P H v F' H' → Q v H') → tSem X e σ H Q
theorem pr_call {P : Hp → V → Hp → Hp → Prop} (cf : Cal X.prog X.w X.K X.mg X.base fn k (spO X.K B.C args pre out)) (hr : Room k X.A) (u : α) (ha : PDs X B (e :: es) ss (args u)) (ho : out u = .raw P) (hp : pre u) (hP : ∀ {H0 H1 F' H' : Hp} {v : V}, Same H0 H1 → P H1 v F' H' → P H0 v F' H') (hg : Gl X fn := by rfl)
    (hdb : (fn == ("__debug__" : Str)) = false := by decide) (he : starEach (e :: es) X.env = (false, eval e X.env) :: starEach es X.env := by rfl) (hpl : (backTo pos (starEach es X.env)).any (·.1) = false := by rfl) :
    PRw X B (.Call (.Name fn p) (e :: es) [] pos) ss P := fun σ F H s Q q => by
  obtain ⟨f, fd, ps, F0, hm, hk, hb⟩ := cf
  refine sem_of (pe_call (dvs := []) (ds := []) F0 hr hg hm hk hb .nil passL pa_sem hdb he hpl) (ha σ F H s _ fun vs F1 H1 g r => ?_)
  refine ⟨u, F1, hp, g.fh, by rw [List.append_nil]; exact r, ?_⟩
  rw [ho]
  exact fun v F2 H2 g2 r2 => q v F2 H2 (g.trans g2) (hP g.hh r2)
/-- x = .. -/
theorem go_asgT {n i' j' : Nat} (i : Nat) {x : Str} (hN : X.N.Nodup) (he : PRw X B e ss (tolP X.K B.C n i' j' ds d)) (h : Go X B rest (ss.set i (.raw fun v F' H' => tolP X.K B.C n i' j' ds d B.H0 v F' H')) D) (hi : X.N[i]? = some x := by rfl) (hx : Loc X.env.scope x := by first | exact Or.inl rfl | exact Or.inr rfl) (hs : swapsWith e (some (.Name x p)) pos.line X.env = pure false := by rfl)
    (hf : X.fn x = true ∨ X.env.scope.names.lookup x = some .local := by first | exact .inl rfl | exact .inr rfl) : Go X B (.Assign [.Name x p] e pos :: rest) ss D :=
  go_step (ps_set hN hi hx pe_sem hs hf) fun σ F H s => he σ F H s _ fun v F1 H1 g r => h _ F1 H1 ((s.grow g).set_raw fun F2 H2 g2 => tolP_grow (tolP_from s.g.hh r) g2)
/-- x[k], the list within -/
theorem pl_tol {n i' j' : Nat} {kk : Int} {x : Str} {jj : Nat} (i : Nat) (hs : ss[i]? = some (.raw fun v F' H' => tolP X.K B.C n i' j' ds d B.H0 v F' H')) (hk : ixN n kk = some i') (hN : X.N[i]? = some x := by rfl) (hv : Vis X.env.scope x := by first | exact Or.inl rfl | exact Or.inr (Or.inl rfl) | exact Or.inr (Or.inr rfl)) (hd : (x == ("__debug__" : Str)) = false := by decide)
    (hcd : (x == ("__classdict__" : Str)) = false := by decide) (hx : PlainIx (.Constant (.int kk) jj p2) := by intro _ _; rfl) : PLi X B (.Subscript (.Name x p) (.Constant (.int kk) jj p2) pos) ss ds := fun σ F H s Q q => by
  obtain ⟨v, ev, hP⟩ := s.slot i _ hs
  obtain ⟨t, l, us, vs, w, rfl, h1, hl, h2, h3, h4, h5, h6, h7, h8⟩ := hP F H (Grow.refl s.fh)
  exact sem_of (pe_ix ix_seq (pe_var hN hv hd hcd) pe_int hx) ⟨.ref t, ev, .inr (.inl ⟨t, us, kk, .ref l, rfl, rfl, Same.sqt s.fh h1, by unfold atI; rw [hl, hk]; exact h2, q l vs F H (Grow.refl s.fh) (SqL.of h6) h7⟩)⟩
theorem pd_tol {n i' j' : Nat} {kk : Int} {x : Str} {jj : Nat} (i : Nat) (hs : ss[i]? = some (.raw fun v F' H' => tolP X.K B.C n i' j' ds d B.H0 v F' H')) (hk : ixN n kk = some j') (hN : X.N[i]? = some x := by rfl) (hv : Vis X.env.scope x := by first | exact Or.inl rfl | exact Or.inr (Or.inl rfl) | exact Or.inr (Or.inr rfl)) (hd : (x == ("__debug__" : Str)) = false := by decide)
    (hcd : (x == ("__classdict__" : Str)) = false := by decide) (hx : PlainIx (.Constant (.int kk) jj p2) := by intro _ _; rfl) : PD X B (.Subscript (.Name x p) (.Constant (.int kk) jj p2) pos) ss d := fun σ F H s Q q => by
  obtain ⟨v, ev, hP⟩ := s.slot i _ hs
  obtain ⟨t, l, us, vs, w, rfl, h1, hl, h2, h3, h4, h5, h6, h7, h8⟩ := hP F H (Grow.refl s.fh)
  exact sem_of (pe_ix ix_seq (pe_var hN hv hd hcd) pe_int hx) ⟨.ref t, ev, .inr (.inl ⟨t, us, kk, w, rfl, rfl, Same.sqt s.fh h1, by unfold atI; rw [hl, hk]; exact h3, q w F H (Grow.refl s.fh) h8⟩)⟩
/-- isinstance(e, list) -/
theorem sql_ty {K : PySem.W.Frag} {H : Hp} {a : Addr} {xs : List V} (h : SqL K H a xs) : TyX K H (.ref a) (.type "list") := by
  rcases h with (h | ⟨o, h⟩) | ⟨o, its, n, h1, h2, _⟩
  · exact .base (.lst h)
  · exact .base (.frz h)
  · exact .kList h1 h2
theorem pd_isiL {n : Str} (ha : PLi X B e ss ds) (hm : X.mg "isinstance" = none) (hmT : X.mg n = none) (hn : n = ("list" : Str) := by rfl) (hv : bootBuiltins n = some (.type "list") := by decide +kernel) (hg : Gl X "isinstance" := by rfl) (hg2 : Gl X n := by rfl) (hnn : n ≠ "__name__" := by decide) (hdb : (n == ("__debug__" : Str)) = false := by decide)
    (hb : bootBuiltins "isinstance" = some (.builtin "isinstance") := by decide +kernel) (n1 : NSt X e := by intro _; rfl) (n2 : NSt X (.Name n p2) := by intro _; rfl) (hpl : (backTo pos (starEach [.Name n p2] X.env)).any (·.1) = false := by rfl) :
    PD X B (.Call (.Name "isinstance" p) [e, .Name n p2] [] pos) ss (.bool true) := fun σ F H s Q q =>
  sem_of (pe_callB call_isi hg hm hb (pa_cons pe_sem (pa_cons (pe_bltn (v := .ty "list") hg2 hmT hv rfl hnn hdb) pa_nil (n2 [])) (n1 [.Name n p2])) (by decide) (by decide) (n1 [.Name n p2]) hpl)
    (ha σ F H s _ fun l vs F1 H1 g sq r => ⟨.ref l, .ty "list", .type "list", .type "list", true, rfl, .ty "list", sql_ty sq, kit_ty (by decide +kernel), q _ F1 H1 g (.bl true)⟩)
/-- return (x, y), x a list of its own -/
theorem go_retT (i j : Nat) {x y : Str} {kx : Nat} (hs : ss[i]? = some (.own ds)) (hs2 : ss[j]? = some (.dat d)) (k : ∀ v F H, Grow B.F0 B.H0 F H → tolP X.K B.C 2 0 1 ds d B.H0 v F H → D.rt v H)
    (hN : X.N[i]? = some x := by rfl) (hv : Vis X.env.scope x := by first | exact Or.inl rfl | exact Or.inr (Or.inl rfl) | exact Or.inr (Or.inr rfl)) (hd : (x == ("__debug__" : Str)) = false := by decide) (hcd : (x == ("__classdict__" : Str)) = false := by decide)
    (hN2 : X.N[j]? = some y := by rfl) (hv2 : Vis X.env.scope y := by first | exact Or.inl rfl | exact Or.inr (Or.inl rfl) | exact Or.inr (Or.inr rfl)) (hd2 : (y == ("__debug__" : Str)) = false := by decide) (hcd2 : (y == ("__classdict__" : Str)) = false := by decide)
    (n1 : NSt X (.Name x p) := by intro _; rfl) (n2 : NSt X (.Name y p2) := by intro _; rfl) : Go X B (.Return (some (.Tuple [.Name x p, .Name y p2] kx p3)) pos :: rest) ss D :=
  go_step (ps_ret (pe_tup (pa_cons (pe_var hN hv hd hcd) (pa_cons (pe_var hN2 hv2 hd2 hcd2) pa_nil (n2 [])) (n1 [.Name y p2])))) fun σ F H s => by
    obtain ⟨l, vs, el, h0, n, hl, r⟩ := s.slot i _ hs
    obtain ⟨w, ew, rw_⟩ := s.slot j _ hs2
    refine ⟨_, el, _, ew, Nat.le_of_ble_eq_true rfl, fun t ht => ?_⟩
    have nl : F l = none := n
    have g := Grow.new (o := .tup [.ref l, w]) s.fh ht
    refine k _ (upd F t (.tup [.ref l, w])) _ (s.g.trans g) ⟨t, l, [.ref l, w], vs, w, rfl, SqT.of upd_same, rfl, rfl, rfl, h0, g.own l _ hl nl, g.hh l _ hl, r.mono g.ff, rw_.mono g.ff⟩
/-- x[k].append(e): what stood within has changed, x is let go -/
theorem go_tolApp {n i' j' : Nat} {kk : Int} {x : Str} {jj : Nat} {p6 : Pos} (i : Nat) (hs : ss[i]? = some (.raw fun v F' H' => tolP X.K B.C n i' j' ds d B.H0 v F' H')) (hk : ixN n kk = some i') (he : PD X B e ss y) (h : Go X B rest (ss.set i .un) D) (hz : ds.length < sizeLine)
    (nr : noRaw (ss.set i .un) = true := by rfl) (no : ∀ (j : Nat) (es : List PyData), (ss.set i .un)[j]? ≠ some (.own es))
    (hN : X.N[i]? = some x := by rfl) (hv : Vis X.env.scope x := by first | exact Or.inl rfl | exact Or.inr (Or.inl rfl) | exact Or.inr (Or.inr rfl)) (hd : (x == ("__debug__" : Str)) = false := by decide) (hcd : (x == ("__classdict__" : Str)) = false := by decide) (hx : PlainIx (.Constant (.int kk) jj p2) := by intro _ _; rfl)
    (hpe : ∀ {t : TE}, PE X (.Subscript (.Name x p) (.Constant (.int kk) jj p2) p3) t → PE X (.Call (.Attribute (.Subscript (.Name x p) (.Constant (.int kk) jj p2) p3) "append" p4) [e] [] p5) (tBM X.K "list" rAppend t (tCons (tSem X e) tNil)) := by
      intro _ ht; exact pe_bm PySem.F.plainAttrs_list PySem.F.slot_list_append PySem.F.type_list_append mt_append ht (pa_cons pe_sem pa_nil))
    (hsw : swapsWith (.Call (.Attribute (.Subscript (.Name x p) (.Constant (.int kk) jj p2) p3) "append" p4) [e] [] p5) none p6.line X.env = pure false := by rfl) :
    Go X B (.Expr (.Call (.Attribute (.Subscript (.Name x p) (.Constant (.int kk) jj p2) p3) "append" p4) [e] [] p5) p6 :: rest) ss D :=
  go_step (ps_expr (hpe (pe_ix ix_seq (pe_var hN hv hd hcd) pe_int hx)) hsw) fun σ F H s => by
    obtain ⟨v, ev, hP⟩ := s.slot i _ hs
    obtain ⟨t, l, us, vs, w, rfl, h1, hl, h2, h3, h4, h5, h6, h7, h8⟩ := hP F H (Grow.refl s.fh)
    refine ⟨.ref t, ev, .inr (.inl ⟨t, us, kk, .ref l, rfl, rfl, Same.sqt s.fh h1, by unfold atI; rw [hl, hk]; exact h2, ?_⟩)⟩
    refine .inl ⟨rfl, vs, SqL.of h6⟩ |> fun z => ⟨z, he σ F H s _ fun u F1 H1 g r1 => ⟨l, vs, u, rfl, rfl, g.hh _ _ h6, by rw [h7.length]; exact hz, ?_⟩⟩
    have wk : Sat X.K B (ss.set i .un) σ F1 H1 := by
      have s1 := s.grow g
      refine ⟨s1.g, s1.pin, by rw [List.length_set]; exact s1.len, fun j sd q => ?_, fun a' b' es1 es2 _ q1 _ => (no a' es1 q1).elim⟩
      by_cases hj : i = j
      · subst hj
        have hi : i < ss.length := by
          have := (List.getElem?_eq_some_iff.mp q).1
          rwa [List.length_set] at this
        rw [List.getElem?_set_self hi] at q
        cases q; trivial
      · rw [List.getElem?_set_ne hj] at q
        exact s1.slot j sd q
    exact h σ F1 _ (wk.upd h4 (g.own l _ h6 h5) nr fun j es q => (no j es q).elim)
end
end G

namespace G
open PySem L2 PySem.Spec PyProof.Rows
theorem tuple_mul1 (l : Addr) (items : Array Value) (n : Nat) (dd : Option Addr) (sl : Array (Option Value)) (u : Tok) :
    Meets (Builtin.«tuple.__mul__» ⟨[.ref l, .int 1 u], []⟩) (fun _ R s => s.heap.get? l = some { cls := .type "tuple", dict := dd, data := .seq items n, slots := sl } ∧ R (.ok (.ret (Value.ref l))) s) :=
  .of_wp fun prog w A R s h => by
    obtain ⟨hp, g, d, tk, os⟩ := s
    obtain ⟨hl, k⟩ := h
    have f1 := AutoSeq1.idx_int
    have c1 : (items.isEmpty || (1 : Int) == 1) = true := by simp
    wp_walk using wpAny_loadPart' hl
    repeat (first
      | (refine wpAny_ite_true (decide_eq_true (by rw [c1])) ?_; wp_walk using wpAny_loadPart' hl)
      | (refine wpAny_ite_true c1 ?_; wp_walk using wpAny_loadPart' hl))
    exact ⟨_, rfl, k⟩
def rRep1 (K : PySem.W.Frag) : R2 := fun x y H Q => ∃ (l : Addr) (xs : List V), x = .ref l ∧ y = .int 1 ∧ SqT K H l xs ∧ Q (.ref l) H
theorem op_rep1 {X : Cx} : OpR X (binaryOp .Mult) (rRep1 X.K) := by
  rintro pins s σ H x y v u Q I rx ry ⟨l, xs, rfl, rfl, hT, q⟩
  cases rx
  obtain ⟨t, rfl⟩ := ry
  obtain ⟨its, r, ⟨⟨cls, dd, data, sl⟩, here, hc, n, hd⟩, hs⟩ := I.tuple hT
  simp only at hc hd
  subst hc hd
  refine wpAny_binaryOp_repeat_ref (T := "tuple") (U := "int") (by decide) ⟨_, here, rfl⟩ (fun s' => typeIs_int s' 1 t) noFill_tuple_mul F.fills_int_mul F.slot_int_rmul repeat_tuple F.slot_int_index.lookup ?_
  refine call_meets F.slot_int_rmul (typeIs_int s 1 t) F.entry_int_rmul (F.args_int_rmul_2 _ _) (int_rmul_tuple 1 t l its.toArray n dd sl) ⟨here, rfl, ⟨_, here, rfl⟩, ?_⟩
  exact call_meets F.slot_tuple_mul ⟨_, here, rfl⟩ F.entry_tuple_mul (F.args_tuple_mul_2 _ _) (tuple_mul1 l its.toArray n dd sl t) ⟨here, .ref l, H, I, rfl, q⟩
section
variable {X : Cx} {B : Bs} {ss : List SD} {a b : Expr} {pos : Pos} {ds : List PyData}
theorem pd_rep1 (ha : PD X B a ss (.tuple ds)) (hb : PD X B b ss (.int 1)) : PD X B (.BinOp a .Mult b pos) ss (.tuple ds) := pd_op op_rep1 ha hb fun F H v w f r1 r2 Q q => by
  cases r2
  cases r1 with
  | tup h1 q1 => exact ⟨_, _, rfl, rfl, Same.sqt f h1, q _ F H (Grow.refl f) (.tup h1 q1)⟩
/-- chained comparison, as a value -/
theorem pd_chain {op op' : CmpOp} {f f' : Int → Int → Bool} {c : Expr} {i j k : Int} (ho : OpR X (compareOp op) (rI0 fun i j => .bl (f i j))) (ho' : OpR X (compareOp op') (rI0 fun i j => .bl (f' i j))) (ha : PD X B a ss (.int i)) (hb : PD X B b ss (.int j)) (hc : PD X B c ss (.int k))
    (hm : lastMarks [op, op'] [b, c] = false := by with_unfolding_all rfl) : PD X B (.Compare a [op, op'] [b, c] pos) ss (.bool (f i j && f' j k)) := fun σ F H s Q q =>
  sem_of (pe_chain ho ho' pe_sem pe_sem pe_sem hm) (ha σ F H s _ fun v F1 H1 g1 r1 => hb σ F1 H1 (s.grow g1) _ fun w F2 H2 g2 r2 => by
    cases r1; cases r2
    refine ⟨i, j, rfl, rfl, f i j, rfl, ?_⟩
    cases hf : f i j with
    | false =>
      refine iteF ?_
      rw [hf] at q
      exact q _ F2 H2 (g1.trans g2) (.bl _)
    | true =>
      refine iteT ?_
      rw [hf, Bool.true_and] at q
      exact hc σ F2 H2 (s.grow (g1.trans g2)) _ fun u F3 H3 g3 r3 => by
        cases r3
        exact ⟨j, k, rfl, rfl, q _ F3 H3 ((g1.trans g2).trans g3) (.bl _)⟩)
end
end G

namespace G
open PySem L2
/-! ### a list of one's own is lent to a def, which may change it; behind the call it is let go -/
def hole (H : Hp) (a : Addr) : Hp := fun b => if b = a then none else H b
theorem hole_at (H : Hp) (a : Addr) : hole H a a = none := if_pos rfl
theorem hole_ne {H : Hp} {a b : Addr} (h : b ≠ a) : hole H a b = H b := if_neg h
theorem hole_to {H G : Hp} {a : Addr} (e : Same G H) (n : G a = none) : Same G (hole H a) := fun b o q => by
  rw [hole_ne (ne_of_none q n)]; exact e b o q
theorem Sat.unset {K : PySem.W.Frag} {B : Bs} {ss : List SD} {σ : St} {F H : Hp} (h : Sat K B ss σ F H) (i : Nat) : Sat K B (ss.set i .un) σ F H := by
  refine ⟨h.g, h.pin, by rw [List.length_set]; exact h.len, fun j sd q => ?_, fun j k xs ys hjk q1 q2 => ?_⟩
  · by_cases hj : i = j
    · subst hj
      have hi : i < ss.length := by
        have := (List.getElem?_eq_some_iff.mp q).1
        rwa [List.length_set] at this
      rw [List.getElem?_set_self hi] at q
      cases q; trivial
    · rw [List.getElem?_set_ne hj] at q
      exact h.slot j sd q
  · have f : ∀ {k : Nat} {xs : List PyData}, (ss.set i .un)[k]? = some (.own xs) → ss[k]? = some (.own xs) := fun {k xs} q => by
      by_cases hk : i = k
      · subst hk
        have hi : i < ss.length := by
          have := (List.getElem?_eq_some_iff.mp q).1
          rwa [List.length_set] at this
        rw [List.getElem?_set_self hi] at q; cases q
      · rw [List.getElem?_set_ne hk] at q; exact q
    exact h.ne j k xs ys hjk (f q1) (f q2)
theorem Sat.hole {K : PySem.W.Frag} {B : Bs} {ss : List SD} {σ : St} {F H : Hp} {i : Nat} {a : Addr} {ds : List PyData} (h : Sat K B ss σ F H) (hs : ss[i]? = some (.own ds)) (ea : σ[i]? = some (some (.ref a))) (nr : noRaw ss = true) : Sat K B (ss.set i .un) σ F (hole H a) := by
  obtain ⟨a', vs, ea', a0, n, ha, r⟩ := h.slot i _ hs
  rw [ea] at ea'
  cases ea'
  have hi : i < ss.length := (List.getElem?_eq_some_iff.mp hs).1
  have u := h.unset i
  refine ⟨⟨hole_to u.g.hh a0, u.g.ff, hole_to u.g.fh n, u.g.own⟩, u.pin, u.len, fun j sd q => ?_, u.ne⟩
  by_cases hj : i = j
  · subst hj
    rw [List.getElem?_set_self hi] at q
    cases q; trivial
  · have z := u.slot j sd q
    rw [List.getElem?_set_ne hj] at q
    cases sd with
    | un => trivial
    | dat d => exact z
    | bor d => exact z
    | val v => exact z
    | raw P => exact (noRaw_at nr q).elim
    | own es =>
      obtain ⟨b, ws, eb, b0, nb, hb, rb⟩ := z
      have nab : b ≠ a := fun y => h.ne i j ds es hj hs q (by rw [ea, eb, y])
      exact ⟨b, ws, eb, b0, nb, by rw [hole_ne nab]; exact hb, rb⟩
section
variable {X : Cx} {B : Bs} {ss ss' : List SD} {e a b c : Expr} {es : List Expr} {pos p p2 p3 : Pos} {d x y z : PyData} {ds ds' : List PyData} {rest body orelse : List Stmt} {st : Stmt} {D : Ends}
  {α : Type} {args ow : α → List PyData} {pre : α → Prop} {out : α → PyData} {fn : Str} {k : Nat}
def PDS (X : Cx) (B : Bs) (e : Expr) (ss : List SD) (d : PyData) (ss' : List SD) : Prop := ∀ (σ : St) (F H : Hp), Sat X.K B ss σ F H → ∀ Q : VK, (∀ v F' H', Sat X.K B ss' σ F' H' → Rp X.K B.C F' v d → Q v H') → tSem X e σ H Q
def TDS (X : Cx) (B : Bs) (e : Expr) (ss : List SD) (u : Bool) (ss' : List SD) : Prop := ∀ (σ : St) (F H : Hp), Sat X.K B ss σ F H → ∀ Q : Bool → Hp → Prop, (∀ F' H', Sat X.K B ss' σ F' H' → Q u H') → tSemT X e σ H Q
def TWS (X : Cx) (B : Bs) (e : Expr) (ss : List SD) (u : Bool) (ss' : List SD) : Prop := ∀ (σ : St) (F H : Hp), Sat X.K B ss σ F H → ∀ Q : Bool → Hp → Prop, (∀ F' H', Sat X.K B ss' σ F' H' → Q u H') → tSemW X e σ H Q
theorem TWS.t {u : Bool} (h : TWS X B e ss u ss') : TDS X B e ss u ss' := fun σ F H s Q q => semT_of (PW.pt pw_sem) (h σ F H s Q q)
theorem tws_or1 {u : Bool} (ha : TDS X B a ss u ss') : TWS X B (.BoolOp .Or [a] pos) ss u ss' := fun σ F H s Q q => semW_of (pw_or1 pt_sem) (ha σ F H s Q q)
theorem tws_or {u v : Bool} (ha : TD X B a ss u) (hu : u = false) (hb : TWS X B (.BoolOp .Or (b :: es) pos) ss v ss') : TWS X B (.BoolOp .Or (a :: b :: es) pos) ss v ss' := fun σ F H s Q q =>
  semW_of (pw_or pt_sem pw_sem) (ha σ F H s _ fun F1 H1 g1 => by
    subst hu
    exact iteF (hb σ F1 H1 (s.grow g1) Q q))
theorem tds_not {u : Bool} (ha : TDS X B a ss u ss') : TDS X B (.UnaryOp .Not a pos) ss (!u) ss' := fun σ F H s Q q => semT_of (pt_not pt_sem) (ha σ F H s _ fun F1 H1 g1 => q F1 H1 g1)
theorem tds_val {u : Bool} (ha : PDS X B e ss (.bool u) ss') (he : ∀ whole, isTrue e X.env whole = (do let v ← whole; standAt e.pos; holding [v] (truthy v)) := by intro _; rfl) : TDS X B e ss u ss' := fun σ F H s Q q =>
  semT_of (pt_val pe_sem he) (ha σ F H s _ fun v F1 H1 s1 r => by cases r; exact ⟨u, rfl, q F1 H1 s1⟩)
theorem go_ifS {u : Bool} (hc : TDS X B c ss u ss') (h1 : u = true → Go X B body ss' { D with nx := tSS X rest D }) (h2 : u = false → Go X B orelse ss' { D with nx := tSS X rest D }) : Go X B (.If c body orelse pos :: rest) ss D :=
  go_step (ps_if pt_sem pss_sem pss_sem) fun σ F H s => hc σ F H s _ fun F1 H1 s1 => by
    cases u with
    | true => exact iteT (h1 rfl σ F1 H1 s1)
    | false => exact iteF (h2 rfl σ F1 H1 s1)
theorem go_ifU {u : Bool} (i : Nat) (hc : TDS X B c ss u (ss.set i .un)) (h1 : u = true → Go X B body (ss.set i .un) { D with nx := tSS X rest D }) (h2 : u = false → Go X B orelse (ss.set i .un) { D with nx := tSS X rest D }) : Go X B (.If c body orelse pos :: rest) ss D := go_ifS hc h1 h2
/-- arguments, the last one a list of one's own -/
def PAL (X : Cx) (B : Bs) (es : List Expr) (ss : List SD) (ds : List PyData) (i : Nat) : Prop := ∀ (σ : St) (F H : Hp), Sat X.K B ss σ F H → ∀ Q : List V → Hp → Prop, (∀ us v F' H', Grow F H F' H' → σ[i]? = some (some v) → RpAll X.K B.C F' us ds → Q (us ++ [v]) H') → tSemA X es σ H Q
theorem pal_last (i : Nat) {x : Str} (hs : ss[i]? = some (.own ds')) (hN : X.N[i]? = some x := by rfl) (hv : Vis X.env.scope x := by first | exact Or.inl rfl | exact Or.inr (Or.inl rfl) | exact Or.inr (Or.inr rfl)) (hd : (x == ("__debug__" : Str)) = false := by decide)
    (hcd : (x == ("__classdict__" : Str)) = false := by decide) (hn : NSt X (.Name x p) := by intro _; rfl) : PAL X B [.Name x p] ss [] i := fun σ F H s Q q => by
  obtain ⟨a, vs, e, _⟩ := s.slot i _ hs
  exact semA_of (pa_cons (pe_var hN hv hd hcd) pa_nil (hn [])) ⟨_, e, q [] _ F H (Grow.refl s.fh) e .nil⟩
theorem pal_cons {i : Nat} (h : PD X B e ss d) (t : PAL X B es ss ds i) (hn : NSt X e := by intro _; rfl) : PAL X B (e :: es) ss (d :: ds) i := fun σ F H s Q q =>
  semA_of (pa_cons pe_sem pa_sem (hn es)) (h σ F H s _ fun v F1 H1 g1 r1 => t σ F1 H1 (s.grow g1) _ fun us w F2 H2 g2 ew r2 => q (v :: us) w F2 H2 (g1.trans g2) ew (.cons (r1.mono g2.ff) r2))
def spL (K : PySem.W.Frag) (C : Addr) (args ow : α → List PyData) (pre : α → Prop) (out : α → PyData) : Sp := fun vs H Q E =>
  ∃ (u : α) (F : Hp) (l : Addr) (ws us : List V), pre u ∧ vs = us ++ [.ref l] ∧ H l = some (.lst ws) ∧ F l = none ∧ Same F H ∧ RpAll K C F us (args u) ∧ RpAll K C F ws (ow u) ∧ ∀ v F' H', Grow F (hole H l) F' H' → Rp K C F' v (out u) → Q v H'
theorem pd_callL (i : Nat) (cf : Cal X.prog X.w X.K X.mg X.base fn k (spL X.K B.C args ow pre out)) (hr : Room k X.A) (u : α) (hs : ss[i]? = some (.own (ow u))) (ha : PAL X B (e :: es) ss (args u) i) (ho : out u = d) (hp : pre u) (nr : noRaw ss = true := by rfl) (hg : Gl X fn := by rfl)
    (hdb : (fn == ("__debug__" : Str)) = false := by decide) (he : starEach (e :: es) X.env = (false, eval e X.env) :: starEach es X.env := by rfl) (hpl : (backTo pos (starEach es X.env)).any (·.1) = false := by rfl) :
    PDS X B (.Call (.Name fn p) (e :: es) [] pos) ss d (ss.set i .un) := fun σ F H s Q q => by
  subst ho
  obtain ⟨f, fd, ps, F0, hm, hk, hb⟩ := cf
  refine sem_of (pe_call (dvs := []) (ds := []) F0 hr hg hm hk hb .nil passL pa_sem hdb he hpl) (ha σ F H s _ fun us v F1 H1 g ev r => ?_)
  have s1 := s.grow g
  obtain ⟨l, ws, el, l0, n, hl, rl⟩ := s1.slot i _ hs
  rw [ev] at el
  cases el
  refine ⟨u, F1, l, ws, us, hp, by rw [List.append_nil], hl, n, g.fh, r, rl, fun v' F2 H2 g2 r2 => q v' F2 H2 ((s1.hole hs ev nr).grow g2) r2⟩
end
section
variable {P : Program} {w : World} {K : PySem.W.Frag} {mg : Str → Option Value} {base : Heap}
theorem ok_fnL {x qual : Str} {st : Stmt} {f : Addr} {fd : FuncData} {N ps : List Str} {k : Nat} {C : Addr} {α : Type} {args ow : α → List PyData} {pre : α → Prop} {out : α → PyData} (F : L2.Fun K x qual st f fd) (S : FnScope N ps (defScope st)) (hl : ∀ a, (args a).length + 1 = ps.length)
    (body : ∀ (cdv : Value) (A : Around) (outer : List Env) (s : Shared) (H H1 F0 : Hp) (u : α) (Q : VK) (E : XK) (X : Cx) (hX : X = cxOf (L2.CX P w) P w K mg base N qual (defScope st) f cdv A outer s H E), Cxt X → Room k X.A → pre u → (∀ v F' H', Grow F0 H1 F' H' → Rp K C F' v (out u) → Q v H') →
      Go X ⟨C, F0, H1, F0⟩ (defBody st) ((args u).map SD.dat ++ [.own (ow u)] ++ List.replicate (N.length - ps.length) SD.un) (dE Q)) :
    FnOk P w K mg base (L2.CX P w) (k + 1) f fd ps (spL K C args ow pre out) := by
  have hNl : ps.length ≤ N.length := by have := congrArg List.length S.pre; rw [List.length_take] at this; omega
  refine F.okX S (fun vs H Q E h => ?_) (fun cdv A outer s H vs Q E hr h => ?_)
  · obtain ⟨u, F0, l, ws, us, _, rfl, _, _, _, r, _⟩ := h
    rw [List.length_append, r.length]; exact hl u
  · obtain ⟨u, F0, l, ws, us, hp, rfl, hH, hn, hf, r, rl, ho⟩ := h
    refine ⟨_, pss_sem, ?_⟩
    have cx : Cxt (cxOf (L2.CX P w) P w K mg base N qual (defScope st) f cdv A outer s H E) := ⟨rfl, S.nd, passes_of rfl, by have := hr.un; show (A.deeper _).units + 65 < cLine; omega⟩
    refine body cdv A outer s H (hole H l) F0 u Q E _ rfl cx hr hp ho _ F0 H ?_
    have ll := r.length
    have la := hl u
    have h1 : Same (hole H l) H := fun b o e => by
      by_cases hb : b = l
      · subst hb; rw [hole_at] at e; cases e
      · rw [hole_ne hb] at e; exact e
    refine ⟨⟨h1, Same.refl _, hf, fun _ _ _ z => z⟩, Same.refl _, ?_, fun i sd e => ?_, fun i j xs ys hij e1 e2 => ?_⟩
    · unfold L2.start
      simp only [List.length_append, List.length_map, List.length_replicate, List.length_singleton]
      omega
    · by_cases hi : i < (args u).length
      · rw [List.append_assoc, List.getElem?_append_left (by rw [List.length_map]; exact hi), List.getElem?_map, List.getElem?_eq_getElem hi] at e
        cases e
        obtain ⟨v, hv, rv⟩ := RpAll.get r (List.getElem?_eq_getElem hi)
        exact ⟨v, start_get (by rw [List.getElem?_append_left (by rw [ll]; exact hi)]; exact hv), rv⟩
      · by_cases h2 : i = (args u).length
        · subst h2
          rw [List.append_assoc, List.getElem?_append_right (by rw [List.length_map]; exact Nat.le_refl _), List.length_map, Nat.sub_self] at e
          cases e
          exact ⟨l, ws, start_get (by rw [← ll, List.getElem?_append_right (Nat.le_refl _), Nat.sub_self]; rfl), hole_at _ _, hn, hH, rl⟩
        · rw [List.getElem?_append_right (by rw [List.length_append, List.length_map, List.length_singleton]; omega), List.getElem?_replicate] at e
          split at e
          · cases e; trivial
          · cases e
    · have only : ∀ {i : Nat} {xs : List PyData}, ((args u).map SD.dat ++ [.own (ow u)] ++ List.replicate (N.length - ps.length) SD.un)[i]? = some (.own xs) → i = (args u).length := fun {i xs} e => by
        by_cases hi : i < (args u).length
        · rw [List.append_assoc, List.getElem?_append_left (by rw [List.length_map]; exact hi), List.getElem?_map, List.getElem?_eq_getElem hi] at e
          cases e
        · by_cases h2 : i = (args u).length
          · exact h2
          · rw [List.getElem?_append_right (by rw [List.length_append, List.length_map, List.length_singleton]; omega), List.getElem?_replicate] at e
            split at e
            · cases e
            · cases e
      exact (hij ((only e1).trans (only e2).symm)).elim
end
end G

namespace G
open PySem L2
/-! ### more of lists -/
theorem RpAll.bls {K : PySem.W.Frag} {C : Addr} {H : Hp} : ∀ {bs : List Bool} {vs : List V}, RpAll K C H vs (bs.map PyData.bool) → vs = bs.map V.bl
  | [], _, .nil => rfl
  | b :: r, _, .cons h t => by
    cases h
    rw [RpAll.bls t] <;> rfl
section
variable {X : Cx} {B : Bs} {ss ss' : List SD} {e a b c : Expr} {es : List Expr} {pos p p2 p3 p4 p5 p6 p7 : Pos} {d x y z : PyData} {ds ds' : List PyData} {rest body orelse : List Stmt} {st : Stmt} {D : Ends}
theorem pd_all {bs : List Bool} (hc : X.calm = true) (ha : PLi X B e ss (bs.map .bool)) (hm : X.mg "all" = none) (hv : bootBuiltins "all" = some (.builtin "all") := by decide +kernel) (hg : Gl X "all" := by rfl) (hn : NSt X e := by intro _; rfl) : PD X B (.Call (.Name "all" p) [e] [] pos) ss (.bool (bs.all id)) := fun σ F H s Q q =>
  sem_of (pe_callB (cr_all hc) hg hm hv (pa_cons pe_sem pa_nil (hn [])) (by decide) (by decide) (hn []) rfl) (ha σ F H s _ fun l vs F1 H1 g sq r => by
    have e := RpAll.bls r
    subst e
    exact ⟨l, bs, rfl, sq, q _ F1 H1 g (.bl _)⟩)
theorem eqV_int (i j : Int) : eqV (.int i) (.int j) = (i == j) := rfl
/-- x.index(e), numbers -/
theorem pd_index {ns : List Int} {k : Int} {j : Nat} (ha : PLi X B a ss (ns.map .int)) (hb : PD X B e ss (.int k)) (hj : ns[j]? = some k) (hno : ∀ m z, m < j → ns[m]? = some z → z ≠ k)
    (hpe : PE X (.Call (.Attribute a "index" p2) [e] [] p3) (tBM X.K "list" (rIndex X.K) (tSem X a) (tCons (tSem X e) tNil)) := by exact pe_bm PySem.F.plainAttrs_list PySem.F.slot_list_index PySem.F.type_list_index mt_index pe_sem (pa_cons pe_sem pa_nil)) : PD X B (.Call (.Attribute a "index" p2) [e] [] p3) ss (.int (j : Int)) := fun σ F H s Q q =>
  sem_of hpe (ha σ F H s _ fun l vs F1 H1 g1 sq r1 => ⟨.inl ⟨rfl, vs, sq⟩, hb σ F1 H1 (s.grow g1) _ fun w F2 H2 g2 r2 => by
    cases r2
    have e := RpAll.intsV r1
    subst e
    refine ⟨l, ns.map V.int, .int k, j, .int k, rfl, rfl, g2.hh.seq sq, rfl, ?_, by rw [List.getElem?_map, hj]; rfl, by rw [eqV_int]; exact beq_self_eq_true k, fun m z' hm hz => ?_, q _ F2 H2 (g1.trans g2) (.int _)⟩
    · rw [List.all_eq_true]
      intro v hv
      obtain ⟨n, _, rfl⟩ := List.mem_map.mp hv
      rfl
    · rw [List.getElem?_map] at hz
      cases hn : ns[m]? with
      | none => rw [hn] at hz; cases hz
      | some n =>
        rw [hn] at hz
        cases hz
        rw [eqV_int]
        exact beq_eq_false_iff_ne.mpr (hno m n hm hn)⟩)
/-- x.append(y.pop(e)) -/
theorem go_appPop (i j : Nat) {x y : Str} {k : Int} {m : Nat} (hij : i ≠ j) (hs0 : ss[i]? = some (.own ds)) (hs1 : ss[j]? = some (.own ds')) (hk : PD X B a ss (.int k)) (hm : ixN ds'.length k = some m) (hd : ds'[m]? = some d) (hz : ds.length < sizeLine) (hz' : ds'.length < 2 ^ 62)
    (h : Go X B rest ((ss.set j (.own (ds'.eraseIdx m))).set i (.own (ds ++ [d]))) D) (nr : noRaw ss = true := by rfl) (nr2 : noRaw (ss.set j (.own (ds'.eraseIdx m))) = true := by rfl)
    (hpe : PE X (.Call (.Attribute (.Name x p) "append" p2) [.Call (.Attribute (.Name y p4) "pop" p5) [a] [] p6] [] p3) (tBM X.K "list" rAppend (tVar i) (tCons (tBM X.K "list" rPopAt (tVar j) (tCons (tSem X a) tNil)) tNil)) := by
      exact pe_bm PySem.F.plainAttrs_list PySem.F.slot_list_append PySem.F.type_list_append mt_append (pe_var (by rfl) (by first | exact Or.inl rfl | exact Or.inr (Or.inl rfl) | exact Or.inr (Or.inr rfl)) (by decide) (by decide)) (pa_cons (pe_bm PySem.F.plainAttrs_list PySem.F.slot_list_pop PySem.F.type_list_pop mt_popAt (pe_var (by rfl) (by first | exact Or.inl rfl | exact Or.inr (Or.inl rfl) | exact Or.inr (Or.inr rfl)) (by decide) (by decide)) (pa_cons pe_sem pa_nil)) pa_nil))
    (hs : swapsWith (.Call (.Attribute (.Name x p) "append" p2) [.Call (.Attribute (.Name y p4) "pop" p5) [a] [] p6] [] p3) none p7.line X.env = pure false := by rfl) : Go X B (.Expr (.Call (.Attribute (.Name x p) "append" p2) [.Call (.Attribute (.Name y p4) "pop" p5) [a] [] p6] [] p3) p7 :: rest) ss D :=
  go_step (ps_expr hpe hs) fun σ F H s => by
    obtain ⟨q, vs, ea, a0, n, ha, r⟩ := s.slot i _ hs0
    refine ⟨_, ea, .inl ⟨rfl, vs, SqL.of ha⟩, ?_⟩
    obtain ⟨q', vs', ea', a0', n', ha', r'⟩ := s.slot j _ hs1
    refine ⟨_, ea', .inl ⟨rfl, vs', SqL.of ha'⟩, hk σ F H s _ fun w F1 H1 g r1 => ?_⟩
    cases r1
    obtain ⟨v, hv, rv⟩ := RpAll.get r' hd
    obtain ⟨q1, q2, q3, q4⟩ := ixN_seq hm
    have ll := r'.length
    have s1 := (s.grow g).mut hs1 ea' nr ((r'.mono g.ff).erase m)
    have hs0' : (ss.set j (.own (ds'.eraseIdx m)))[i]? = some (.own ds) := by rw [List.getElem?_set_ne (Ne.symm hij)]; exact hs0
    obtain ⟨q2', vs2, ea2, b0, n2, ha2, r2⟩ := s1.slot i _ hs0'
    rw [ea] at ea2
    cases ea2
    refine ⟨q', vs', k, m, v, rfl, rfl, g.hh _ _ ha', by omega, by omega, by rw [ll]; exact q1, hv, ?_⟩
    refine ⟨q, vs2, v, rfl, rfl, ha2, by rw [r2.length]; exact hz, ?_⟩
    exact h σ F1 _ (s1.mut hs0' ea nr2 (r2.app (.one (rv.mono g.ff))))
theorem RpAll.drl {K : PySem.W.Frag} {C : Addr} {H : Hp} {vs : List V} {ds : List PyData} (h : RpAll K C H vs ds) : RpAll K C H vs.dropLast ds.dropLast := by
  rw [List.dropLast_eq_take, List.dropLast_eq_take, h.length]
  exact h.take _
/-- x.pop() -/
theorem go_popL (i : Nat) {x : Str} (hs0 : ss[i]? = some (.own ds)) (hne : ds ≠ []) (h : Go X B rest (ss.set i (.own ds.dropLast)) D) (nr : noRaw ss = true := by rfl)
    (hpe : PE X (.Call (.Attribute (.Name x p) "pop" p2) [] [] p3) (tBM0 X.K "list" rPop (tVar i)) := by exact pe_bm0 PySem.F.plainAttrs_list PySem.F.slot_list_pop PySem.F.type_list_pop mt_pop (pe_var (by rfl) (by first | exact Or.inl rfl | exact Or.inr (Or.inl rfl) | exact Or.inr (Or.inr rfl)) (by decide) (by decide)))
    (hs : swapsWith (.Call (.Attribute (.Name x p) "pop" p2) [] [] p3) none p4.line X.env = pure false := by rfl) : Go X B (.Expr (.Call (.Attribute (.Name x p) "pop" p2) [] [] p3) p4 :: rest) ss D :=
  go_step (ps_expr hpe hs) fun σ F H s => by
    obtain ⟨q, vs, ea, a0, n, ha, r⟩ := s.slot i _ hs0
    have hl : 0 < vs.length := by
      rw [r.length]
      exact List.length_pos_iff.mpr hne
    refine ⟨_, ea, .inl ⟨rfl, vs, SqL.of ha⟩, ⟨q, vs, vs[vs.length - 1], rfl, rfl, ha, List.getElem?_eq_getElem (by omega), ?_⟩⟩
    exact h σ F _ (s.mut hs0 ea nr r.drl)
end
end G

namespace G
open PySem L2
/-! ### a list of lists of numbers, all of one's own -/
structure RowsAt (H0 : Hp) (S : List (List Int)) (a : Addr) (as : List Addr) (F H : Hp) : Prop where
  o0 : H0 a = none
  of_ : F a = none
  at_ : H a = some (.lst (as.map V.ref))
  len : as.length = S.length
  nd : as.Nodup
  row : ∀ (j : Nat) (l : Addr) (r : List Int), as[j]? = some l → S[j]? = some r → l ≠ a ∧ H0 l = none ∧ F l = none ∧ H l = some (.lst (r.map V.int))
theorem RowsAt.grow {H0 F H F' H' : Hp} {S : List (List Int)} {a : Addr} {as : List Addr} (h : RowsAt H0 S a as F H) (g : Grow F H F' H') : RowsAt H0 S a as F' H' :=
  ⟨h.o0, g.own a _ h.at_ h.of_, g.hh a _ h.at_, h.len, h.nd, fun j l r e1 e2 => by
    obtain ⟨q1, q2, q3, q4⟩ := h.row j l r e1 e2
    exact ⟨q1, q2, g.own l _ q4 q3, g.hh l _ q4⟩⟩
def rowsP (H0 : Hp) (S : List (List Int)) : V → Hp → Hp → Prop := fun v F H => ∃ a as, v = .ref a ∧ RowsAt H0 S a as F H
theorem RowsAt.get {H0 F H : Hp} {S : List (List Int)} {a : Addr} {as : List Addr} (h : RowsAt H0 S a as F H) {j : Nat} (hj : j < S.length) : ∃ l, as[j]? = some l ∧ l ≠ a ∧ H0 l = none ∧ F l = none ∧ H l = some (.lst ((S.getD j []).map V.int)) := by
  have hl : j < as.length := by rw [h.len]; exact hj
  refine ⟨as[j], List.getElem?_eq_getElem hl, ?_⟩
  exact h.row j as[j] (S.getD j []) (List.getElem?_eq_getElem hl) (by rw [List.getD_eq_getElem?_getD, List.getElem?_eq_getElem hj] <;> rfl)
/-- one row has changed -/
theorem RowsAt.put {H0 F H : Hp} {S : List (List Int)} {a l : Addr} {as : List Addr} {j : Nat} {r' : List Int} (h : RowsAt H0 S a as F H) (hj : as[j]? = some l) : RowsAt H0 (S.set j r') a as F (upd H l (.lst (r'.map V.int))) := by
  have hjl : j < as.length := (List.getElem?_eq_some_iff.mp hj).1
  have hjS : j < S.length := by rw [← h.len]; exact hjl
  obtain ⟨l', e', n1, _⟩ := h.get hjS
  rw [hj] at e'
  cases e'
  refine ⟨h.o0, h.of_, by rw [upd_ne (Ne.symm n1)]; exact h.at_, by rw [List.length_set]; exact h.len, h.nd, fun k m r e1 e2 => ?_⟩
  by_cases hk : j = k
  · subst hk
    rw [hj] at e1
    cases e1
    rw [List.getElem?_set_self hjS] at e2
    cases e2
    obtain ⟨_, q1, q2, q3, q4, q5⟩ := h.get hjS
    rw [hj] at q1
    cases q1
    exact ⟨q2, q3, q4, upd_same⟩
  · rw [List.getElem?_set_ne hk] at e2
    obtain ⟨q1, q2, q3, q4⟩ := h.row k m r e1 e2
    have ne : m ≠ l := fun e => by
      subst e
      have hkl : k < as.length := (List.getElem?_eq_some_iff.mp e1).1
      have pw := List.pairwise_iff_getElem.mp h.nd
      have v1 := (List.getElem?_eq_some_iff.mp hj).2
      have v2 := (List.getElem?_eq_some_iff.mp e1).2
      rcases Nat.lt_or_gt_of_ne hk with z | z
      · exact pw j k hjl hkl z (v1.trans v2.symm)
      · exact pw k j hkl hjl z (v2.trans v1.symm)
    exact ⟨q1, q2, q3, by rw [upd_ne ne]; exact q4⟩
section
variable {X : Cx} {B : Bs} {ss ss' : List SD} {e a b c : Expr} {es : List Expr} {pos p p2 p3 p4 p5 p6 p7 : Pos} {d x y z : PyData} {ds ds' : List PyData} {rest body orelse : List Stmt} {st : Stmt} {D : Ends} {S : List (List Int)}
/-- rows[k], read -/
theorem pli_row (i : Nat) {x : Str} {k : Int} {j : Nat} (hs : ss[i]? = some (.raw (rowsP B.H0 S))) (hb : PD X B b ss (.int k)) (hj : ixN S.length k = some j) (hN : X.N[i]? = some x := by rfl) (hv : Vis X.env.scope x := by first | exact Or.inl rfl | exact Or.inr (Or.inl rfl) | exact Or.inr (Or.inr rfl)) (hd : (x == ("__debug__" : Str)) = false := by decide)
    (hcd : (x == ("__classdict__" : Str)) = false := by decide) (hx : PlainIx b := by intro _ _; rfl) : PLi X B (.Subscript (.Name x p) b pos) ss (dIs (S.getD j [])) := fun σ F H s Q q => by
  obtain ⟨v, ev, hP⟩ := s.slot i _ hs
  refine sem_of (pe_ix ix_seq (pe_var hN hv hd hcd) pe_sem hx) ⟨v, ev, hb σ F H s _ fun w F1 H1 g r1 => ?_⟩
  cases r1
  obtain ⟨a, as, rfl, ra⟩ := hP F1 H1 g
  have hjS : j < S.length := (ixN_seq hj).2.1
  obtain ⟨l, e1, _, _, _, hl⟩ := ra.get hjS
  exact .inl ⟨a, as.map V.ref, k, .ref l, rfl, rfl, SqL.of ra.at_, by unfold atI; rw [List.length_map, ra.len, hj]; show (as.map V.ref)[j]? = _; rw [List.getElem?_map, e1]; rfl, q l _ F1 H1 g (SqL.of hl) (RpAll.ints _)⟩
/-- len(rows) -/
theorem pd_lenRows (i : Nat) {x : Str} (hs : ss[i]? = some (.raw (rowsP B.H0 S))) (hm : X.mg "len" = none) (hN : X.N[i]? = some x := by rfl) (hv : Vis X.env.scope x := by first | exact Or.inl rfl | exact Or.inr (Or.inl rfl) | exact Or.inr (Or.inr rfl)) (hd : (x == ("__debug__" : Str)) = false := by decide)
    (hcd : (x == ("__classdict__" : Str)) = false := by decide) (hg : Gl X "len" := by rfl) (hn : NSt X (.Name x p2) := by intro _; rfl) : PD X B (.Call (.Name "len" p) [.Name x p2] [] pos) ss (.int (S.length : Int)) := fun σ F H s Q q => by
  obtain ⟨v, ev, hP⟩ := s.slot i _ hs
  obtain ⟨a, as, rfl, ra⟩ := hP F H (Grow.refl s.fh)
  exact sem_of (pe_callB call_len_seq hg hm PySem.boot_len (pa_cons (pe_var hN hv hd hcd) pa_nil (hn [])) (by decide) (by decide) (hn []) rfl) ⟨_, ev, ⟨a, as.map V.ref, rfl, .inl (SqL.of ra.at_), q _ F H (Grow.refl s.fh) (by rw [List.length_map, ra.len]; exact .int _)⟩⟩
/-- where a row has changed -/
theorem Sat.rowPut {K : PySem.W.Frag} {σ : St} {F H : Hp} {i : Nat} {aa l : Addr} {as : List Addr} {j : Nat} {r' : List Int} (h : Sat K B ss σ F H) (hs : ss[i]? = some (.raw (rowsP B.H0 S))) (ev : σ[i]? = some (some (.ref aa))) (ra : RowsAt B.H0 S aa as F H) (hj : as[j]? = some l)
    (nr : noRaw (ss.set i .un) = true) (no : ∀ (k : Nat) (es : List PyData), (ss.set i .un)[k]? ≠ some (.own es)) : Sat K B (ss.set i (.raw (rowsP B.H0 (S.set j r')))) σ F (L2.upd H l (.lst (r'.map V.int))) := by
  have hi : i < ss.length := (List.getElem?_eq_some_iff.mp hs).1
  have hjS : j < S.length := by rw [← ra.len]; exact (List.getElem?_eq_some_iff.mp hj).1
  obtain ⟨l', e', n1, n2, n3, n4⟩ := ra.get hjS
  rw [hj] at e'
  cases e'
  have u := (h.unset i).upd (o := .lst (r'.map V.int)) n2 n3 nr (fun k es q => (no k es q).elim)
  have w := u.set_raw (i := i) (v := .ref aa) (P := rowsP B.H0 (S.set j r')) (fun F2 H2 g2 => ⟨aa, as, rfl, (ra.put hj).grow g2⟩)
  rw [List.set_set] at w
  have e3 : σ.set i (some (.ref aa)) = σ := by
    apply List.ext_getElem?
    intro k
    by_cases hk : i = k
    · subst hk; rw [List.getElem?_set_self (by rw [h.len]; exact hi), ev]
    · rw [List.getElem?_set_ne hk]
  rw [e3] at w
  exact w
/-- rows[k].insert(m, n) -/
theorem go_rowIns (i : Nat) {x : Str} {k m n : Int} {j : Nat} (hs : ss[i]? = some (.raw (rowsP B.H0 S))) (hb : PD X B b ss (.int k)) (hj : ixN S.length k = some j) (hm : PD X B a ss (.int m)) (hn : PD X B e ss (.int n)) (h0 : 0 ≤ m) (h1 : m < 2 ^ 60) (hz : (S.getD j []).length < sizeLine)
    (h : Go X B rest (ss.set i (.raw (rowsP B.H0 (S.set j ((S.getD j []).take m.toNat ++ [n] ++ (S.getD j []).drop m.toNat))))) D) (no : noOwn (ss.set i .un) = true := by rfl) (nr : noRaw (ss.set i .un) = true := by rfl)
    (hN : X.N[i]? = some x := by rfl) (hv : Vis X.env.scope x := by first | exact Or.inl rfl | exact Or.inr (Or.inl rfl) | exact Or.inr (Or.inr rfl)) (hd : (x == ("__debug__" : Str)) = false := by decide) (hcd : (x == ("__classdict__" : Str)) = false := by decide) (hx : PlainIx b := by intro _ _; rfl)
    (hpe : ∀ {t : TE}, PE X (.Subscript (.Name x p) b p2) t → PE X (.Call (.Attribute (.Subscript (.Name x p) b p2) "insert" p3) [a, e] [] p4) (tBM X.K "list" (fun x vs H Q => ∃ (l : Addr) (xs : List V) (i : Int) (y : V), x = .ref l ∧ vs = [.int i, y] ∧ H l = some (.lst xs) ∧ xs.length < sizeLine ∧ 0 ≤ i ∧ i < 2 ^ 63 ∧ Q .non (upd H l (.lst (xs.take i.toNat ++ [y] ++ xs.drop i.toNat)))) t (tCons (tSem X a) (tCons (tSem X e) tNil))) := by
      intro _ ht; exact pe_bm PySem.F.plainAttrs_list PySem.F.slot_list_insert PySem.F.type_list_insert mt_insert ht (pa_cons pe_sem (pa_cons pe_sem pa_nil)))
    (hsw : swapsWith (.Call (.Attribute (.Subscript (.Name x p) b p2) "insert" p3) [a, e] [] p4) none p5.line X.env = pure false := by rfl) :
    Go X B (.Expr (.Call (.Attribute (.Subscript (.Name x p) b p2) "insert" p3) [a, e] [] p4) p5 :: rest) ss D :=
  go_step (ps_expr (hpe (pe_ix ix_seq (pe_var hN hv hd hcd) pe_sem hx)) hsw) fun σ F H s => by
    obtain ⟨v, ev, hP⟩ := s.slot i _ hs
    refine ⟨v, ev, hb σ F H s _ fun w F1 H1 g1 r1 => ?_⟩
    cases r1
    obtain ⟨aa, as, rfl, ra⟩ := hP F1 H1 g1
    have hjS : j < S.length := (ixN_seq hj).2.1
    obtain ⟨l, e1, _, _, _, hl⟩ := ra.get hjS
    refine .inl ⟨aa, as.map V.ref, k, .ref l, rfl, rfl, SqL.of ra.at_, by unfold atI; rw [List.length_map, ra.len, hj]; show (as.map V.ref)[j]? = _; rw [List.getElem?_map, e1]; rfl, .inl ⟨rfl, _, SqL.of hl⟩, hm σ F1 H1 (s.grow g1) _ fun w2 F2 H2 g2 r2 => hn σ F2 H2 (s.grow (g1.trans g2)) _ fun w3 F3 H3 g3 r3 => ?_⟩
    cases r2; cases r3
    have ra3 := (ra.grow g2).grow g3
    have hl3 := g3.hh _ _ (g2.hh _ _ hl)
    refine ⟨l, (S.getD j []).map V.int, m, .int n, rfl, rfl, hl3, by rw [List.length_map]; exact hz, h0, by omega, ?_⟩
    have e4 : ((S.getD j []).map V.int).take m.toNat ++ [V.int n] ++ ((S.getD j []).map V.int).drop m.toNat = ((S.getD j []).take m.toNat ++ [n] ++ (S.getD j []).drop m.toNat).map V.int := by
      simp [List.map_take, List.map_drop]
    rw [e4]
    exact h σ F3 _ ((s.grow ((g1.trans g2).trans g3)).rowPut hs ev ra3 e1 nr (fun k es => noOwn_at no))
/-- rows[k].reverse() -/
theorem go_rowRev (i : Nat) {x : Str} {k : Int} {j : Nat} (hs : ss[i]? = some (.raw (rowsP B.H0 S))) (hb : PD X B b ss (.int k)) (hj : ixN S.length k = some j)
    (h : Go X B rest (ss.set i (.raw (rowsP B.H0 (S.set j (S.getD j []).reverse)))) D) (no : noOwn (ss.set i .un) = true := by rfl) (nr : noRaw (ss.set i .un) = true := by rfl)
    (hN : X.N[i]? = some x := by rfl) (hv : Vis X.env.scope x := by first | exact Or.inl rfl | exact Or.inr (Or.inl rfl) | exact Or.inr (Or.inr rfl)) (hd : (x == ("__debug__" : Str)) = false := by decide) (hcd : (x == ("__classdict__" : Str)) = false := by decide) (hx : PlainIx b := by intro _ _; rfl)
    (hpe : ∀ {t : TE}, PE X (.Subscript (.Name x p) b p2) t → PE X (.Call (.Attribute (.Subscript (.Name x p) b p2) "reverse" p3) [] [] p4) (tBM0 X.K "list" rReverse t) := by
      intro _ ht; exact pe_bm0 PySem.F.plainAttrs_list PySem.F.slot_list_reverse PySem.F.type_list_reverse mt_reverse ht)
    (hsw : swapsWith (.Call (.Attribute (.Subscript (.Name x p) b p2) "reverse" p3) [] [] p4) none p5.line X.env = pure false := by rfl) :
    Go X B (.Expr (.Call (.Attribute (.Subscript (.Name x p) b p2) "reverse" p3) [] [] p4) p5 :: rest) ss D :=
  go_step (ps_expr (hpe (pe_ix ix_seq (pe_var hN hv hd hcd) pe_sem hx)) hsw) fun σ F H s => by
    obtain ⟨v, ev, hP⟩ := s.slot i _ hs
    refine ⟨v, ev, hb σ F H s _ fun w F1 H1 g1 r1 => ?_⟩
    cases r1
    obtain ⟨aa, as, rfl, ra⟩ := hP F1 H1 g1
    have hjS : j < S.length := (ixN_seq hj).2.1
    obtain ⟨l, e1, _, _, _, hl⟩ := ra.get hjS
    refine .inl ⟨aa, as.map V.ref, k, .ref l, rfl, rfl, SqL.of ra.at_, by unfold atI; rw [List.length_map, ra.len, hj]; show (as.map V.ref)[j]? = _; rw [List.getElem?_map, e1]; rfl, .inl ⟨rfl, _, SqL.of hl⟩, ⟨l, _, rfl, rfl, hl, ?_⟩⟩
    rw [← List.map_reverse]
    exact h σ F1 _ ((s.grow g1).rowPut hs ev ra e1 nr (fun k es => noOwn_at no))
/-- rows[k][m] = n -/
theorem go_rowSet (i : Nat) {x : Str} {k m n : Int} {j q : Nat} (hs : ss[i]? = some (.raw (rowsP B.H0 S))) (he : PD X B e ss (.int n)) (hb : PD X B b ss (.int k)) (hj : ixN S.length k = some j) (hm : PD X B a ss (.int m)) (hq : ixN (S.getD j []).length m = some q)
    (h : Go X B rest (ss.set i (.raw (rowsP B.H0 (S.set j ((S.getD j []).set q n))))) D) (no : noOwn (ss.set i .un) = true := by rfl) (nr : noRaw (ss.set i .un) = true := by rfl)
    (hN : X.N[i]? = some x := by rfl) (hv : Vis X.env.scope x := by first | exact Or.inl rfl | exact Or.inr (Or.inl rfl) | exact Or.inr (Or.inr rfl)) (hd : (x == ("__debug__" : Str)) = false := by decide) (hcd : (x == ("__classdict__" : Str)) = false := by decide) (hx : PlainIx b := by intro _ _; rfl)
    (hps : ∀ {t : TE}, PE X (.Subscript (.Name x p) b p2) t → PS X (.Assign [.Subscript (.Subscript (.Name x p) b p2) a p3] e pos) (tAsg (tSem X e) (gSub t (tSem X a) rSetL)) := by intro _ ht; exact ps_asg pe_sem (pg_sub ht pe_sem set_list)) :
    Go X B (.Assign [.Subscript (.Subscript (.Name x p) b p2) a p3] e pos :: rest) ss D :=
  go_step (hps (pe_ix ix_seq (pe_var hN hv hd hcd) pe_sem hx)) fun σ F H s => he σ F H s _ fun u F0 H0' g0 r0 => by
    cases r0
    have s0 := s.grow g0
    obtain ⟨v, ev, hP⟩ := s0.slot i _ hs
    refine ⟨v, ev, hb σ F0 H0' s0 _ fun w F1 H1 g1 r1 => ?_⟩
    cases r1
    obtain ⟨aa, as, rfl, ra⟩ := hP F1 H1 g1
    have hjS : j < S.length := (ixN_seq hj).2.1
    obtain ⟨l, e1, _, _, _, hl⟩ := ra.get hjS
    refine .inl ⟨aa, as.map V.ref, k, .ref l, rfl, rfl, SqL.of ra.at_, by unfold atI; rw [List.length_map, ra.len, hj]; show (as.map V.ref)[j]? = _; rw [List.getElem?_map, e1]; rfl, hm σ F1 H1 (s0.grow g1) _ fun w2 F2 H2 g2 r2 => ?_⟩
    cases r2
    have ra2 := ra.grow g2
    refine ⟨l, _, m, q, rfl, rfl, g2.hh _ _ hl, by rw [List.length_map]; exact hq, ?_⟩
    rw [← List.map_set]
    exact h σ F2 _ ((s0.grow (g1.trans g2)).rowPut hs ev ra2 e1 nr (fun k es => noOwn_at no))
/-- the rows are known for good from now on -/
theorem go_rowsFreeze {l : List Stmt} (i : Nat) (hs : ss[i]? = some (.raw (rowsP B.H0 S))) (h : Go X B l (ss.set i (.own (S.map (dSq false)))) D) (no : noOwn (ss.set i .un) = true := by rfl) (nr : noRaw (ss.set i .un) = true := by rfl) : Go X B l ss D := fun σ F H s => by
  obtain ⟨v, ev, hP⟩ := s.slot i _ hs
  obtain ⟨aa, as, rfl, ra⟩ := hP F H (Grow.refl s.fh)
  have hi : i < ss.length := (List.getElem?_eq_some_iff.mp hs).1
  let F' : Hp := fun b => if b ∈ as then H b else F b
  have inas : ∀ b ∈ as, B.H0 b = none ∧ F b = none ∧ b ≠ aa := fun b hb => by
    obtain ⟨j, hj, e⟩ := List.mem_iff_getElem.mp hb
    have e' : as[j]? = some b := by rw [List.getElem?_eq_getElem hj, e]
    obtain ⟨l', q1, q2, q3, q4, _⟩ := ra.get (j := j) (by rw [← ra.len]; exact hj)
    rw [e'] at q1
    cases q1
    exact ⟨q3, q4, q2⟩
  have sm : Same F F' := fun b o q => by
    show (if b ∈ as then H b else F b) = some o
    rw [if_neg (fun z => by rw [(inas b z).2.1] at q; cases q)]
    exact q
  have fh : Same F' H := fun b o q => by
    have q' : (if b ∈ as then H b else F b) = some o := q
    by_cases hb : b ∈ as
    · rw [if_pos hb] at q'; exact q'
    · rw [if_neg hb] at q'; exact s.fh b o q'
  have u := s.unset i
  have rp : RpAll X.K B.C F' (as.map V.ref) (S.map (dSq false)) := by
    have key : ∀ (S' : List (List Int)) (as' : List Addr), as'.length = S'.length → (∀ (j : Nat) (l : Addr) (r : List Int), as'[j]? = some l → S'[j]? = some r → F' l = some (.lst (r.map V.int))) → RpAll X.K B.C F' (as'.map V.ref) (S'.map (dSq false)) := by
      intro S'
      induction S' with
      | nil => intro as' hl _; cases as' with
        | nil => exact .nil
        | cons _ _ => cases hl
      | cons r S' ih => intro as' hl hq; cases as' with
        | nil => cases hl
        | cons l as' =>
          refine .cons (.lst (hq 0 l r rfl rfl) (RpAll.ints r)) (ih as' (Nat.succ.inj hl) fun j l' r' e1 e2 => hq (j + 1) l' r' (by simpa using e1) (by simpa using e2))
    refine key S as ra.len fun j l r e1 e2 => ?_
    show (if l ∈ as then H l else F l) = _
    rw [if_pos (List.mem_of_getElem? e1)]
    exact (ra.row j l r e1 e2).2.2.2
  have fa : F' aa = none := by
    show (if aa ∈ as then H aa else F aa) = none
    rw [if_neg (fun z => (inas aa z).2.2 rfl)]; exact ra.of_
  have g' : Grow B.F0 B.H0 F' H := ⟨s.g.hh, s.g.ff.trans sm, fh, fun b o e1 e2 => by
    show (if b ∈ as then H b else F b) = none
    rw [if_neg (fun z => by rw [(inas b z).1] at e1; cases e1)]
    exact s.g.own b o e1 e2⟩
  have u' : Sat X.K B (ss.set i .un) σ F' H := by
    refine ⟨g', s.pin.trans sm, u.len, fun j sd q => ?_, u.ne⟩
    have z := u.slot j sd q
    cases sd with
    | un => trivial
    | dat d => obtain ⟨v, e1, r⟩ := z; exact ⟨v, e1, r.mono sm⟩
    | bor d => exact z
    | val v => exact z
    | own es => exact (noOwn_at no q).elim
    | raw P => exact (noRaw_at nr q).elim
  have w := u'.set_own (i := i) ra.o0 fa ra.at_ rp (fun j es _ q => (noOwn_at no q).elim)
  rw [List.set_set] at w
  have e3 : σ.set i (some (.ref aa)) = σ := by
    apply List.ext_getElem?
    intro k
    by_cases hk : i = k
    · subst hk; rw [List.getElem?_set_self (by rw [s.len]; exact hi), ev]
    · rw [List.getElem?_set_ne hk]
  rw [e3] at w
  exact h σ F' H w
/-- one more row -/
theorem RowsAt.more {H0 F H F' H' : Hp} {S : List (List Int)} {a l : Addr} {as : List Addr} {r : List Int} (h : RowsAt H0 S a as F H) (g : Grow F H F' H') (n0 : H0 l = none) (nH : H l = none) (nF : F' l = none) (hl : H' l = some (.lst (r.map V.int))) : RowsAt H0 (S ++ [r]) a (as ++ [l]) F' (upd H' a (.lst (as.map V.ref ++ [V.ref l]))) := by
  have la : l ≠ a := fun e => by subst e; rw [h.at_] at nH; cases nH
  have h' := h.grow g
  have nm : l ∉ as := fun hm => by
    obtain ⟨j, hj, e⟩ := List.mem_iff_getElem.mp hm
    have e' : as[j]? = some l := by rw [List.getElem?_eq_getElem hj, e]
    obtain ⟨l', q1, _, _, _, q5⟩ := h.get (j := j) (by rw [← h.len]; exact hj)
    rw [e'] at q1
    cases q1
    rw [nH] at q5; cases q5
  refine ⟨h.o0, h'.of_, by rw [upd_same, List.map_append]; rfl, by rw [List.length_append, List.length_append, h.len]; rfl, List.nodup_append.mpr ⟨h.nd, List.nodup_cons.mpr ⟨by simp, List.nodup_nil⟩, fun x hx y hy => ?_⟩, fun j m q e1 e2 => ?_⟩
  · rw [List.mem_singleton] at hy
    subst hy
    exact fun e => nm (e ▸ hx)
  · by_cases hj : j < as.length
    · rw [List.getElem?_append_left hj] at e1
      rw [List.getElem?_append_left (by rw [← h.len]; exact hj)] at e2
      obtain ⟨q1, q2, q3, q4⟩ := h'.row j m q e1 e2
      exact ⟨q1, q2, q3, by rw [upd_ne q1]; exact q4⟩
    · have hj2 : j = as.length := by
        have := (List.getElem?_eq_some_iff.mp e1).1
        rw [List.length_append] at this
        simp at this
        omega
      subst hj2
      rw [List.getElem?_append_right (Nat.le_refl _), Nat.sub_self] at e1
      rw [List.getElem?_append_right (by rw [h.len]; exact Nat.le_refl _), h.len, Nat.sub_self] at e2
      cases Option.some.inj e1
      cases Option.some.inj e2
      exact ⟨la, n0, nF, by rw [upd_ne la]; exact hl⟩
/-- rows = [e for y in a], each e a new list of numbers -/
theorem go_asgRows {β : Type} {xs : List β} {f : β → PyData} {g : β → List Int} (i j : Nat) {x y : Str} {scope : Scope} (cx : Cxt X) (he : PIs X B a ss (xs.map f))
    (hel : ∀ (Fp : Hp) (u : β), u ∈ xs → ∀ (s : Shared) (H' : Hp) (C : Addr) (cl : List (Str × Addr)) (fp : List Addr), PN (Blk X scope s H' C cl fp) (B.pinned Fp) e (ss.set j (.dat (f u))) (dIs (g u)))
    (hz : xs.length < sizeLine) (k : Go X B rest (ss.set i (.raw (rowsP B.H0 (xs.map g)))) D) (nr : noRaw ss = true := by rfl)
    (hok : BlkOk X.N X.env.scope scope [(y, j)] := by exact blkOk_by (by kernel_rfl))
    (hpg : X.N.Nodup → ∀ (s : Shared) (H' : Hp) (C : Addr) (cl : List (Str × Addr)) (fp : List Addr), PG (Blk X scope s H' C cl fp) (.Name y p) (gName j) := by intro hnd _ _ _ _ _; exact pg_name hnd (by rfl) (Or.inl rfl))
    (hs : ∀ x, foldedSetIterable a X.env x = pure x := by intro _; rfl)
    (hi : X.N[i]? = some x := by rfl) (hyl : X.env.scope.names.lookup x = some .local := by rfl)
    (hsw : swapsWith (.ListComp e [⟨.Name y p, a, [], 0⟩] scope p2) (some (.Name x p3)) pos.line X.env = pure true := by exact sw_true rfl rfl rfl rfl) : Go X B (.Assign [.Name x p3] (.ListComp e [⟨.Name y p, a, [], 0⟩] scope p2) pos :: rest) ss D :=
  go_step (ps_setLc (te := tBlk X scope e) (own := [(y, j)]) cx.calm cx.nd hi hyl hsw (pi_seq pe_sem) hok (hpg cx.nd) (fun _ _ _ _ _ => pts_nil) (fun s H' C cl fp => ⟨fun pins s1 σ H Q I h => h s H' C cl fp pins s1 I⟩) hs) fun σ F H s => he σ F H s _ fun l vs F1 H1 g1 sq r => by
    have s1 := s.grow g1
    have ll : vs.length = xs.length := by rw [r.length, List.length_map]
    have pn : Same B.Fp F1 := s.pin.trans g1.ff
    have main : ∀ Dl, H1 Dl = none → ∃ Pv : Nat → Hp → Prop, Pv 0 (upd H1 Dl (.lst [])) ∧ (∀ i H', Pv i H' → ∃ F', Same F1 F' ∧ Same F' H') ∧
        (∀ i x H', vs[i]? = some x → Pv i H' → gName j x (wipe σ [j]) H' fun σ2 H2 => wipe σ2 [j] = wipe σ [j] ∧ tYes σ2 H2 fun b H3 =>
          if b = true then tBlk X scope e σ2 H3 fun z H4 => ∃ acc, H4 Dl = some (.lst acc) ∧ acc.length < sizeLine ∧ Pv (i + 1) (upd H4 Dl (.lst (acc ++ [z]))) else Pv (i + 1) H3) ∧
        (∀ H', Pv vs.length H' → gName i (.ref Dl) σ H' (tSS X rest D)) := by
      intro Dl hD
      have ap : ∀ (i : Nat) (es : List PyData), ss[i]? = some (.own es) → σ[i]? ≠ some (some (.ref Dl)) := fun i es e1 e2 => by
        obtain ⟨a', ws, ea, _, _, h2, _⟩ := s1.slot i _ e1
        rw [e2] at ea
        injection ea with ea
        injection ea with ea
        injection ea with ea
        subst ea
        rw [hD] at h2; cases h2
      have hF1 : F1 Dl = none := g1.fh.free hD
      have hB0 : B.H0 Dl = none := s1.g.hh.free hD
      refine ⟨fun n H' => ∃ F' as, Sat X.K (B.pinned F1) ss σ F' H' ∧ RowsAt B.H0 ((xs.take n).map g) Dl as F' H', ⟨F1, [], s1.pinned.upd hB0 hF1 nr ap, ?_⟩, ?_, ?_, ?_⟩
      · rw [List.take_zero]
        exact ⟨hB0, hF1, upd_same, rfl, List.nodup_nil, fun j l r e1 => by simp at e1⟩
      · rintro n H' ⟨F', as, s', _⟩
        exact ⟨F', s'.pin, s'.fh⟩
      · rintro n w H' hi' ⟨F', as, s', ra⟩
        obtain ⟨d, hd, rd⟩ := RpAll.getV r hi'
        rw [List.getElem?_map] at hd
        cases hu : xs[n]? with
        | none => rw [hu] at hd; cases hd
        | some u =>
          rw [hu] at hd
          cases hd
          have hil : n < xs.length := (List.getElem?_eq_some_iff.mp hu).1
          have tk : xs.take (n + 1) = xs.take n ++ [u] := by
            rw [List.take_add_one, hu]; rfl
          have wset : (wipe σ [j]).set j (some w) = σ.set j (some w) := by
            show ((wipe σ []).set j none).set j (some w) = _
            rw [List.set_set]; rfl
          have wset2 : wipe (σ.set j (some w)) [j] = wipe σ [j] := by
            show (σ.set j (some w)).set j none = σ.set j none
            rw [List.set_set]
          show wipe ((wipe σ [j]).set j (some w)) [j] = wipe σ [j] ∧ tYes ((wipe σ [j]).set j (some w)) H' _
          rw [wset]
          refine ⟨wset2, ?_⟩
          simp only [tYes, ↓reduceIte]
          have s2 : Sat X.K (B.pinned F1) (ss.set j (.dat (f u))) (σ.set j (some w)) F' H' := s'.set_dat (rd.mono s'.pin)
          intro s5 H5 C5 cl5 fp5
          refine hel F1 u (List.mem_of_getElem? hu) s5 H5 C5 cl5 fp5 _ F' H' s2 _ fun la lv F4 H4 g4 nH nF h4 r4 => ?_
          have ei := RpAll.intsV r4
          subst ei
          have ra4 := ra.grow g4
          refine ⟨as.map V.ref, ra4.at_, ?_, F4, as ++ [la], (s'.grow g4).upd hB0 ra4.of_ nr ap, ?_⟩
          · rw [List.length_map, ra.len, List.length_map, List.length_take]
            omega
          · rw [tk, List.map_append]
            exact ra.more g4 (s'.g.hh.free nH) nH nF h4
      · rintro H' ⟨F', as, s', ra⟩
        rw [ll, List.take_length] at ra
        exact k _ F' H' ((s'.unpin pn).set_raw fun F2 H2 g2 => ⟨Dl, as, rfl, ra.grow g2⟩)
    refine ⟨l, rfl, ?_⟩
    rcases sq with sq | sq
    · refine .inl ⟨vs, g1.fh.seq sq, fun Dl hD => ?_⟩
      obtain ⟨Pv, p0, pl, ps, pe⟩ := main Dl hD
      exact lc_list (K := X.K) (a := l) (xs := vs) Pv p0 (fun i H' _ pv => let ⟨F', a1, a2⟩ := pl i H' pv; a2.seq (a1.seq sq)) ps pe
    · refine .inr ⟨vs, Same.sqt g1.fh sq, fun Dl hD => ?_⟩
      obtain ⟨Pv, p0, pl, ps, pe⟩ := main Dl hD
      exact lc_tup (K := X.K) (a := l) (xs := vs) Pv p0 (fun i H' _ pv => let ⟨F', a1, a2⟩ := pl i H' pv; Same.sqt a2 (Same.sqt a1 sq)) ps pe
end
end G

namespace G
open PySem L2
def topS (i : Nat) : Stmt := PySem.Challenge.pw_cranefloor_k02_good_standings.main.body.getD i (.Pass ⟨0, 0, 0, 0⟩)
abbrev s_see_bans : Stmt := topS 4
abbrev s_Floor_init : Stmt := inClass (topS 5) 0
abbrev s_Floor_stacks : Stmt := inClass (topS 5) 1
abbrev s_Floor_height : Stmt := inClass (topS 5) 2
abbrev s_Floor_lift : Stmt := inClass (topS 5) 3
abbrev s_Floor_bans : Stmt := inClass (topS 5) 4
abbrev s_crates_of : Stmt := topS 6
abbrev s_stack_is_good : Stmt := topS 7
abbrev s_is_good : Stmt := topS 8
abbrev s_law_cell_at : Stmt := topS 10
abbrev s_law_whole : Stmt := topS 11
abbrev s_law_floor : Stmt := topS 12
abbrev s_law_good : Stmt := topS 13
abbrev s_law_standing : Stmt := topS 14
abbrev s_law_turned : Stmt := topS 15
abbrev s_law : Stmt := topS 16
end G

namespace G
open PySem L2
theorem sc_crates_of : FnScope ["standing", "found", "stack"] ["standing"] (defScope s_crates_of) := ⟨rfl, rfl, rfl, by decide +kernel, rfl, by decide +kernel, by decide +kernel⟩
abbrev sp_crates_of (K : PySem.W.Frag) (C : Addr) : Sp := spO K C (fun S : List (List Int) => [dSt S]) (fun S => S.flatten.length ≤ 1000) (fun S => .new (dIs (isort S.flatten)))
theorem ok_crates_of {P : Program} {w : World} {K : PySem.W.Frag} {mg : Str → Option Value} {base : Heap} {C f : Addr} {fd : FuncData} (T : Bl mg) (F : L2.Fun K "crates_of" "crates_of" s_crates_of f fd) :
    FnOk P w K mg base (L2.CX P w) 1 f fd ["standing"] (sp_crates_of K C) := by
  refine ok_fn F sc_crates_of (fun _ => rfl) (fun cdv A outer s H F0 S Q E X hX cx hr tk hp ho => ?_)
  subst hX
  refine go_asgN 1 cx.nd (pn_lst pds_nil) ?_
  refine go_for 2 (fun i ss => ∃ z, ss = [.dat (dSt S), .own (dIs (S.take i).flatten), z]) cx (PD.itt (pd_var 0)) ⟨_, rfl⟩ ?_ ?_
  · rintro Fp i r _ hi ⟨z, rfl⟩
    refine go_extend 1 rfl (PN.da (pn_list (PIs.it (PD.itt (pd_var 2))) T.list)) (go_end ⟨.dat (dRow r), ?_⟩) ?_
    · simp [dIs, flatten_take hi]
    · rw [List.length_map, List.length_map, ← List.length_append, ← flatten_take hi]
      exact sz1000 (Nat.le_trans (flatten_take_le _ _) hp)
  · rintro _ ⟨z, rfl⟩
    rw [List.take_length]
    exact go_retN (pn_sorted (pl_own 1) T.sorted (hms := fun l h1 h2 => isort_is h1 h2)) ho
end G

namespace G
open PySem L2
theorem sc_stack_is_good : FnScope ["floor", "stack", "k"] ["floor", "stack"] (defScope s_stack_is_good) := ⟨rfl, rfl, rfl, by decide +kernel, rfl, by decide +kernel, by decide +kernel⟩
abbrev sp_stack_is_good (K : PySem.W.Frag) (C : Addr) : Sp := spO K C (fun u : FL × List Int => [dFl u.1, dRow u.2]) (fun u => u.2.length ≤ 1000) (fun u => .val (.bool (stackOk u.1.2.1 u.1.2.2.2 u.2)))
theorem ok_stack_is_good {P : Program} {w : World} {K : PySem.W.Frag} {mg : Str → Option Value} {base : Heap} {C f : Addr} {fd : FuncData} (T : Bl mg) (TF : FlT K mg C) (F : L2.Fun K "stack_is_good" "stack_is_good" s_stack_is_good f fd) :
    FnOk P w K mg base (L2.CX P w) 1 f fd ["floor", "stack"] (sp_stack_is_good K C) := by
  refine ok_fn F sc_stack_is_good (fun _ => rfl) (fun cdv A outer s H F0 u Q E X hX cx hr tk hp ho => ?_)
  subst hX
  obtain ⟨⟨m, h, t, bs⟩, r⟩ := u
  dsimp only [dFl] at hp ho ⊢
  refine go_if (td_cmp op_gt (PD.bo (pd_len (PD.tp (pd_var 1)) T.len)) (PD.bo (pd_fldI (pd_var 0) TF.cl TF.nH (lk_high _ _ _))) ob_gt (nomark _)) (fun c => ?_) (fun c => go_on ?_)
  · refine go_ret (pd_bl.eq ?_) ho
    show PyData.bool false = .bool (stackOk h bs r)
    have c' := of_decide_eq_true c
    rw [List.length_map] at c'
    unfold stackOk
    rw [decide_eq_false (by omega)]; rfl
  · have c' := of_decide_eq_false c
    rw [List.length_map] at c'
    refine go_rng2 2 (fun i ss => (∃ z, ss = [.dat (flr m h t (dPrs bs)), .dat (dRow r), z]) ∧ ∀ k, k < i → (r.getD (k + 1) 0, r.getD k 0) ∉ bs) cx pd_int (pd_len (PD.tp (pd_var 1)) T.len) ?_ ⟨⟨_, rfl⟩, fun k hk => by omega⟩ ?_ ?_ T.range
    · rw [List.length_map]; omega
    · rintro i _ hi ⟨⟨z, rfl⟩, hk⟩
      rw [List.length_map] at hi
      refine go_if (td_cmp (op_inD cx.units) (PD.bo (pd_tup (pds_cons (pd_ix (PD.tp (pd_var 1)) (pd_var 2) (at_nat (j := i + 1) ?_ (row_at ?_))) (pds_cons (pd_ix (PD.tp (pd_var 1)) (pd_sub (pd_var 2) pd_int) (at_nat (j := i) ?_ (row_at ?_))) pds_nil))))
        (PD.bo (pd_fldB (pd_var 0) TF.cl TF.nB)) (ob_inD (pl_pr (_, _)) (pl_prs bs) (by decide) (by decide)) rfl) (fun q => ?_) (fun q => go_on (go_end ⟨⟨_, rfl⟩, fun k hk' => ?_⟩))
      · push_cast; omega
      · omega
      · omega
      · omega
      · refine go_ret (pd_bl.eq ?_) ho
        have q := (any_pr bs (r.getD (i + 1) 0, r.getD i 0)).symm.trans q
        show PyData.bool false = .bool (stackOk h bs r)
        unfold stackOk
        rw [rowOk_no (k := i) (by omega) (of_decide_eq_true q), Bool.and_false]
      · have q := (any_pr bs (r.getD (i + 1) 0, r.getD i 0)).symm.trans q
        by_cases e : k = i
        · subst e; exact of_decide_eq_false q
        · exact hk k (by omega)
    · rintro _ ⟨⟨z, rfl⟩, hk⟩
      rw [List.length_map] at hk
      refine go_ret (pd_bl.eq ?_) ho
      show PyData.bool true = .bool (stackOk h bs r)
      unfold stackOk
      rw [decide_eq_true (by omega), rowOk_yes (fun k hk' => hk k (by omega))]; rfl
end G

namespace G
open PySem L2
theorem sc_is_good : FnScope ["floor", "standing", "crates", "stack"] ["floor", "standing"] (defScope s_is_good) := ⟨rfl, rfl, rfl, by decide +kernel, rfl, by decide +kernel, by decide +kernel⟩
abbrev sp_is_good (K : PySem.W.Frag) (C : Addr) : Sp := spO K C (fun u : FL × List (List Int) => [dFl u.1, dSt u.2]) (fun u => u.2.flatten.length ≤ 1000) (fun u => .val (.bool (good u.1.1 u.1.2.1 u.1.2.2.2 u.2)))
theorem ok_is_good {P : Program} {w : World} {K : PySem.W.Frag} {mg : Str → Option Value} {base : Heap} {C f : Addr} {fd : FuncData} (T : Bl mg) (F : L2.Fun K "is_good" "is_good" s_is_good f fd) (TF : FlT K mg C)
    (cC : Cal P w K mg base "crates_of" 1 (sp_crates_of K C)) (cS : Cal P w K mg base "stack_is_good" 1 (sp_stack_is_good K C)) :
    FnOk P w K mg base (L2.CX P w) 2 f fd ["floor", "standing"] (sp_is_good K C) := by
  refine ok_fn F sc_is_good (fun _ => rfl) (fun cdv A outer s H F0 u Q E X hX cx hr tk hp ho => ?_)
  subst hX
  obtain ⟨⟨m, h, t, bs⟩, S⟩ := u
  dsimp only [dFl] at hp ho ⊢
  refine go_asgN 2 cx.nd (pn_call cC hr S (pds_cons (pd_var 1) pds_nil) rfl hp) ?_
  have hz : (isort S.flatten).length ≤ 4000 := by rw [isort_length]; omega
  refine go_if (TW.t (tw_or (td_cmp op_ne (PD.bo (pd_len (PD.tp (pd_var 1)) T.len)) (PD.bo (pd_fldI (pd_var 0) TF.cl TF.nM (lk_many _ _ _))) ob_neI (nomark _))
    fun _ => tw_or1 (td_cmp op_lt (PD.bo (pd_lenSet cx (pl_own 2) hz T.len T.set)) (PD.bo (pd_len (pi_own 2) T.len)) ob_lt (nomark _)))) (fun c => ?_) (fun c => go_on ?_)
  · refine go_ret (pd_bl.eq ?_) ho
    show PyData.bool false = .bool (good m h bs S)
    rw [List.length_map, List.length_map, dcount_lt] at c
    unfold good
    rcases Bool.or_eq_true_iff.mp c with c | c
    · have : ¬ ((S.length : Int) = m) := by simpa using c
      rw [decide_eq_false this]; rfl
    · have : ¬ S.flatten.Nodup := by
        have q : ¬ (isort S.flatten).Nodup := by simpa using c
        exact fun z => q ((nodup_isort _).mpr z)
      rw [decide_eq_false this]; simp
  · rw [List.length_map, List.length_map, dcount_lt] at c
    obtain ⟨c1, c2⟩ := Bool.or_eq_false_iff.mp c
    have h1 : (S.length : Int) = m := by simpa using c1
    have h2 : S.flatten.Nodup := (nodup_isort _).mp (by simpa using c2)
    refine go_if (TW.t (tw_or (td_cmp op_lt (PD.bo (pd_minDf cx (pl_own 2) pd_int T.min)) (PD.bo pd_int) ob_lt (nomark _)) fun _ => tw_or1 (td_cmp op_gt (PD.bo (pd_maxDf cx (pl_own 2) pd_int T.max)) (PD.bo pd_int) ob_gt (nomark _)))) (fun q => ?_) (fun q => go_on ?_)
    · refine go_ret (pd_bl.eq ?_) ho
      show PyData.bool false = .bool (good m h bs S)
      rw [minDf_neg, maxDf_nine, all_isort, all_isort] at q
      have : S.flatten.all (fun c => decide (0 ≤ c) && decide (c ≤ 9)) = false := by
        rw [all_and2]
        rcases Bool.or_eq_true_iff.mp q with q | q
        · rw [of_not_true q, Bool.false_and]
        · rw [of_not_true q, Bool.and_false]
      unfold good
      rw [this]; simp
    · rw [minDf_neg, maxDf_nine, all_isort, all_isort] at q
      obtain ⟨q1, q2⟩ := Bool.or_eq_false_iff.mp q
      have h3 : S.flatten.all (fun c => decide (0 ≤ c) && decide (c ≤ 9)) = true := by
        rw [all_and2]
        rw [of_not_false q1, of_not_false q2]; rfl
      refine go_for 3 (fun i ss => (∃ y z, ss = [.dat (flr m h t (dPrs bs)), .dat (dSt S), y, z]) ∧ ∀ k, k < i → ∀ r, S[k]? = some r → stackOk h bs r = true) cx (PD.itt (pd_var 1)) ⟨⟨_, _, rfl⟩, fun k hk => by omega⟩ ?_ ?_
      · rintro Fp i r _ hi ⟨⟨y, z, rfl⟩, hk⟩
        have hrl : r.length ≤ 1000 := by
          have := flatten_take_le S (i + 1)
          rw [flatten_take hi, List.length_append] at this
          omega
        refine go_if (td_not (td_val (pd_call cS (hr.mono (by decide)) ((m, h, t, bs), r) (pds_cons (pd_var 0) (pds_cons (pd_var 3) pds_nil)) rfl hrl))) (fun q => ?_) (fun q => go_on (go_end ⟨⟨_, _, rfl⟩, fun k hk' r' hr' => ?_⟩))
        · refine go_ret (pd_bl.eq ?_) ho
          show PyData.bool false = .bool (good m h bs S)
          have : S.all (stackOk h bs) = false := List.all_eq_false.mpr ⟨r, List.mem_of_getElem? hi, by simpa using q⟩
          unfold good
          rw [this]; simp
        · by_cases e : k = i
          · subst e
            rw [hi] at hr'; cases hr'
            simpa using q
          · exact hk k (by omega) r' hr'
      · rintro _ ⟨⟨y, z, rfl⟩, hk⟩
        refine go_ret (pd_bl.eq ?_) ho
        show PyData.bool true = .bool (good m h bs S)
        have : S.all (stackOk h bs) = true := List.all_eq_true.mpr fun r hr' => by
          obtain ⟨k, hk', e⟩ := List.mem_iff_getElem.mp hr'
          exact hk k hk' r (by rw [List.getElem?_eq_getElem hk', e])
        unfold good
        rw [this, h3, decide_eq_true h1, decide_eq_true h2]; rfl
end G

namespace G
open PySem L2
theorem sc_see_bans : FnScope ["bans", "one", "other"] ["bans"] (defScope s_see_bans) := ⟨rfl, rfl, rfl, by decide +kernel, rfl, by decide +kernel, by decide +kernel⟩
abbrev sp_see_bans (K : PySem.W.Frag) (C cNF : Addr) : Sp := spG K C (fun bs : List (Int × Int) => [.bor (.list (dPrs bs))]) (fun _ => True) (fun bs => if bansOk bs = true then .val .none else .exc cNF)
section
variable {P : Program} {w : World} {K : PySem.W.Frag} {mg : Str → Option Value} {base : Heap}
theorem ok_see_bans {C cNF f : Addr} {fd : FuncData} (T : Bl mg) (F : L2.Fun K "see_bans" "see_bans" s_see_bans f fd) (TN : ExT K mg "NoFloor" cNF) :
    FnOk P w K mg base (L2.CX P w) 1 f fd ["bans"] (sp_see_bans K C cNF) := by
  refine ok_fnG F sc_see_bans (fun _ => rfl) (fun cdv A outer s H F0 bs Q E X hX cx hr tk hp ho => ?_)
  subst hX
  refine go_if (td_cmp op_gt (PD.bo (pd_lenB (pb_bor 0) T.len)) (PD.bo pd_int) ob_gt (nomark _)) (fun c => ?_) (fun c => go_on ?_)
  · have c' := of_decide_eq_true c
    rw [List.length_map] at c'
    have : bansOk bs = false := by unfold bansOk; rw [decide_eq_false (by omega)]; rfl
    rw [if_neg (by rw [this]; decide)] at ho
    exact go_raise cx.calm tk TN (fun σ F H' sa => ho H' sa.g.hh)
  · have c' := of_decide_eq_false c
    rw [List.length_map] at c'
    refine go_for2 1 2 (fun i ss => (∃ x y, ss = [.bor (.list (dPrs bs)), x, y]) ∧ ∀ k, k < i → ∀ u, bs[k]? = some u → okPair u = true) cx (pip_bor 0) ⟨⟨_, _, rfl⟩, fun k hk => by omega⟩ ?_ ?_
    · rintro Fp i u _ hi ⟨⟨x, y, rfl⟩, hk⟩
      refine go_if (TW.t (tw_or (td_not (td_chain op_le op_le pd_int (pd_var 1) pd_int (pt_chain op_le op_le pe_sem pe_sem pe_sem rfl))) fun _ => tw_or (td_not (td_chain op_le op_le pd_int (pd_var 2) pd_int (pt_chain op_le op_le pe_sem pe_sem pe_sem rfl))) fun _ => tw_or1 (td_cmp op_eq (PD.bo (pd_var 1)) (PD.bo (pd_var 2)) ob_eqI (nomark _)))) (fun q => ?_) (fun q => go_on (go_end ⟨⟨_, _, rfl⟩, fun k hk' v hv => ?_⟩))
      · have hbad : okPair u = false := by
          unfold okPair
          rcases Bool.or_eq_true_iff.mp q with q | q
          · rw [of_not_true q]; rfl
          · rcases Bool.or_eq_true_iff.mp q with q | q
            · rw [of_not_true q, Bool.and_false, Bool.false_and]
            · have := of_decide_eq_true q
              rw [decide_eq_false (by omega : ¬ u.1 ≠ u.2), Bool.and_false]
        have : bansOk bs = false := by unfold bansOk; rw [List.all_eq_false.mpr ⟨u, List.mem_of_getElem? hi, by rw [hbad]; decide⟩, Bool.and_false]
        rw [if_neg (by rw [this]; decide)] at ho
        exact go_raise cx.calm tk TN (fun σ F H' sa => ho H' sa.g.hh)
      · by_cases e : k = i
        · subst e
          rw [hi] at hv; cases hv
          obtain ⟨q1, q2⟩ := Bool.or_eq_false_iff.mp q
          obtain ⟨q2, q3⟩ := Bool.or_eq_false_iff.mp q2
          unfold okPair
          rw [of_not_false q1, of_not_false q2, decide_eq_true (of_decide_eq_false q3)]; rfl
        · exact hk k (by omega) v hv
    · rintro _ ⟨⟨x, y, rfl⟩, hk⟩
      have : bansOk bs = true := by
        unfold bansOk
        rw [decide_eq_true (by omega), Bool.true_and]
        refine List.all_eq_true.mpr fun u hu => ?_
        obtain ⟨k, hk', e⟩ := List.mem_iff_getElem.mp hu
        exact hk k hk' u (by rw [List.getElem?_eq_getElem hk', e])
      rw [if_pos this] at ho
      exact go_nil fun σ F H' sa => ho _ F H' sa.g .non
theorem sc_init : FnScope ["self", "stacks", "height", "lift", "bans", "one", "other"] ["self", "stacks", "height", "lift", "bans"] (defScope s_Floor_init) := ⟨rfl, rfl, rfl, by decide +kernel, rfl, by decide +kernel, by decide +kernel⟩
theorem putF_cons (f g : Str) (v x : V) (r : List (Str × V)) : putF f v ((g, x) :: r) = if g = f then (g, v) :: r else (g, x) :: putF f v r := rfl
theorem putF_nil (f : Str) (v : V) : putF f v [] = [(f, v)] := rfl
abbrev f1 (m : Int) : List (Str × V) := [("many", .int m)]
abbrev f2 (m h : Int) : List (Str × V) := [("many", .int m), ("high", .int h)]
abbrev f3 (m h t : Int) : List (Str × V) := [("many", .int m), ("high", .int h), ("strong", .int t)]
theorem fl_many (m : Int) : putF "many" (.int m) [] = f1 m := rfl
theorem fl_high (m h : Int) : putF "high" (.int h) (f1 m) = f2 m h := by
  rw [putF_cons, if_neg (by decide +kernel), putF_nil]
theorem fl_strong (m h t : Int) : putF "strong" (.int t) (f2 m h) = f3 m h t := by
  rw [putF_cons, if_neg (by decide +kernel), putF_cons, if_neg (by decide +kernel), putF_nil]
theorem fl_banned (m h t : Int) (b : Addr) : putF "banned" (.ref b) (f3 m h t) = flF m h t b := by
  rw [putF_cons, if_neg (by decide +kernel), putF_cons, if_neg (by decide +kernel), putF_cons, if_neg (by decide +kernel), putF_nil]
theorem okPair_64 {bs : List (Int × Int)} (h : bansOk bs = true) : bs.length < 64 ∧ ∀ u ∈ bs, (0 ≤ u.1 ∧ u.1 < 64) ∧ 0 ≤ u.2 ∧ u.2 < 64 := by
  unfold bansOk at h
  obtain ⟨h1, h2⟩ := Bool.and_eq_true_iff.mp h
  have h1 := of_decide_eq_true h1
  refine ⟨by omega, fun u hu => ?_⟩
  have := List.all_eq_true.mp h2 u hu
  unfold okPair at this
  simp only [Bool.and_eq_true, decide_eq_true_eq] at this
  omega
theorem ok_init {C cNF f : Addr} {fd : FuncData} (T : Bl mg) (TF : FlT K mg C) (F : L2.Fun K "__init__" "Floor.__init__" s_Floor_init f fd) (TN : ExT K mg "NoFloor" cNF)
    (cB : Cal P w K mg base "see_bans" 1 (sp_see_bans K C cNF)) :
    FnOk P w K mg base (L2.CX P w) 2 f fd ["self", "stacks", "height", "lift", "bans"] (spInit K C cNF) := by
  refine F.okX sc_init (fun vs H Q E h => ?_) (fun cdv A outer s H vs Q E hr h => ?_)
  · obtain ⟨f, p, dx, v, F0, H1, rfl, _⟩ := h
    rfl
  · obtain ⟨⟨m, hh, t, bs⟩, p, dx, v, F0, H1, rfl, rfl, hp, hdx, hne, hf, rv, kOk, kEx⟩ := h
    dsimp only at rv kOk kEx ⊢
    refine ⟨_, pss_sem, ?_⟩
    generalize hH : upd (upd H1 dx (.own p)) p (.ins C dx []) = H at hr ⊢
    generalize hX : cxOf (L2.CX P w) P w K mg base ["self", "stacks", "height", "lift", "bans", "one", "other"] "Floor.__init__" (defScope s_Floor_init) f cdv A outer s H E = X
    have cx : Cxt X := by subst hX; exact ⟨rfl, sc_init.nd, passes_of rfl, by have := hr.un; show (A.deeper _).units + 65 < cLine; omega⟩
    have tk : Takes X (dW E) := by subst hX; exact takes_of rfl rfl rfl rfl
    have hrX : Room 1 X.A := by subst hX; exact hr
    have same1 : Same H1 H := by
      subst hH
      exact fun b o e => by rw [upd_ne (ne_of_none e hp), upd_ne (ne_of_none e hdx)]; exact e
    have hpF : F0 p = none := hf.free hp
    have hHp : H p = some (.ins C dx []) := by subst hH; exact upd_same
    -- the slots at the start: self is told by its object
    let P0 : V → Hp → Hp → Prop := fun u F' H' => u = .ref p ∧ F' p = none ∧ H' p = some (.ins C dx [])
    have start : Sat K ⟨C, F0, H1, F0⟩ [.raw P0, .dat (.int m), .dat (.int hh), .dat (.int t), .bor (.list (dPrs bs)), .un, .un] (L2.start ["self", "stacks", "height", "lift", "bans", "one", "other"] [.ref p, .int m, .int hh, .int t, v]) F0 H := by
      refine ⟨⟨same1, Same.refl _, hf.trans same1, fun _ _ _ n => n⟩, Same.refl _, rfl, fun i sd e => ?_, fun i j xs ys hij e1 e2 => ?_⟩
      · match i, e with
        | 0, e => cases e; exact ⟨.ref p, rfl, fun F' H' g => ⟨rfl, g.own p _ hHp hpF, g.hh p _ hHp⟩⟩
        | 1, e => cases e; exact ⟨_, rfl, .int _⟩
        | 2, e => cases e; exact ⟨_, rfl, .int _⟩
        | 3, e => cases e; exact ⟨_, rfl, .int _⟩
        | 4, e => cases e; exact ⟨_, rfl, rv⟩
        | 5, e => cases e; trivial
        | 6, e => cases e; trivial
        | i + 7, e => simp at e
      · match i, e1 with
        | 0, e => cases e
        | 1, e => cases e
        | 2, e => cases e
        | 3, e => cases e
        | 4, e => cases e
        | 5, e => cases e
        | 6, e => cases e
        | i + 7, e => simp at e
    have main : Go X ⟨C, F0, H1, F0⟩ (defBody s_Floor_init) [.raw P0, .dat (.int m), .dat (.int hh), .dat (.int t), .bor (.list (dPrs bs)), .un, .un] (dE Q) := by
      subst hX
      refine go_if (TW.t (tw_or (td_not (td_chain op_le op_le pd_int (pd_var 1) pd_int (pt_chain op_le op_le pe_sem pe_sem pe_sem rfl))) fun _ => tw_or (td_not (td_chain op_le op_le pd_int (pd_var 2) pd_int (pt_chain op_le op_le pe_sem pe_sem pe_sem rfl))) fun _ => tw_or1 (td_not (td_chain op_le op_le pd_int (pd_var 3) pd_int (pt_chain op_le op_le pe_sem pe_sem pe_sem rfl))))) (fun q => ?_) (fun q => go_on ?_)
      · have : floorOk (m, hh, t, bs) = false := by
          unfold floorOk numsOk
          dsimp only
          rcases Bool.or_eq_true_iff.mp q with q | q
          · rw [of_not_true q]; rfl
          · rcases Bool.or_eq_true_iff.mp q with q | q
            · rw [of_not_true q, Bool.and_false]; rfl
            · rw [of_not_true q, Bool.and_false]; rfl
        exact go_raise cx.calm tk TN (fun σ F H' sa => kEx this H' sa.g.hh)
      · obtain ⟨q1, q2⟩ := Bool.or_eq_false_iff.mp q
        obtain ⟨q2, q3⟩ := Bool.or_eq_false_iff.mp q2
        have nok : numsOk m hh t = true := by
          unfold numsOk
          rw [of_not_false q1, of_not_false q2, of_not_false q3]; rfl
        by_cases hb : bansOk bs = true
        · have fok : floorOk (m, hh, t, bs) = true := by unfold floorOk; rw [nok, hb]; rfl
          refine go_drop (pd_callG cB hrX bs (pga_bor (pb_bor 4) pga_nil) (if_pos hb) trivial) ?_
          obtain ⟨b1, b2⟩ := okPair_64 hb
          intro σ F H' sa
          obtain ⟨vp, ep, hP⟩ := sa.slot 0 _ rfl
          obtain ⟨rfl, hpF', hpH'⟩ := hP F H' (Grow.refl sa.fh)
          have em : σ[1]? = some (some (.int m)) := by obtain ⟨u, e, r⟩ := sa.slot 1 _ rfl; cases r; exact e
          have eh : σ[2]? = some (some (.int hh)) := by obtain ⟨u, e, r⟩ := sa.slot 2 _ rfl; cases r; exact e
          have et : σ[3]? = some (some (.int t)) := by obtain ⟨u, e, r⟩ := sa.slot 3 _ rfl; cases r; exact e
          -- the three numbers
          refine ss_of (pss_cons (ps_fld (pv 0) (pv 1) rfl) (pss_cons (ps_fld (pv 0) (pv 2) rfl) (pss_cons (ps_fld (pv 0) (pv 3) rfl) (pss_cons (ps_fld (pv 0) pe_sem rfl) pss_nil)))) ?_
          refine ⟨_, em, _, ep, p, C, dx, [], rfl, hpH', TF.cl, TF.nM, (by show 0 < 1000; decide), ?_⟩
          rw [fl_many]
          refine ⟨_, eh, _, ep, p, C, dx, _, rfl, upd_same, TF.cl, TF.nH, (by show 1 < 1000; decide), ?_⟩
          rw [fl_high, upd_upd]
          refine ⟨_, et, _, ep, p, C, dx, _, rfl, upd_same, TF.cl, TF.nS, (by show 2 < 1000; decide), ?_⟩
          rw [fl_strong, upd_upd]
          -- the bans, over a heap in which p has changed
          have sa0 : Sat K ⟨C, F0, H1, F0⟩ [.un, .dat (.int m), .dat (.int hh), .dat (.int t), .bor (.list (dPrs bs)), .un, .un] σ F H' := sa.weak (.un (Wk.refl _))
          have sa1 := Sat.upd (a := p) (o := .ins C dx (f3 m hh t)) sa0 hp hpF' rfl (fun j es e => by
            match j, e with
            | 0, e => cases e
            | 1, e => cases e
            | 2, e => cases e
            | 3, e => cases e
            | 4, e => cases e
            | 5, e => cases e
            | 6, e => cases e
            | j + 7, e => simp at e)
          refine (pn_sortedSet (B := ⟨C, F0, H1, F0⟩) (ss := [.un, .dat (.int m), .dat (.int hh), .dat (.int t), .bor (.list (dPrs bs)), .un, .un]) cx (PN.li (PLc.n (pl_lc2 (g := dPr) 5 6 cx (pip_bor 4) (fun Fp u hu s5 H5 C5 cl5 fp5 => pd_tup (pds_cons (pd_var 5) (pds_cons (pd_var 6) pds_nil))) (by have := sizeLine_eq; omega) (by decide)) cx)) b1 b2 T.sorted T.set) σ F _ sa1 _ fun l ws F2 H2 g2 n2 nf2 h2 r2 => ?_
          refine ⟨_, ep, p, C, dx, _, rfl, g2.hh _ _ upd_same, TF.cl, TF.nB, (by show 3 < 1000; decide), ?_⟩
          rw [fl_banned]
          have hpl : p ≠ l := ne_of_none upd_same n2
          have hp2 : F2 p = none := g2.own p _ upd_same hpF'
          -- what is known for good: the list, the floor
          have e2 : Grow F H' (upd (upd F2 l (.lst ws)) p (.ins C dx (flF m hh t l))) (upd H2 p (.ins C dx (flF m hh t l))) → True := fun _ => trivial
          have hH1p : ∀ b o, H1 b = some o → upd H2 p (.ins C dx (flF m hh t l)) b = some o := fun b o e => by
            rw [upd_ne (ne_of_none e hp)]
            exact g2.hh b o (by rw [upd_ne (ne_of_none e hp)]; exact sa.g.hh b o e)
          have nl1 : H1 l = none := by
            cases q : H1 l with
            | none => rfl
            | some o =>
              have : upd H' p (.ins C dx (f3 m hh t)) l = some o := by
                rw [upd_ne (ne_of_none q hp)]; exact sa.g.hh l o q
              rw [n2] at this; cases this
          refine kOk fok (upd (upd F2 l (.lst ws)) p (.ins C dx (flF m hh t l))) _ ⟨hH1p, fun b o e => ?_, fun b o e => ?_, fun b o e n => ?_⟩ ?_
          · rw [upd_ne (ne_of_none e hpF)]
            have e' : F2 b = some o := g2.ff b o (sa.g.ff b o e)
            rw [upd_ne (ne_of_none e' nf2)]; exact e'
          · by_cases hb' : b = p
            · subst hb'; rw [upd_same] at e ⊢; exact e
            · rw [upd_ne hb'] at e ⊢
              by_cases hl : b = l
              · subst hl; rw [upd_same] at e; rw [h2]; exact e
              · rw [upd_ne hl] at e; exact g2.fh b o e
          · rw [upd_ne (ne_of_none e hp), upd_ne (ne_of_none e nl1)]
            exact g2.own b o (by rw [upd_ne (ne_of_none e hp)]; exact sa.g.hh b o e) (sa.g.own b o e n)
          · have sm : Same F2 (upd (upd F2 l (.lst ws)) p (.ins C dx (flF m hh t l))) := fun b o e => by
              rw [upd_ne (ne_of_none e hp2), upd_ne (ne_of_none e nf2)]; exact e
            exact .flr (b := l) upd_same (by rw [upd_ne (Ne.symm hpl), upd_same]) (r2.mono sm)
        · have fok : floorOk (m, hh, t, bs) = false := by
            unfold floorOk; rw [nok]; dsimp only; rw [show bansOk bs = false from Bool.eq_false_iff.mpr hb]; rfl
          exact go_dropX (px_callG tk cB hrX bs (pga_bor (pb_bor 4) pga_nil) (if_neg hb) trivial) (fun σ F H' sa H2 e => kEx fok H2 (sa.g.hh.trans e))
    have rs := main (L2.start ["self", "stacks", "height", "lift", "bans", "one", "other"] [.ref p, .int m, .int hh, .int t, v]) F0 H (by subst hX; exact start)
    subst hX
    exact rs
end
end G

namespace G
open PySem L2
section
variable {P : Program} {w : World} {K : PySem.W.Frag} {mg : Str → Option Value} {base : Heap}
theorem sc_cell_at : FnScope ["script", "k"] ["script", "k"] (defScope s_law_cell_at) := ⟨rfl, rfl, rfl, by decide +kernel, rfl, by decide +kernel, by decide +kernel⟩
abbrev sp_cell_at (K : PySem.W.Frag) (C : Addr) : Sp := spO K C (fun u : List Int × Int => [scr u.1, .int u.2]) (fun u => 0 ≤ u.2) (fun u => .val (.int (cellAt u.1 u.2)))
theorem ok_cell_at {C f : Addr} {fd : FuncData} (T : Bl mg) (F : L2.Fun K "_law_cell_at" "_law_cell_at" s_law_cell_at f fd) :
    FnOk P w K mg base (L2.CX P w) 1 f fd ["script", "k"] (sp_cell_at K C) := by
  refine ok_fn F sc_cell_at (fun _ => rfl) (fun cdv A outer s H F0 u Q E X hX cx hr tk hp ho => ?_)
  subst hX
  obtain ⟨ns, k⟩ := u
  dsimp only at hp ho ⊢
  refine go_if (td_cmp op_lt (PD.bo (pd_var 1)) (PD.bo (pd_len (PIs.it (PD.its (pd_var 0))) T.len)) ob_lt (nomark _)) (fun c => ?_) (fun c => go_on ?_)
  · have c' := of_decide_eq_true c
    rw [List.length_map] at c'
    have hk : k.toNat < ns.length := by omega
    refine go_ret (PD.eq (pd_ix (PIs.it (PD.its (pd_var 0))) (pd_var 1) (at_nat (j := k.toNat) (by omega) (row_at hk))) ?_) ho
    unfold cellAt
    rw [List.getD_eq_getElem?_getD]
  · have c' := of_decide_eq_false c
    rw [List.length_map] at c'
    refine go_ret (PD.eq pd_int ?_) ho
    unfold cellAt
    rw [List.getElem?_eq_none (by omega)]; rfl
end
end G

namespace G
open PySem L2
section
variable {P : Program} {w : World} {K : PySem.W.Frag} {mg : Str → Option Value} {base : Heap}
theorem sc_law_floor : FnScope ["script", "first", "most", "cell", "bans", "k", "pair", "one", "other"] ["script", "first", "most"] (defScope s_law_floor) := ⟨rfl, rfl, rfl, by decide +kernel, rfl, by decide +kernel, by decide +kernel⟩
abbrev sp_law_floor (K : PySem.W.Frag) (C : Addr) : Sp := spO K C (fun u : List Int × Int × Int => [scr u.1, .int u.2.1, .int u.2.2]) (fun u => 0 ≤ u.2.1 ∧ 0 < u.2.2 ∧ u.2.2 ≤ 10) (fun u => .val (dF4 (lawFl u.1 u.2.1 u.2.2)))
theorem ok_law_floor {C f : Addr} {fd : FuncData} (T : Bl mg) (F : L2.Fun K "_law_floor" "_law_floor" s_law_floor f fd) (cA : Cal P w K mg base "_law_cell_at" 1 (sp_cell_at K C)) :
    FnOk P w K mg base (L2.CX P w) 2 f fd ["script", "first", "most"] (sp_law_floor K C) := by
  refine ok_fn F sc_law_floor (fun _ => rfl) (fun cdv A outer s H F0 u Q E X hX cx hr tk hp ho => ?_)
  subst hX
  obtain ⟨ns, first, most⟩ := u
  obtain ⟨h1, h2, h3⟩ := hp
  dsimp only at h1 h2 h3 ho ⊢
  have hdv : ∀ i, CDiv i most := fun i => ⟨h2, by omega⟩
  refine go_asg 3 cx.nd (pd_call cA hr (ns, first) (pds_cons (pd_var 0) (pds_cons (pd_var 1) pds_nil)) rfl h1) ?_
  refine go_asgN 4 cx.nd (pn_lst pds_nil) ?_
  refine go_rng1 5 (fun i ss => ∃ q, q = lawBans ns first most i ∧ ss = [.dat (scr ns), .dat (.int first), .dat (.int most), .dat (.int (cellAt ns first)), .own (dPrs q), .un, .un, .un, .un]) cx (pd_mod (pd_div (pd_var 3) pd_int) pd_int) (by omega) ⟨_, rfl, rfl⟩ ?_ ?_ T.range
  · rintro i _ hi ⟨_, rfl, rfl⟩
    refine go_asg 6 cx.nd (pd_call cA hr (ns, first + 1 + (i : Int)) (pds_cons (pd_var 0) (pds_cons (pd_add (pd_add (pd_var 1) pd_int) (pd_var 5)) pds_nil)) rfl (by show 0 ≤ first + 1 + (i : Int); omega)) ?_
    refine go_asg 7 cx.nd (pd_mod (pd_var 6) (pd_var 2) h2) ?_
    refine go_asg 8 cx.nd (pd_mod (pd_div (pd_var 6) (pd_var 2) (hdv _)) (pd_var 2) h2) ?_
    have hs := lawBans_succ ns first most i
    dsimp only at hs ⊢
    refine go_if (td_cmp op_ne (PD.bo (pd_var 7)) (PD.bo (pd_var 8)) ob_neI (nomark _)) (fun c => ?_) (fun c => go_on (go_end ⟨lawBans ns first most i, ?_, rfl⟩ (by repeat (first | exact Wk.nil | apply Wk.same | apply Wk.un))))
    · rw [if_neg (by simpa using c)] at hs
      refine go_append 4 rfl (pd_tup (pds_cons (pd_var 7) (pds_cons (pd_var 8) pds_nil))) ?_ ?_
      · rw [prs_app, ← hs]
        exact go_on (go_end ⟨_, rfl, rfl⟩ (by repeat (first | exact Wk.nil | apply Wk.same | apply Wk.un)))
      · rw [List.length_map]
        have := lawBans_len ns first most i
        exact szBig (by omega)
    · rw [hs, if_pos (by simpa using c), List.append_nil]
  · rintro _ ⟨q, hq, rfl⟩
    subst hq
    refine go_freeze 4 rfl ?_
    exact go_ret (pd_tup (pds_cons (pd_add pd_int (pd_mod (pd_var 3) pd_int)) (pds_cons (pd_add pd_int (pd_mod (pd_div (pd_var 3) pd_int) pd_int)) (pds_cons (pd_add pd_int (pd_mod (pd_div (pd_var 3) pd_int) pd_int)) (pds_cons (pd_var 4) pds_nil))))) ho
theorem sc_law_good : FnScope ["floor", "standing", "crates", "stack", "k"] ["floor", "standing"] (defScope s_law_good) := ⟨rfl, rfl, rfl, by decide +kernel, rfl, by decide +kernel, by decide +kernel⟩
abbrev sp_law_good (K : PySem.W.Frag) (C : Addr) : Sp := spO K C (fun u : FL × Bool × List (List Int) => [dF4 u.1, dSqs u.2.1 u.2.2]) (fun u => u.2.2.flatten.length ≤ 1000) (fun u => .val (.bool (goodF u.1 u.2.2)))
theorem ok_law_good {C f : Addr} {fd : FuncData} (T : Bl mg) (F : L2.Fun K "_law_good" "_law_good" s_law_good f fd) :
    FnOk P w K mg base (L2.CX P w) 1 f fd ["floor", "standing"] (sp_law_good K C) := by
  refine ok_fn F sc_law_good (fun _ => rfl) (fun cdv A outer s H F0 u Q E X hX cx hr tk hp ho => ?_)
  subst hX
  obtain ⟨⟨m, h, t, bs⟩, tp, S⟩ := u
  dsimp only at hp ho ⊢
  let fl : PyData := dF4 (m, h, t, bs)
  refine go_asgN 2 cx.nd (pn_lst pds_nil) ?_
  refine go_for 3 (fun i ss => ∃ z, ss = [.dat fl, .dat (dSqs tp S), .own (dIs (S.take i).flatten), z, .un]) cx (PD.isqs (pd_var 1)) ⟨_, rfl⟩ ?_ ?_
  · rintro Fp i r _ hi ⟨z, rfl⟩
    refine go_extend 2 rfl (PN.da (pn_list (PIs.it (PD.isq (tp := tp) (r := r) (pd_var 3))) T.list)) (go_end ⟨.dat (dSq tp r), ?_⟩) ?_
    · simp [dIs, flatten_take hi]
    · rw [List.length_map, List.length_map, ← List.length_append, ← flatten_take hi]
      exact sz1000 (Nat.le_trans (flatten_take_le _ _) hp)
  rintro _ ⟨z, rfl⟩
  rw [List.take_length]
  have hz : S.flatten.length ≤ 4000 := by omega
  refine go_if (TW.t (tw_or (td_cmp op_ne (PD.bo (pd_len (PIs.it (PD.isqs (tp := tp) (S := S) (pd_var 1))) T.len)) (PD.bo (pd_ix (PD.tp (pd_var 0)) pd_int (at_nat (j := 0) rfl rfl))) ob_neI (nomark _))
    fun _ => tw_or1 (td_cmp op_lt (PD.bo (pd_lenSet cx (pl_own 2) hz T.len T.set)) (PD.bo (pd_len (pi_own 2) T.len)) ob_lt (nomark _)))) (fun c => ?_) (fun c => go_on ?_)
  · refine go_ret (pd_bl.eq ?_) ho
    show PyData.bool false = .bool (good m h bs S)
    rw [List.length_map, List.length_map, dcount_lt] at c
    unfold good
    rcases Bool.or_eq_true_iff.mp c with c | c
    · have : ¬ ((S.length : Int) = m) := by simpa using c
      rw [decide_eq_false this]; rfl
    · have : ¬ S.flatten.Nodup := by simpa using c
      rw [decide_eq_false this]; simp
  · rw [List.length_map, List.length_map, dcount_lt] at c
    obtain ⟨c1, c2⟩ := Bool.or_eq_false_iff.mp c
    have h1 : (S.length : Int) = m := by simpa using c1
    have h2 : S.flatten.Nodup := by simpa using c2
    let rg : List Int → Prop := fun r => stackOk h bs r = true ∧ r.all (fun c => decide (0 ≤ c) && decide (c ≤ 9)) = true
    refine go_for 3 (fun i ss => (∃ y z, ss = [.dat fl, .dat (dSqs tp S), .own (dIs S.flatten), y, z]) ∧ ∀ k, k < i → ∀ r, S[k]? = some r → rg r) cx (PD.isqs (pd_var 1)) ⟨⟨_, _, rfl⟩, fun k hk => by omega⟩ ?_ ?_
    · rintro Fp i r _ hi ⟨⟨y, z, rfl⟩, hk⟩
      have hrS : r ∈ S := List.mem_of_getElem? hi
      have hrl : r.length ≤ 1000 := by
        have := flatten_take_le S (i + 1)
        rw [flatten_take hi, List.length_append] at this
        omega
      refine go_if (td_cmp op_gt (PD.bo (pd_len (PIs.it (PD.isq (tp := tp) (r := r) (pd_var 3))) T.len)) (PD.bo (pd_ix (PD.tp (pd_var 0)) pd_int (at_nat (j := 1) rfl rfl))) ob_gt (nomark _)) (fun c => ?_) (fun c => go_on ?_)
      · refine go_ret (pd_bl.eq ?_) ho
        have c' := of_decide_eq_true c
        rw [List.length_map] at c'
        dsimp only at c'
        show PyData.bool false = .bool (good m h bs S)
        have : S.all (stackOk h bs) = false := List.all_eq_false.mpr ⟨r, hrS, by unfold stackOk; rw [decide_eq_false (by omega), Bool.false_and]; decide⟩
        unfold good
        rw [this]; simp
      · have c' := of_decide_eq_false c
        rw [List.length_map] at c'
        dsimp only at c'
        refine go_rng1 (n := (r.length : Int)) 4 (fun n ss => (∃ z, ss = [.dat fl, .dat (dSqs tp S), .own (dIs S.flatten), .dat (dSq tp r), z]) ∧ ∀ k, k < n → (0 ≤ r.getD k 0 ∧ r.getD k 0 ≤ 9) ∧ (0 < k → (r.getD k 0, r.getD (k - 1) 0) ∉ bs)) cx
          (PD.eq (pd_len (PIs.it (PD.isq (tp := tp) (r := r) (pd_var 3))) T.len) (by rw [List.length_map])) (by omega) ⟨⟨_, rfl⟩, fun k hk => by omega⟩ ?_ ?_ T.range
        · rintro k _ hkn ⟨⟨z, rfl⟩, hk'⟩
          have hkl : k < r.length := by omega
          refine go_if (TW.t (tw_or (td_not (td_chain op_le op_le pd_int (pd_ix (PIs.it (PD.isq (tp := tp) (r := r) (pd_var 3))) (pd_var 4) (at_nat (j := k) rfl (row_at hkl))) pd_int (pt_chain op_le op_le pe_sem pe_sem pe_sem rfl)))
            (v := decide ((0 : Int) < k) && decide ((r.getD k 0, r.getD (k - 1) 0) ∈ bs)) fun _ => tw_or1 (TW.t (tw_and (td_cmp op_gt (PD.bo (pd_var 4)) (PD.bo pd_int) ob_gt (nomark _)) fun kp => tw_and1 (TD.eq
              (td_cmp (op_inD cx.units) (PD.bo (pd_tup (pds_cons (pd_ix (PIs.it (PD.isq (tp := tp) (r := r) (pd_var 3))) (pd_var 4) (at_nat (j := k) rfl (row_at hkl))) (pds_cons (pd_ix (PIs.it (PD.isq (tp := tp) (r := r) (pd_var 3))) (pd_sub (pd_var 4) pd_int) (at_nat (j := k - 1) ?_ (row_at (by omega)))) pds_nil))))
                (PD.bo (pd_ix (PD.tp (pd_var 0)) pd_int (at_nat (j := 3) rfl rfl))) (ob_inD (pl_pr (_, _)) (pl_prs bs) (by decide) (by decide)) rfl) (any_pr bs (r.getD k 0, r.getD (k - 1) 0))))))) (fun q => ?_) (fun q => go_on (go_end ⟨⟨_, rfl⟩, fun k' hk2 => ?_⟩))
          · have := of_decide_eq_true kp
            omega
          · refine go_ret (pd_bl.eq ?_) ho
            show PyData.bool false = .bool (good m h bs S)
            rcases Bool.or_eq_true_iff.mp q with q | q
            · have hmem : r.getD k 0 ∈ S.flatten := List.mem_flatten.mpr ⟨r, hrS, by rw [List.getD_eq_getElem?_getD, List.getElem?_eq_getElem hkl]; exact List.getElem_mem hkl⟩
              have : S.flatten.all (fun c => decide (0 ≤ c) && decide (c ≤ 9)) = false := List.all_eq_false.mpr ⟨_, hmem, by rw [of_not_true q]; decide⟩
              unfold good
              rw [this]; simp
            · obtain ⟨q1, q2⟩ := Bool.and_eq_true_iff.mp q
              have q1 := of_decide_eq_true q1
              have q2 := of_decide_eq_true q2
              have hk0 : k - 1 + 1 = k := by omega
              have : rowOk bs r = false := rowOk_no (k := k - 1) (by omega) (by rw [hk0]; exact q2)
              have : S.all (stackOk h bs) = false := List.all_eq_false.mpr ⟨r, hrS, by unfold stackOk; rw [this, Bool.and_false]; decide⟩
              unfold good
              rw [this]; simp
          · by_cases e : k' = k
            · subst e
              obtain ⟨q1, q2⟩ := Bool.or_eq_false_iff.mp q
              have q1 := of_not_false q1
              rw [Bool.and_eq_true, decide_eq_true_eq, decide_eq_true_eq] at q1
              refine ⟨q1, fun h0 hm => ?_⟩
              rw [decide_eq_true (by omega : (0 : Int) < k'), decide_eq_true hm] at q2
              cases q2
            · exact hk' k' (by omega)
        · rintro _ ⟨⟨z, rfl⟩, hk'⟩
          rw [Int.toNat_natCast] at hk'
          refine go_end ⟨⟨.dat (dSq tp r), z, rfl⟩, fun k hk2 r' hr' => ?_⟩
          by_cases e : k = i
          · subst e
            rw [hi] at hr'; cases hr'
            refine ⟨?_, List.all_eq_true.mpr fun x hx => ?_⟩
            · unfold stackOk
              rw [decide_eq_true (by omega), rowOk_yes (fun j hj => ?_)]; rfl
              exact (hk' (j + 1) (by omega)).2 (by omega)
            · obtain ⟨j, hj, e⟩ := List.mem_iff_getElem.mp hx
              have := (hk' j hj).1
              rw [List.getD_eq_getElem?_getD, List.getElem?_eq_getElem hj, Option.getD_some, e] at this
              rw [decide_eq_true this.1, decide_eq_true this.2]; rfl
          · exact hk k (by omega) r' hr'
    · rintro _ ⟨⟨y, z, rfl⟩, hk⟩
      refine go_ret (pd_bl.eq ?_) ho
      show PyData.bool true = .bool (good m h bs S)
      have all : ∀ r ∈ S, rg r := fun r hr' => by
        obtain ⟨k, hk', e⟩ := List.mem_iff_getElem.mp hr'
        exact hk k hk' r (by rw [List.getElem?_eq_getElem hk', e])
      have h4 : S.all (stackOk h bs) = true := List.all_eq_true.mpr fun r hr' => (all r hr').1
      have h3 : S.flatten.all (fun c => decide (0 ≤ c) && decide (c ≤ 9)) = true := List.all_eq_true.mpr fun x hx => by
        obtain ⟨r, hr', hxr⟩ := List.mem_flatten.mp hx
        exact List.all_eq_true.mp (all r hr').2 x hxr
      unfold good
      rw [h4, h3, decide_eq_true h1, decide_eq_true h2]; rfl
end
end G

namespace G
open PySem L2
/-! ### the law's standing -/
def nextC (c : Int) : Int := (c * 48271 + 17) % 2147483647
def placeStep (f : FL) (c : Int) (k : Nat) (u : List (List Int) × Option Int) : List (List Int) × Option Int :=
  match u.2 with
  | none => u
  | some x =>
    let sp := ((c / 61 + (k : Int)) % f.1).toNat
    let W := u.1.set sp (u.1.getD sp [] ++ [x])
    if goodF f W = true then (W, none) else u
def place (f : FL) (c x : Int) (R : List (List Int)) : Nat → List (List Int) × Option Int
  | 0 => (R, some x)
  | n + 1 => placeStep f c n (place f c x R n)
def lawSt (f : FL) : Nat → Int → List Int → List (List Int) → List (List Int)
  | 0, _, _, R => R
  | n + 1, c, l, R =>
    let c' := nextC c
    let j := (c' / 7 % (l.length : Int)).toNat
    lawSt f n c' (l.eraseIdx j) (place f c' (l.getD j 0) R f.1.toNat).1
def emptyR (f : FL) : List (List Int) := List.replicate f.1.toNat []
def lawStand (f : FL) (c : Int) (l : List Int) : List (List Int) := lawSt f l.length c l (emptyR f)
theorem set_one {S : List (List Int)} {i : Nat} (x : Int) (h : i < S.length) : (S.set i (S.getD i [] ++ [x])).flatten.Perm (x :: S.flatten) := by
  have h1 := set_perm S i (S.getD i [] ++ [x]) h
  have h2 : ((S.set i (S.getD i [] ++ [x])).flatten ++ S.getD i []).Perm ((x :: S.flatten) ++ S.getD i []) := by
    refine h1.trans ?_
    have e : S.flatten ++ (S.getD i [] ++ [x]) = (S.flatten ++ S.getD i []) ++ [x] := by rw [List.append_assoc]
    rw [e]
    exact List.perm_append_comm
  exact (List.perm_append_right_iff _).mp h2
theorem place_inv {f : FL} {c x : Int} {R : List (List Int)} (hf : 0 < f.1) (hR : (R.length : Int) = f.1) : ∀ n : Nat,
    (place f c x R n).1.length = R.length ∧ (((place f c x R n).2 = some x ∧ (place f c x R n).1 = R) ∨ ((place f c x R n).2 = none ∧ goodF f (place f c x R n).1 = true ∧ (place f c x R n).1.flatten.Perm (x :: R.flatten)))
  | 0 => ⟨rfl, .inl ⟨rfl, rfl⟩⟩
  | n + 1 => by
    obtain ⟨h1, h2⟩ := place_inv (c := c) (x := x) hf hR n
    have hstep : place f c x R (n + 1) = placeStep f c n (place f c x R n) := rfl
    rw [hstep]
    generalize place f c x R n = U at h1 h2
    obtain ⟨W, o⟩ := U
    dsimp only at h1 h2
    rcases h2 with ⟨h2, h3⟩ | ⟨h2, h3⟩
    · subst h2 h3
      have hlt : ((c / 61 + (n : Int)) % f.1).toNat < W.length := by
        have a1 := Int.emod_nonneg (c / 61 + (n : Int)) (show f.1 ≠ 0 by omega)
        have a2 := Int.emod_lt_of_pos (c / 61 + (n : Int)) hf
        omega
      have p := set_one (S := W) x hlt
      unfold placeStep
      dsimp only
      split
      · rename_i hg
        exact ⟨List.length_set, .inr ⟨rfl, hg, p⟩⟩
      · exact ⟨rfl, .inl ⟨rfl, rfl⟩⟩
    · subst h2
      exact ⟨h1, .inr ⟨rfl, h3⟩⟩
theorem erase_perm : ∀ (l : List Int) {j : Nat} (h : j < l.length), (l[j] :: l.eraseIdx j).Perm l
  | [], _, h => absurd h (Nat.not_lt_zero _)
  | _ :: _, 0, _ => .refl _
  | a :: l, j + 1, h => (List.Perm.swap a _ _).trans ((erase_perm l (j := j) (Nat.lt_of_succ_lt_succ h)).cons a)
theorem erase_map : ∀ (l : List Int) (j : Nat), (dIs l).eraseIdx j = dIs (l.eraseIdx j)
  | [], _ => rfl
  | _ :: _, 0 => rfl
  | a :: l, j + 1 => congrArg (PyData.int a :: ·) (erase_map l j)
theorem lawSt_inv {f : FL} (hf : 0 < f.1) : ∀ (n : Nat) (c : Int) (l : List Int) (R : List (List Int)), l.length = n → (R.length : Int) = f.1 → goodF f R = true →
    goodF f (lawSt f n c l R) = true ∧ ∃ rest, ((lawSt f n c l R).flatten ++ rest).Perm (R.flatten ++ l)
  | 0, c, l, R, hl, hR, hg => ⟨hg, l, .refl _⟩
  | n + 1, c, l, R, hl, hR, hg => by
    have hc : nextC c / 7 % (l.length : Int) < l.length := Int.emod_lt_of_pos _ (by omega)
    have hc0 : 0 ≤ nextC c / 7 % (l.length : Int) := Int.emod_nonneg _ (by omega)
    unfold lawSt
    dsimp only
    generalize hj : (nextC c / 7 % (l.length : Int)).toNat = j
    have hjl : j < l.length := by omega
    obtain ⟨p1, p2⟩ := place_inv (f := f) (c := nextC c) (x := l.getD j 0) hf hR f.1.toNat
    have ej : (l.eraseIdx j).length = n := by rw [List.length_eraseIdx_of_lt hjl]; omega
    have lp : (l.getD j 0 :: l.eraseIdx j).Perm l := by
      rw [List.getD_eq_getElem?_getD, List.getElem?_eq_getElem hjl]
      exact erase_perm l hjl
    have hg2 : goodF f (place f (nextC c) (l.getD j 0) R f.1.toNat).1 = true := by
      rcases p2 with ⟨_, p2⟩ | ⟨_, p2, _⟩
      · rw [p2]; exact hg
      · exact p2
    obtain ⟨i1, rest, i2⟩ := lawSt_inv hf n (nextC c) (l.eraseIdx j) _ ej (by rw [p1]; exact hR) hg2
    refine ⟨i1, ?_⟩
    rcases p2 with ⟨_, p2⟩ | ⟨_, _, p2⟩
    · refine ⟨l.getD j 0 :: rest, ?_⟩
      rw [p2] at i2 ⊢
      have a1 : (List.flatten (lawSt f n (nextC c) (l.eraseIdx j) R) ++ l.getD j 0 :: rest).Perm (l.getD j 0 :: (List.flatten (lawSt f n (nextC c) (l.eraseIdx j) R) ++ rest)) := List.perm_middle
      have a2 : (l.getD j 0 :: (R.flatten ++ l.eraseIdx j)).Perm (R.flatten ++ l.getD j 0 :: l.eraseIdx j) := List.perm_middle.symm
      exact a1.trans ((i2.cons _).trans (a2.trans (lp.append_left _)))
    · refine ⟨rest, i2.trans ((p2.append_right _).trans ?_)⟩
      have a2 : (l.getD j 0 :: (R.flatten ++ l.eraseIdx j)).Perm (R.flatten ++ l.getD j 0 :: l.eraseIdx j) := List.perm_middle.symm
      exact a2.trans (lp.append_left _)
theorem empty_good {f : FL} (h1 : 0 ≤ f.1) (h2 : 0 ≤ f.2.1) : goodF f (emptyR f) = true := by
  unfold goodF good emptyR
  have : (List.replicate f.1.toNat ([] : List Int)).flatten = [] := by simp
  rw [this, List.length_replicate, decide_eq_true (by omega)]
  have : (List.replicate f.1.toNat ([] : List Int)).all (stackOk f.2.1 f.2.2.2) = true := by
    rw [List.all_eq_true]
    intro r hr
    rw [List.mem_replicate] at hr
    rw [hr.2]
    unfold stackOk rowOk
    simp [h2]
  rw [this]; simp
theorem stand_good {f : FL} (h1 : 0 < f.1) (h2 : 0 ≤ f.2.1) (c : Int) (l : List Int) : goodF f (lawStand f c l) = true :=
  (lawSt_inv h1 _ c l _ rfl (by unfold emptyR; rw [List.length_replicate]; omega) (empty_good (by omega) h2)).1
theorem stand_perm {f : FL} (h1 : 0 < f.1) (h2 : 0 ≤ f.2.1) (c : Int) (l : List Int) : ∃ rest, ((lawStand f c l).flatten ++ rest).Perm l := by
  have := (lawSt_inv h1 _ c l _ rfl (by unfold emptyR; rw [List.length_replicate]; omega) (empty_good (by omega) h2)).2
  have e : (emptyR f).flatten = [] := by unfold emptyR; simp
  rw [e] at this
  exact this
theorem stand_len {f : FL} (h1 : 0 < f.1) (h2 : 0 ≤ f.2.1) (c : Int) (l : List Int) : (lawStand f c l).flatten.length ≤ l.length := by
  obtain ⟨rest, p⟩ := stand_perm h1 h2 c l
  have := p.length_eq
  rw [List.length_append] at this
  omega
abbrev dOpt : Option Int → PyData
  | none => .none
  | some x => .int x
section
variable {P : Program} {w : World} {K : PySem.W.Frag} {mg : Str → Option Value} {base : Heap}
theorem sc_law_standing : FnScope ["floor", "cell", "crates", "rows", "k", "left", "crate", "spot", "wider", "row"] ["floor", "cell", "crates"] (defScope s_law_standing) := ⟨rfl, rfl, rfl, by decide +kernel, rfl, by decide +kernel, by decide +kernel⟩
abbrev sp_law_standing (K : PySem.W.Frag) (C : Addr) : Sp := spO K C (fun u : FL × Int × List Int => [dF4 u.1, .int u.2.1, .list (dIs u.2.2)]) (fun u => (2 ≤ u.1.1 ∧ u.1.1 ≤ 4) ∧ 0 ≤ u.1.2.1 ∧ u.2.2.length ≤ 100) (fun u => .val (dSt (lawStand u.1 u.2.1 u.2.2)))
theorem eqv_nil (ds : List PyData) : PyData.eqv (.list ds) (.list []) = decide (ds = []) := by
  cases ds with
  | nil => simp [PyData.eqv, PyData.eqvAll]
  | cons d r => simp [PyData.eqv, PyData.eqvAll]
theorem pl_ints (r : List Int) : Pl 1 (.list (dIs r)) := .lst (Pl.map fun _ _ => .int)
theorem ok_law_standing {C f : Addr} {fd : FuncData} (T : Bl mg) (F : L2.Fun K "_law_standing" "_law_standing" s_law_standing f fd) (cG : Cal P w K mg base "_law_good" 1 (sp_law_good K C)) :
    FnOk P w K mg base (L2.CX P w) 2 f fd ["floor", "cell", "crates"] (sp_law_standing K C) := by
  refine ok_fn F sc_law_standing (fun _ => rfl) (fun cdv A outer s H F0 u Q E X hX cx hr tk hp ho => ?_)
  subst hX
  obtain ⟨f, cell, crates⟩ := u
  obtain ⟨⟨hm1, hm2⟩, hh, hlen⟩ := hp
  dsimp only at hm1 hm2 hh hlen ho ⊢
  have hf0 : 0 < f.1 := by omega
  have pdM : ∀ {X' : Cx} {B' : Bs} {ss : List SD} {p p2 : Pos} {j : Nat} {e : Expr}, PD X' B' e ss (dF4 f) → (hx : PlainIx (.Constant (.int 0) j p)) → PD X' B' (.Subscript e (.Constant (.int 0) j p) p2) ss (.int f.1) := fun h hx => pd_ix (PD.tp h) pd_int (at_nat (j := 0) rfl rfl) hx
  refine go_asgC 3 cx (pl_lcR (g := fun _ => dSq false []) 4 cx (pdM (pd_var 0) (by intro _ _; rfl)) (by omega) (fun i hi s5 H5 C5 cl5 fp5 => PN.da (pn_lst pds_nil)) T.range) ?_
  refine go_freeze 3 rfl ?_
  refine go_asgN 5 cx.nd (pn_list (PD.ls (pd_var 2)) T.list) ?_
  have e0 : (.list ((List.range f.1.toNat).map fun _ => dSq false []) : PyData) = dSqs false (emptyR f) := by
    unfold emptyR
    show PyData.list _ = PyData.list _
    rw [List.map_replicate]
    rw [List.map_const', List.length_range]
  have hE : (emptyR f).flatten = [] := by unfold emptyR; simp
  refine go_while (fun m ss => ∃ (c : Int) (l : List Int) (R : List (List Int)), ss = [.dat (dF4 f), .dat (.int c), .dat (.list (dIs crates)), .dat (dSqs false R), .un, .own (dIs l), .un, .un, .un, .un] ∧ l.length = m ∧ (R.length : Int) = f.1 ∧ R.flatten.length + l.length ≤ 100 ∧ lawSt f m c l R = lawStand f cell crates)
    crates.length cx ⟨cell, crates, emptyR f, by rw [← e0]; rfl, rfl, by unfold emptyR; rw [List.length_replicate]; omega, by rw [hE]; simpa using hlen, rfl⟩ ?_
  rintro m _ ⟨c, l, R, rfl, hl, hR, hz, hfin⟩
  refine ⟨!decide (dIs l = []), TD.eq (td_cmp (op_neD cx.u64) (pb_own 5) (PN.bo (pn_lst pds_nil)) (ob_neD (pl_ints l) (Pl.lst (n := 1) fun _ h => nomatch h) (by decide) (by decide)) (nomark _)) (by rw [eqv_nil]), fun c1 => ?_, fun c1 => ?_⟩
  · have hl0 : l ≠ [] := fun e => by subst e; cases c1
    have hpos : 0 < l.length := List.length_pos_iff.mpr hl0
    obtain ⟨m', rfl⟩ : ∃ m', m = m' + 1 := ⟨m - 1, by omega⟩
    have b1 : -(2 ^ 64) < (48271 : Int) ∧ (48271 : Int) < 2 ^ 64 := by decide
    refine go_asg 1 cx.nd (pd_mod (pd_add (pd_mul (pd_var 1) pd_int (Or.inr b1)) pd_int) pd_int) ?_
    show Go _ _ _ [.dat (dF4 f), .dat (.int (nextC c)), .dat (.list (dIs crates)), .dat (dSqs false R), .un, .own (dIs l), .un, .un, .un, .un] _
    have hc : nextC c / 7 % (l.length : Int) < l.length := Int.emod_lt_of_pos _ (by omega)
    have hc0 : 0 ≤ nextC c / 7 % (l.length : Int) := Int.emod_nonneg _ (by omega)
    generalize hj : (nextC c / 7 % (l.length : Int)).toNat = j
    have hjl : j < l.length := by omega
    have hle : (dIs l).length = l.length := List.length_map _
    refine go_pop 6 5 (k := nextC c / 7 % (l.length : Int)) (m := j) cx.nd (by decide) rfl (PD.eq (pd_mod (pd_div (pd_var 1) pd_int) (pd_len (pi_own 5) T.len) (by rw [hle]; omega)) (by rw [hle])) (by rw [hle, show nextC c / 7 % (l.length : Int) = (j : Int) by omega]; exact ixN_nat hjl) (row_at hjl) (by rw [hle]; omega) ?_
      rfl (ps_set cx.nd rfl (Or.inl rfl) (pe_bm PySem.F.plainAttrs_list PySem.F.slot_list_pop PySem.F.type_list_pop mt_popAt (pe_var rfl (by first | exact Or.inl rfl | exact Or.inr (Or.inl rfl) | exact Or.inr (Or.inr rfl)) (by decide) (by decide)) (pa_cons pe_sem pa_nil)))
    have ej : (dIs l).eraseIdx j = dIs (l.eraseIdx j) := erase_map l j
    rw [ej]
    generalize hx : l.getD j 0 = q
    obtain ⟨p1, p2⟩ := place_inv (f := f) (c := nextC c) (x := q) hf0 hR f.1.toNat
    have hflen : ∀ n, (place f (nextC c) q R n).1.flatten.length + (if (place f (nextC c) q R n).2 = none then 0 else 1) = R.flatten.length + 1 := fun n => by
      obtain ⟨_, p2⟩ := place_inv (f := f) (c := nextC c) (x := q) hf0 hR n
      rcases p2 with ⟨p2, p3⟩ | ⟨p2, _, p3⟩
      · rw [p2, p3]; rfl
      · rw [p2, p3.length_eq, List.length_cons]; rfl
    refine go_rng1 4 (fun n ss => ∃ U, U = place f (nextC c) q R n ∧ ss = [.dat (dF4 f), .dat (.int (nextC c)), .dat (.list (dIs crates)), .dat (dSqs false U.1), .un, .own (dIs (l.eraseIdx j)), .dat (dOpt U.2), .un, .un, .un]) cx
      (pdM (pd_var 0) (by intro _ _; rfl)) (by omega) ⟨_, rfl, rfl⟩ ?_ ?_ T.range
    · rintro n _ hn ⟨_, rfl, rfl⟩
      have a1 := Int.emod_nonneg (nextC c / 61 + (n : Int)) (show f.1 ≠ 0 by omega)
      have a2 := Int.emod_lt_of_pos (nextC c / 61 + (n : Int)) hf0
      obtain ⟨r1, r2⟩ := place_inv (f := f) (c := nextC c) (x := q) hf0 hR n
      have r3 := hflen n
      have hstep : place f (nextC c) q R (n + 1) = placeStep f (nextC c) n (place f (nextC c) q R n) := rfl
      generalize hpl : place f (nextC c) q R n = U at r1 r2 r3 hstep
      obtain ⟨W, o⟩ := U
      dsimp only at r1 r2 r3 ⊢
      refine go_asg 7 cx.nd (pd_mod (pd_add (pd_div (pd_var 1) pd_int) (pd_var 4)) (pdM (pd_var 0) (by intro _ _; rfl)) hf0) ?_
      generalize hsp : ((nextC c / 61 + (n : Int)) % f.1) = sp at a1 a2
      have hspl : sp.toNat < W.length := by omega
      refine go_if (td_cmp op_notN (PD.bo (pd_var 6)) (PD.bo pd_non) ob_notN (nomark _)) (fun d1 => ?_) (fun d1 => ?_)
      · cases o with
        | none => cases d1
        | some x' =>
          have hx' : x' = q := by
            rcases r2 with ⟨r2, _⟩ | ⟨r2, _⟩
            · exact Option.some.inj r2
            · cases r2
          subst hx'
          have hstep2 : placeStep f (nextC c) n (W, some x') = if goodF f (W.set sp.toNat (W.getD sp.toNat [] ++ [x'])) = true then (W.set sp.toNat (W.getD sp.toNat [] ++ [x']), none) else (W, some x') := by
            unfold placeStep
            dsimp only
            rw [hsp]
          have wat : (W.map (dSq false))[sp.toNat]? = some (dSq false (W.getD sp.toNat [])) := by
            rw [List.getElem?_map, List.getElem?_eq_getElem hspl, List.getD_eq_getElem?_getD, List.getElem?_eq_getElem hspl] <;> rfl
          have wrl : (W.getD sp.toNat []).length ≤ 1000 := by
            have := row_le (S := W) sp.toNat
            rw [if_neg (by intro z; cases z)] at r3
            omega
          refine go_asgN 8 cx.nd (pn_list (PIs.it (PD.isqs (tp := false) (S := W) (pd_var 3))) T.list) ?_
          refine go_setL 8 (hs0 := rfl) (k := sp) (m := sp.toNat) (PN.da (pn_cat (pd_ix (PIs.it (PD.isqs (tp := false) (S := W) (pd_var 3))) (pd_var 7) (at_nat (j := sp.toNat) (by omega) wat)) (PN.da (pn_lst (pds_cons (pd_var 6) pds_nil))) ?_)) (pd_var 7) (by
              rw [List.length_map, show sp = ((sp.toNat : Nat) : Int) by omega]; exact ixN_nat hspl) ?_
          · refine sz4000 ?_
            rw [List.length_map]
            show _ + 1 ≤ 4000
            omega
          have eW : (W.map (dSq false)).set sp.toNat (.list ((W.getD sp.toNat []).map PyData.int ++ [dOpt (some x')])) = (W.set sp.toNat (W.getD sp.toNat [] ++ [x'])).map (dSq false) := by
            rw [List.map_set]
            simp
          refine go_eq (congrArg (fun q => [SD.dat (dF4 f), .dat (.int (nextC c)), .dat (.list (dIs crates)), .dat (dSqs false W), .dat (.int (n : Int)), .own (dIs (l.eraseIdx j)), .dat (dOpt (some x')), .dat (.int sp), .own q, .un]) eW) ?_
          have hWl : (W.set sp.toNat (W.getD sp.toNat [] ++ [x'])).flatten.length ≤ 1000 := by
            have := (set_one (S := W) x' hspl).length_eq
            rw [this, List.length_cons]
            rw [if_neg (by intro z; cases z)] at r3
            omega
          generalize hV : W.set sp.toNat (W.getD sp.toNat [] ++ [x']) = V at *
          refine go_freeze 8 rfl ?_
          refine go_if (td_val (pd_call cG (hr.mono (by decide)) (f, false, V) (pds_cons (pd_var 0) (pds_cons (pd_var 8) pds_nil)) rfl hWl)) (fun g1 => ?_) (fun g1 => go_on (go_on (go_end ⟨(W, some x'), ?_, rfl⟩ (by repeat (first | exact Wk.nil | apply Wk.same | apply Wk.un)))))
          · refine go_asg 3 cx.nd (pd_var 8) ?_
            refine go_asg 6 cx.nd pd_non (go_on (go_on (go_end ⟨(V, none), ?_, rfl⟩ (by repeat (first | exact Wk.nil | apply Wk.same | apply Wk.un)))))
            rw [hstep, hstep2, if_pos g1] <;> rfl
          · rw [hstep, hstep2, if_neg (by rw [g1]; decide)] <;> rfl
      · refine go_on (go_end ⟨(W, o), ?_, rfl⟩ (by repeat (first | exact Wk.nil | apply Wk.same | apply Wk.un)))
        cases o with
        | none =>
          rw [hstep] <;> rfl
        | some x' => cases d1
    · rintro _ ⟨_, rfl, rfl⟩
      have hle2 : (l.eraseIdx j).length = m' := by rw [List.length_eraseIdx_of_lt hjl]; omega
      refine go_end ⟨m', Nat.lt_succ_self _, nextC c, l.eraseIdx j, (place f (nextC c) q R f.1.toNat).1, rfl, hle2, by rw [p1]; exact hR, ?_, ?_⟩ (by repeat (first | exact Wk.nil | apply Wk.same | apply Wk.un))
      · have := hflen f.1.toNat
        split at this <;> omega
      · rw [← hfin]
        show _ = lawSt f m' (nextC c) (l.eraseIdx ((nextC c / 7 % (l.length : Int)).toNat)) (place f (nextC c) (l.getD ((nextC c / 7 % (l.length : Int)).toNat) 0) R f.1.toNat).1
        rw [hj, hx]
  · have hl0 : l = [] := by
      cases l with
      | nil => rfl
      | cons a b => simp at c1
    subst hl0
    have hm0 : m = 0 := by simpa using hl.symm
    subst hm0
    have hRf : R = lawStand f cell crates := hfin
    refine go_ret (PD.eq (pd_tupleN (PLc.n (pl_lc (g := dRow) 9 cx (PD.isqs (tp := false) (S := R) (pd_var 3)) (fun Fp r hr' s5 H5 C5 cl5 fp5 => pd_tuple (PD.li (pd_var 9)) T.tuple) (by
      have := sizeLine_eq; omega)) cx) T.tuple) ?_) ho
    rw [hRf]
end
end G

namespace G
open PySem L2
section
variable {X : Cx} {B : Bs} {ss : List SD} {a : Expr} {p p2 p3 p4 : Pos} {ds : List PyData} {rest : List Stmt} {D : Ends}
/-- x.pop(k), what it gives let go -/
theorem go_popX (j : Nat) {x : Str} {k : Int} {m : Nat} (hs0 : ss[j]? = some (.own ds)) (hk : PD X B a ss (.int k)) (hm : ixN ds.length k = some m) (hz : ds.length < 2 ^ 62) (h : Go X B rest (ss.set j (.own (ds.eraseIdx m))) D) (nr : noRaw ss = true := by rfl)
    (hpe : PE X (.Call (.Attribute (.Name x p) "pop" p2) [a] [] p3) (tBM X.K "list" rPopAt (tVar j) (tCons (tSem X a) tNil)) := by exact pe_bm PySem.F.plainAttrs_list PySem.F.slot_list_pop PySem.F.type_list_pop mt_popAt (pe_var (by rfl) (by first | exact Or.inl rfl | exact Or.inr (Or.inl rfl) | exact Or.inr (Or.inr rfl)) (by decide) (by decide)) (pa_cons pe_sem pa_nil))
    (hs : swapsWith (.Call (.Attribute (.Name x p) "pop" p2) [a] [] p3) none p4.line X.env = pure false := by rfl) : Go X B (.Expr (.Call (.Attribute (.Name x p) "pop" p2) [a] [] p3) p4 :: rest) ss D :=
  go_step (ps_expr hpe hs) fun σ F H s => by
    obtain ⟨q, vs, ea, a0, n, ha, r⟩ := s.slot j _ hs0
    refine ⟨_, ea, .inl ⟨rfl, vs, SqL.of ha⟩, hk σ F H s _ fun w F1 H1 g r1 => ?_⟩
    cases r1
    obtain ⟨q1, q2, q3, q4⟩ := ixN_seq hm
    have ll := r.length
    refine ⟨q, vs, k, m, vs[m]'(by omega), rfl, rfl, g.hh _ _ ha, by omega, by omega, by rw [ll]; exact q1, List.getElem?_eq_getElem (by omega), ?_⟩
    exact h σ F1 _ ((s.grow g).mut hs0 ea nr ((r.mono g.ff).erase m))
end
def turn (S : List (List Int)) (mode cell : Int) : List (List Int) :=
  let n := (S.length : Int)
  let j := (cell % n).toNat
  let k := ((cell % n + 1) % n).toNat
  let r := S.getD j []
  let m := (cell / 7 % ((r.length : Int) + 1)).toNat
  if mode = 1 then S ++ [[]] else if mode = 2 then S.eraseIdx j else if mode = 3 then S.set j (r.take m ++ [cell / 49 % 12 - 1] ++ r.drop m) else
  if mode = 4 then (S.set j (r ++ S.getD k [])).set k [] else if mode = 5 then S.set j r.reverse else if mode = 6 then (if 1 < r.length then S.set j (r.set 0 (r.getD (r.length - 1) 0)) else S) else S
theorem set_flen {S : List (List Int)} {i : Nat} (r : List Int) (h : i < S.length) : (S.set i r).flatten.length ≤ S.flatten.length + r.length := by
  have := (set_perm S i r h).length_eq
  rw [List.length_append, List.length_append] at this
  omega
theorem erase_flen : ∀ (S : List (List Int)) (i : Nat), (S.eraseIdx i).flatten.length ≤ S.flatten.length
  | [], _ => Nat.le_refl _
  | r :: S, 0 => by
    show S.flatten.length ≤ (r :: S).flatten.length
    rw [List.flatten_cons, List.length_append]; omega
  | r :: S, i + 1 => by
    have := erase_flen S i
    show (r :: S.eraseIdx i).flatten.length ≤ (r :: S).flatten.length
    rw [List.flatten_cons, List.flatten_cons, List.length_append, List.length_append]; omega
theorem turn_flen {S : List (List Int)} {mode cell : Int} (h2 : 2 ≤ S.length) (hz : S.flatten.length ≤ 100) : (turn S mode cell).flatten.length ≤ 400 := by
  have a1 := Int.emod_nonneg cell (show (S.length : Int) ≠ 0 by omega)
  have a2 := Int.emod_lt_of_pos cell (show 0 < (S.length : Int) by omega)
  have b1 := Int.emod_nonneg (cell % (S.length : Int) + 1) (show (S.length : Int) ≠ 0 by omega)
  have b2 := Int.emod_lt_of_pos (cell % (S.length : Int) + 1) (show 0 < (S.length : Int) by omega)
  have hr := row_le (S := S) (cell % (S.length : Int)).toNat
  have hk := row_le (S := S) ((cell % (S.length : Int) + 1) % (S.length : Int)).toNat
  unfold turn
  dsimp only
  split
  · rw [List.flatten_append, List.length_append]; simp; rw [List.length_flatten] at hz; omega
  · split
    · exact Nat.le_trans (erase_flen S _) (by omega)
    · split
      · refine Nat.le_trans (set_flen _ (by omega)) ?_
        rw [List.length_append, List.length_append, List.length_take, List.length_drop]
        simp only [List.length_cons, List.length_nil]
        omega
      · split
        · refine Nat.le_trans (set_flen _ (by rw [List.length_set]; omega)) ?_
          have := set_flen (S := S) (S.getD (cell % (S.length : Int)).toNat [] ++ S.getD ((cell % (S.length : Int) + 1) % (S.length : Int)).toNat []) (i := (cell % (S.length : Int)).toNat) (by omega)
          rw [List.length_append] at this
          simp only [List.length_nil]
          omega
        · split
          · refine Nat.le_trans (set_flen _ (by omega)) ?_
            rw [List.length_reverse]; omega
          · split
            · split
              · refine Nat.le_trans (set_flen _ (by omega)) ?_
                rw [List.length_set]; omega
              · omega
            · omega
theorem sq_at {S : List (List Int)} {j : Nat} (h : j < S.length) : (S.map (dSq false))[j]? = some (dSq false (S.getD j [])) := by
  rw [List.getElem?_map, List.getElem?_eq_getElem h, List.getD_eq_getElem?_getD, List.getElem?_eq_getElem h] <;> rfl
section
variable {P : Program} {w : World} {K : PySem.W.Frag} {mg : Str → Option Value} {base : Heap}
theorem sc_law_turned : FnScope ["standing", "mode", "cell", "rows", "stack", "at", "row"] ["standing", "mode", "cell"] (defScope s_law_turned) := ⟨rfl, rfl, rfl, by decide +kernel, rfl, by decide +kernel, by decide +kernel⟩
abbrev sp_law_turned (K : PySem.W.Frag) (C : Addr) : Sp := spO K C (fun u : List (List Int) × Int × Int => [dSt u.1, .int u.2.1, .int u.2.2]) (fun u => (2 ≤ u.1.length ∧ u.1.length ≤ 4) ∧ u.1.flatten.length ≤ 100 ∧ 0 ≤ u.2.1 ∧ u.2.1 ≤ 6) (fun u => .val (dSt (turn u.1 u.2.1 u.2.2)))
set_option maxHeartbeats 4000000 in
theorem ok_law_turned {C f : Addr} {fd : FuncData} (T : Bl mg) (F : L2.Fun K "_law_turned" "_law_turned" s_law_turned f fd) : FnOk P w K mg base (L2.CX P w) 1 f fd ["standing", "mode", "cell"] (sp_law_turned K C) := by
  refine ok_fn F sc_law_turned (fun _ => rfl) (fun cdv A outer s H F0 u Q E X hX cx hr tk hp ho => ?_)
  subst hX
  obtain ⟨S, mode, cell⟩ := u
  obtain ⟨⟨l2, l4⟩, hz, m0, m6⟩ := hp
  dsimp only at l2 l4 hz m0 m6 ho ⊢
  have a1 := Int.emod_nonneg cell (show (S.length : Int) ≠ 0 by omega)
  have a2 := Int.emod_lt_of_pos cell (show 0 < (S.length : Int) by omega)
  obtain ⟨j, hj⟩ : ∃ j : Nat, cell % (S.length : Int) = (j : Int) := ⟨(cell % (S.length : Int)).toNat, by omega⟩
  have hjl : j < S.length := by omega
  have hrl := row_le (S := S) j
  by_cases raw : mode = 3 ∨ mode = 5 ∨ mode = 6
  · refine go_asgRows 3 4 cx (PD.itt (pd_var 0)) (f := dRow) (g := fun r => r) (fun Fp r hr' s5 H5 C5 cl5 fp5 => pn_list (PD.tp (pd_var 4)) T.list) (szBig (by omega)) ?_
    rw [List.map_id']
    refine go_asg 5 cx.nd (PD.eq (pd_mod (pd_var 2) (pd_lenRows 3 rfl T.len) (by omega)) (x := .int (j : Int)) (by rw [hj])) ?_
    have skip : ∀ n : Int, mode ≠ n → decide (mode = n) = false := fun n h => decide_eq_false h
    have hix : ixN S.length (j : Int) = some j := ixN_nat hjl
    have fin : ∀ V : List (List Int), turn S mode cell = V → V.length ≤ 4 → Go (cxOf (L2.CX P w) P w K mg base ["standing", "mode", "cell", "rows", "stack", "at", "row"] "_law_turned" (defScope s_law_turned) f cdv A outer s H E) ⟨C, F0, H, F0⟩ [(defBody s_law_turned).getD 8 (.Pass ⟨0, 0, 0, 0⟩)]
        [.dat (dSt S), .dat (.int mode), .dat (.int cell), .raw (rowsP H V), .un, .dat (.int (j : Int)), .un] (dE Q) := fun V hV hV4 => by
      refine go_rowsFreeze 3 rfl ?_
      refine go_freeze 3 rfl ?_
      rw [hV] at ho
      exact go_ret (pd_tupleN (PLc.n (pl_lc (f := dSq false) (g := dRow) 6 cx (PD.isqs (tp := false) (S := V) (pd_var 3)) (fun Fp r hr' s5 H5 C5 cl5 fp5 => pd_tuple (PD.li (pd_var 6)) T.tuple) (szBig (by omega))) cx) T.tuple) ho
    rcases raw with e | e | e
    · subst e
      refine go_if (k := false) (td_cmp op_eq (PD.bo (pd_var 1)) (PD.bo pd_int) ob_eqI (nomark _)) (fun c => by cases c) (fun _ => go_on ?_)
      refine go_if (k := false) (td_cmp op_eq (PD.bo (pd_var 1)) (PD.bo pd_int) ob_eqI (nomark _)) (fun c => by cases c) (fun _ => go_on ?_)
      refine go_if (k := true) (td_cmp op_eq (PD.bo (pd_var 1)) (PD.bo pd_int) ob_eqI (nomark _)) (fun _ => ?_) (fun c => by cases c)
      have c1 := Int.emod_nonneg (cell / 7) (show (((S.getD j []).length : Int) + 1) ≠ 0 by omega)
      have c2 := Int.emod_lt_of_pos (cell / 7) (show 0 < (((S.getD j []).length : Int) + 1) by omega)
      refine go_rowIns 3 (k := (j : Int)) (j := j) (m := cell / 7 % (((S.getD j []).length : Int) + 1)) (n := cell / 49 % 12 - 1) rfl (pd_var 5) hix (pd_mod (pd_div (pd_var 2) pd_int) (pd_add (PD.eq (pd_len (PLi.it (pli_row 3 rfl (pd_var 5) hix)) T.len) (by rw [List.length_map])) pd_int) (by omega)) (pd_sub (pd_mod (pd_div (pd_var 2) pd_int) pd_int) pd_int) c1 (by omega) (szBig (by omega)) ?_
      refine go_on ?_
      refine go_if (k := false) (td_cmp op_eq (PD.bo (pd_var 1)) (PD.bo pd_int) ob_eqI (nomark _)) (fun c => by cases c) (fun _ => go_on ?_)
      refine go_if (k := false) (td_cmp op_eq (PD.bo (pd_var 1)) (PD.bo pd_int) ob_eqI (nomark _)) (fun c => by cases c) (fun _ => go_on ?_)
      refine go_if (k := false) (TD.eq (TW.t (tw_and (u := false) (v := false) (td_cmp op_eq (PD.bo (pd_var 1)) (PD.bo pd_int) ob_eqI (nomark _)) (fun c => by cases c))) rfl) (fun c => by cases c) (fun _ => go_on ?_)
      refine fin _ ?_ (by rw [List.length_set]; exact l4)
      unfold turn
      dsimp only
      rw [if_neg (by decide), if_neg (by decide), if_pos rfl, hj, Int.toNat_natCast]
    · subst e
      refine go_if (k := false) (td_cmp op_eq (PD.bo (pd_var 1)) (PD.bo pd_int) ob_eqI (nomark _)) (fun c => by cases c) (fun _ => go_on ?_)
      refine go_if (k := false) (td_cmp op_eq (PD.bo (pd_var 1)) (PD.bo pd_int) ob_eqI (nomark _)) (fun c => by cases c) (fun _ => go_on ?_)
      refine go_if (k := false) (td_cmp op_eq (PD.bo (pd_var 1)) (PD.bo pd_int) ob_eqI (nomark _)) (fun c => by cases c) (fun _ => go_on ?_)
      refine go_if (k := false) (td_cmp op_eq (PD.bo (pd_var 1)) (PD.bo pd_int) ob_eqI (nomark _)) (fun c => by cases c) (fun _ => go_on ?_)
      refine go_if (k := true) (td_cmp op_eq (PD.bo (pd_var 1)) (PD.bo pd_int) ob_eqI (nomark _)) (fun _ => ?_) (fun c => by cases c)
      refine go_rowRev 3 (k := (j : Int)) (j := j) rfl (pd_var 5) hix ?_
      refine go_on ?_
      refine go_if (k := false) (TD.eq (TW.t (tw_and (u := false) (v := false) (td_cmp op_eq (PD.bo (pd_var 1)) (PD.bo pd_int) ob_eqI (nomark _)) (fun c => by cases c))) rfl) (fun c => by cases c) (fun _ => go_on ?_)
      refine fin _ ?_ (by rw [List.length_set]; exact l4)
      unfold turn
      dsimp only
      rw [if_neg (by decide), if_neg (by decide), if_neg (by decide), if_neg (by decide), if_pos rfl, hj, Int.toNat_natCast]
    · subst e
      refine go_if (k := false) (td_cmp op_eq (PD.bo (pd_var 1)) (PD.bo pd_int) ob_eqI (nomark _)) (fun c => by cases c) (fun _ => go_on ?_)
      refine go_if (k := false) (td_cmp op_eq (PD.bo (pd_var 1)) (PD.bo pd_int) ob_eqI (nomark _)) (fun c => by cases c) (fun _ => go_on ?_)
      refine go_if (k := false) (td_cmp op_eq (PD.bo (pd_var 1)) (PD.bo pd_int) ob_eqI (nomark _)) (fun c => by cases c) (fun _ => go_on ?_)
      refine go_if (k := false) (td_cmp op_eq (PD.bo (pd_var 1)) (PD.bo pd_int) ob_eqI (nomark _)) (fun c => by cases c) (fun _ => go_on ?_)
      refine go_if (k := false) (td_cmp op_eq (PD.bo (pd_var 1)) (PD.bo pd_int) ob_eqI (nomark _)) (fun c => by cases c) (fun _ => go_on ?_)
      have tS : turn S 6 cell = if 1 < (S.getD j []).length then S.set j ((S.getD j []).set 0 ((S.getD j []).getD ((S.getD j []).length - 1) 0)) else S := by
        unfold turn
        dsimp only
        rw [if_neg (by decide), if_neg (by decide), if_neg (by decide), if_neg (by decide), if_neg (by decide), if_pos rfl, hj, Int.toNat_natCast]
      refine go_if (TD.eq (TW.t (tw_and (u := true) (td_cmp op_eq (PD.bo (pd_var 1)) (PD.bo pd_int) ob_eqI (nomark _)) (fun _ => tw_and1 (td_cmp op_gt (PD.bo (pd_len (PLi.it (pli_row 3 rfl (pd_var 5) hix)) T.len)) (PD.bo pd_int) ob_gt (nomark _))))) (v := decide (1 < (S.getD j []).length)) (by
          rw [List.length_map, Bool.true_and]
          exact decide_eq_decide.mpr ⟨fun q => by omega, fun q => by omega⟩)) (fun c => ?_) (fun c => go_on ?_)
      · have c' := of_decide_eq_true c
        refine go_rowSet 3 (k := (j : Int)) (j := j) (m := 0) (q := 0) rfl (pd_ix (d := .int ((S.getD j []).getD ((S.getD j []).length - 1) 0)) (PLi.it (pli_row 3 rfl (pd_var 5) hix)) (pd_neg pd_int) ?_) (pd_var 5) hix pd_int (ixN_nat (j := 0) (by omega)) ?_
        · unfold atI
          have : ixN (dIs (S.getD j [])).length (-1) = some ((S.getD j []).length - 1) := by
            unfold ixN
            rw [List.length_map, if_neg (by decide), if_pos (by omega)]
            congr 1
            omega
          rw [show -(1 : Int) = -1 from rfl, this]
          exact row_at (by omega)
        · refine go_on ?_
          exact fin _ (by rw [tS, if_pos c']) (by rw [List.length_set]; exact l4)
      · exact fin _ (by rw [tS, if_neg (of_decide_eq_false c)]) l4
  · have n3 : mode ≠ 3 := fun e => raw (Or.inl e)
    have n5 : mode ≠ 5 := fun e => raw (Or.inr (Or.inl e))
    have n6 : mode ≠ 6 := fun e => raw (Or.inr (Or.inr e))
    refine go_asgC 3 cx (pl_lc (f := dRow) (g := dSq false) 4 cx (PD.itt (pd_var 0)) (fun Fp r hr' s5 H5 C5 cl5 fp5 => PN.da (pn_list (PD.tp (pd_var 4)) T.list)) (szBig (by omega))) ?_
    refine go_asg 5 cx.nd (PD.eq (pd_mod (pd_var 2) (pd_len (pi_own 3) T.len) (by rw [List.length_map]; omega)) (x := .int (j : Int)) (by rw [List.length_map, hj])) ?_
    have fin : ∀ V : List (List Int), turn S mode cell = V → V.length ≤ 6 → Go (cxOf (L2.CX P w) P w K mg base ["standing", "mode", "cell", "rows", "stack", "at", "row"] "_law_turned" (defScope s_law_turned) f cdv A outer s H E) ⟨C, F0, H, F0⟩ [(defBody s_law_turned).getD 8 (.Pass ⟨0, 0, 0, 0⟩)]
        [.dat (dSt S), .dat (.int mode), .dat (.int cell), .own (V.map (dSq false)), .un, .dat (.int (j : Int)), .un] (dE Q) := fun V hV hV4 => by
      refine go_freeze 3 rfl ?_
      rw [hV] at ho
      exact go_ret (pd_tupleN (PLc.n (pl_lc (f := dSq false) (g := dRow) 6 cx (PD.isqs (tp := false) (S := V) (pd_var 3)) (fun Fp r hr' s5 H5 C5 cl5 fp5 => pd_tuple (PD.li (pd_var 6)) T.tuple) (szBig (by omega))) cx) T.tuple) ho
    have skip : ∀ n : Int, mode ≠ n → decide (mode = n) = false := fun n h => decide_eq_false h
    have hd : mode = 0 ∨ mode = 1 ∨ mode = 2 ∨ mode = 4 := by omega
    rcases hd with e | e | e | e
    · subst e
      refine go_if (k := false) (td_cmp op_eq (PD.bo (pd_var 1)) (PD.bo pd_int) ob_eqI (nomark _)) (fun c => by cases c) (fun _ => go_on ?_)
      refine go_if (k := false) (td_cmp op_eq (PD.bo (pd_var 1)) (PD.bo pd_int) ob_eqI (nomark _)) (fun c => by cases c) (fun _ => go_on ?_)
      refine go_if (k := false) (td_cmp op_eq (PD.bo (pd_var 1)) (PD.bo pd_int) ob_eqI (nomark _)) (fun c => by cases c) (fun _ => go_on ?_)
      refine go_if (k := false) (td_cmp op_eq (PD.bo (pd_var 1)) (PD.bo pd_int) ob_eqI (nomark _)) (fun c => by cases c) (fun _ => go_on ?_)
      refine go_if (k := false) (td_cmp op_eq (PD.bo (pd_var 1)) (PD.bo pd_int) ob_eqI (nomark _)) (fun c => by cases c) (fun _ => go_on ?_)
      refine go_if (k := false) (TD.eq (TW.t (tw_and (u := false) (v := false) (td_cmp op_eq (PD.bo (pd_var 1)) (PD.bo pd_int) ob_eqI (nomark _)) (fun c => by cases c))) rfl) (fun c => by cases c) (fun _ => go_on ?_)
      exact fin S rfl (by omega)
    · subst e
      refine go_if (k := true) (td_cmp op_eq (PD.bo (pd_var 1)) (PD.bo pd_int) ob_eqI (nomark _)) (fun _ => ?_) (fun c => by cases c)
      refine go_append 3 rfl (PN.da (pn_lst pds_nil)) ?_ (by rw [List.length_map]; exact szBig (by omega))
      rw [show S.map (dSq false) ++ [.list []] = (S ++ [[]]).map (dSq false) by simp]
      refine go_on ?_
      refine go_if (k := false) (td_cmp op_eq (PD.bo (pd_var 1)) (PD.bo pd_int) ob_eqI (nomark _)) (fun c => by cases c) (fun _ => go_on ?_)
      refine go_if (k := false) (td_cmp op_eq (PD.bo (pd_var 1)) (PD.bo pd_int) ob_eqI (nomark _)) (fun c => by cases c) (fun _ => go_on ?_)
      refine go_if (k := false) (td_cmp op_eq (PD.bo (pd_var 1)) (PD.bo pd_int) ob_eqI (nomark _)) (fun c => by cases c) (fun _ => go_on ?_)
      refine go_if (k := false) (td_cmp op_eq (PD.bo (pd_var 1)) (PD.bo pd_int) ob_eqI (nomark _)) (fun c => by cases c) (fun _ => go_on ?_)
      refine go_if (k := false) (TD.eq (TW.t (tw_and (u := false) (v := false) (td_cmp op_eq (PD.bo (pd_var 1)) (PD.bo pd_int) ob_eqI (nomark _)) (fun c => by cases c))) rfl) (fun c => by cases c) (fun _ => go_on ?_)
      exact fin (S ++ [[]]) rfl (by rw [List.length_append]; simp; omega)
    · subst e
      refine go_if (k := false) (td_cmp op_eq (PD.bo (pd_var 1)) (PD.bo pd_int) ob_eqI (nomark _)) (fun c => by cases c) (fun _ => go_on ?_)
      refine go_if (k := true) (td_cmp op_eq (PD.bo (pd_var 1)) (PD.bo pd_int) ob_eqI (nomark _)) (fun _ => ?_) (fun c => by cases c)
      refine go_popX 3 (k := (j : Int)) (m := j) rfl (pd_var 5) (by rw [List.length_map]; exact ixN_nat hjl) (by rw [List.length_map]; omega) ?_
      have em : ∀ (S' : List (List Int)) (i : Nat), (S'.map (dSq false)).eraseIdx i = (S'.eraseIdx i).map (dSq false) := by
        intro S'
        induction S' with
        | nil => intro i; rfl
        | cons r S' ih => intro i; cases i with
          | zero => rfl
          | succ i => exact congrArg (dSq false r :: ·) (ih i)
      rw [em]
      refine go_on ?_
      refine go_if (k := false) (td_cmp op_eq (PD.bo (pd_var 1)) (PD.bo pd_int) ob_eqI (nomark _)) (fun c => by cases c) (fun _ => go_on ?_)
      refine go_if (k := false) (td_cmp op_eq (PD.bo (pd_var 1)) (PD.bo pd_int) ob_eqI (nomark _)) (fun c => by cases c) (fun _ => go_on ?_)
      refine go_if (k := false) (td_cmp op_eq (PD.bo (pd_var 1)) (PD.bo pd_int) ob_eqI (nomark _)) (fun c => by cases c) (fun _ => go_on ?_)
      refine go_if (k := false) (TD.eq (TW.t (tw_and (u := false) (v := false) (td_cmp op_eq (PD.bo (pd_var 1)) (PD.bo pd_int) ob_eqI (nomark _)) (fun c => by cases c))) rfl) (fun c => by cases c) (fun _ => go_on ?_)
      refine fin (S.eraseIdx j) ?_ (by rw [List.length_eraseIdx_of_lt hjl]; omega)
      unfold turn
      dsimp only
      rw [if_neg (by decide), if_pos rfl, hj, Int.toNat_natCast]
    · subst e
      have b1 := Int.emod_nonneg ((j : Int) + 1) (show (S.length : Int) ≠ 0 by omega)
      have b2 := Int.emod_lt_of_pos ((j : Int) + 1) (show 0 < (S.length : Int) by omega)
      obtain ⟨k, hk⟩ : ∃ k : Nat, ((j : Int) + 1) % (S.length : Int) = (k : Int) := ⟨(((j : Int) + 1) % (S.length : Int)).toNat, by omega⟩
      have hkl : k < S.length := by omega
      have hrk := row_le (S := S) k
      refine go_if (k := false) (td_cmp op_eq (PD.bo (pd_var 1)) (PD.bo pd_int) ob_eqI (nomark _)) (fun c => by cases c) (fun _ => go_on ?_)
      refine go_if (k := false) (td_cmp op_eq (PD.bo (pd_var 1)) (PD.bo pd_int) ob_eqI (nomark _)) (fun c => by cases c) (fun _ => go_on ?_)
      refine go_if (k := false) (td_cmp op_eq (PD.bo (pd_var 1)) (PD.bo pd_int) ob_eqI (nomark _)) (fun c => by cases c) (fun _ => go_on ?_)
      refine go_if (k := true) (td_cmp op_eq (PD.bo (pd_var 1)) (PD.bo pd_int) ob_eqI (nomark _)) (fun _ => ?_) (fun c => by cases c)
      refine go_setL 3 (hs0 := rfl) (k := (j : Int)) (m := j) (PN.da (pn_cat (pd_ix (d := dSq false (S.getD j [])) (pi_own 3) (pd_var 5) (at_nat (j := j) rfl (sq_at hjl))) (pd_ix (d := dSq false (S.getD k [])) (pi_own 3) (pd_mod (pd_add (pd_var 5) pd_int) (PD.eq (pd_len (pi_own 3) T.len) (by rw [List.length_map])) (by omega)) (at_nat (j := k) hk (sq_at hkl))) (by
        rw [List.length_map, List.length_map]; exact sz4000 (by omega)))) (pd_var 5) (by rw [List.length_map]; exact ixN_nat hjl) ?_
      have e1 : (S.map (dSq false)).set j (.list ((S.getD j []).map PyData.int ++ (S.getD k []).map PyData.int)) = (S.set j (S.getD j [] ++ S.getD k [])).map (dSq false) := by
        rw [List.map_set, ← List.map_append] <;> rfl
      rw [e1]
      have hUl : (S.set j (S.getD j [] ++ S.getD k [])).length = S.length := List.length_set
      refine go_setL 3 (hs0 := rfl) (k := (k : Int)) (m := k) (PN.da (pn_lst pds_nil)) (PD.eq (pd_mod (pd_add (pd_var 5) pd_int) (PD.eq (pd_len (pi_own 3) T.len) (by rw [List.length_map, hUl])) (by omega)) (by rw [hk])) (by rw [List.length_map, hUl]; exact ixN_nat hkl) ?_
      have gset : ∀ U : List (List Int), (U.map (dSq false)).set k (.list []) = (U.set k []).map (dSq false) := fun U => by
        rw [List.map_set] <;> rfl
      rw [gset]
      refine go_on ?_
      refine go_if (k := false) (td_cmp op_eq (PD.bo (pd_var 1)) (PD.bo pd_int) ob_eqI (nomark _)) (fun c => by cases c) (fun _ => go_on ?_)
      refine go_if (k := false) (TD.eq (TW.t (tw_and (u := false) (v := false) (td_cmp op_eq (PD.bo (pd_var 1)) (PD.bo pd_int) ob_eqI (nomark _)) (fun c => by cases c))) rfl) (fun c => by cases c) (fun _ => go_on ?_)
      refine fin ((S.set j (S.getD j [] ++ S.getD k [])).set k []) ?_ (by rw [List.length_set, List.length_set]; omega)
      unfold turn
      dsimp only
      rw [if_neg (by decide), if_neg (by decide), if_neg (by decide), if_pos rfl, hj, Int.toNat_natCast, hk, Int.toNat_natCast]
end
end G

namespace G
open PySem L2
theorem ob_eqB {K : PySem.W.Frag} {C : Addr} {i j : Bool} : OpB K C rEq (.bool i) (.bool j) (decide (i = j)) := fun H v w r1 r2 Q q => by
  cases r1; cases r2
  refine ⟨rfl, ?_⟩
  have e : decide (V.bl i = V.bl j) = decide (i = j) := decide_eq_decide.mpr ⟨fun h => V.bl.inj h, fun h => by rw [h]⟩
  rw [e]; exact q
theorem lenG {f : FL} {S : List (List Int)} (h : goodF f S = true) : (S.length : Int) = f.1 := by
  unfold goodF good at h
  simp only [Bool.and_eq_true] at h
  exact of_decide_eq_true h.1.1.1
section
variable {P : Program} {w : World} {K : PySem.W.Frag} {mg : Str → Option Value} {base : Heap}
theorem sc_law : FnScope ["script", "floor", "many", "standing", "found"] ["script"] (defScope s_law) := ⟨rfl, rfl, rfl, by decide +kernel, rfl, by decide +kernel, by decide +kernel⟩
theorem ok_law {C cNF f : Addr} {fd : FuncData} (T : Bl mg) (F : L2.Fun K "law" "law" s_law f fd)
    (cA : Cal P w K mg base "_law_cell_at" 1 (sp_cell_at K C)) (cF : Cal P w K mg base "_law_floor" 2 (sp_law_floor K C)) (cG : Cal P w K mg base "_law_good" 1 (sp_law_good K C)) (cS : Cal P w K mg base "_law_standing" 2 (sp_law_standing K C))
    (cI : CalI P w K mg base "Floor" 2 (spInit K C cNF) C) (cT : Cal P w K mg base "_law_turned" 1 (sp_law_turned K C)) (cIG : Cal P w K mg base "is_good" 2 (sp_is_good K C)) : FnOk P w K mg base (L2.CX P w) 4 f fd ["script"] (sp_law K C) := by
  refine ok_fn F sc_law (fun _ => rfl) (fun cdv A outer s H F0 ns Q E X hX cx hr tk hp ho => ?_)
  subst hX
  have hr1 : Room 1 _ := hr.mono (by decide)
  have hr2 : Room 2 _ := hr.mono (by decide)
  refine go_asg 1 cx.nd (pd_call cF hr2 (ns, 0, 7) (pds_cons (pd_var 0) (pds_cons pd_int (pds_cons pd_int pds_nil))) rfl (show (0 : Int) ≤ 0 ∧ (0 : Int) < 7 ∧ (7 : Int) ≤ 10 by decide)) ?_
  obtain ⟨n1, n2, n3, n4⟩ := lawFl_nums ns 0 7
  have fok := lawFl_ok ns 0 (most := 7) (by decide) (by decide)
  generalize lawFl ns 0 7 = fl at n1 n2 n3 n4 fok
  refine go_asg 2 cx.nd (pd_mod (pd_call cA hr1 (ns, 7) (pds_cons (pd_var 0) (pds_cons pd_int pds_nil)) rfl (show (0 : Int) ≤ 7 by decide)) pd_int) ?_
  have m0 : 0 ≤ cellAt ns 7 % 8 ∧ cellAt ns 7 % 8 < 8 := ⟨Int.emod_nonneg _ (by decide), Int.emod_lt_of_pos _ (by decide)⟩
  dsimp only
  generalize cellAt ns 7 % 8 = many at m0
  refine go_asg 3 cx.nd (pd_call cS hr2 (fl, cellAt ns 8 % 2147483647, rgI 0 many) (pds_cons (pd_var 1) (pds_cons (pd_mod (pd_call cA hr1 (ns, 8) (pds_cons (pd_var 0) (pds_cons pd_int pds_nil)) rfl (show (0 : Int) ≤ 8 by decide)) pd_int) (pds_cons (PD.eq (PN.da (pn_listRg cx.calm (pd_var 2) m0.1 (by omega) T.list T.range)) (by rw [rgD_I])) pds_nil))) rfl ⟨n1, show 0 ≤ fl.2.1 by omega, show (rgI 0 many).length ≤ 100 by rw [rgI_len]; omega⟩) ?_
  have g0 := stand_good (f := fl) (by omega) (by omega) (cellAt ns 8 % 2147483647) (rgI 0 many)
  have z0 := stand_len (f := fl) (by omega) (by omega) (cellAt ns 8 % 2147483647) (rgI 0 many)
  have l0 := lenG g0
  rw [rgI_len] at z0
  dsimp only
  generalize lawStand fl (cellAt ns 8 % 2147483647) (rgI 0 many) = S0 at g0 z0 l0
  have t0 := Int.emod_nonneg (cellAt ns 7 / 32) (show (7 : Int) ≠ 0 by decide)
  have t1 := Int.emod_lt_of_pos (cellAt ns 7 / 32) (show (0 : Int) < 7 by decide)
  refine go_ifJ (fun ss => ∃ S : List (List Int), S.flatten.length ≤ 400 ∧ ss = [.dat (scr ns), .dat (dF4 fl), .dat (.int many), .dat (dSt S), .un])
    (td_cmp op_gt (PD.bo (pd_mod (pd_div (pd_call cA hr1 (ns, 7) (pds_cons (pd_var 0) (pds_cons pd_int pds_nil)) rfl (show (0 : Int) ≤ 7 by decide)) pd_int) pd_int)) (PD.bo pd_int) ob_gt (nomark _)) (fun c => ?_) (fun c => go_end ⟨S0, by omega, rfl⟩) ?_
  · refine go_asg 3 cx.nd (pd_call cT hr1 (S0, cellAt ns 7 / 32 % 7, cellAt ns 9) (pds_cons (pd_var 3) (pds_cons (pd_mod (pd_div (pd_call cA hr1 (ns, 7) (pds_cons (pd_var 0) (pds_cons pd_int pds_nil)) rfl (show (0 : Int) ≤ 7 by decide)) pd_int) pd_int) (pds_cons (pd_call cA hr1 (ns, 9) (pds_cons (pd_var 0) (pds_cons pd_int pds_nil)) rfl (show (0 : Int) ≤ 9 by decide)) pds_nil))) rfl ⟨by constructor <;> (dsimp only; omega), by dsimp only; omega, t0, by show cellAt ns 7 / 32 % 7 ≤ 6; omega⟩) ?_
    exact go_end ⟨turn S0 (cellAt ns 7 / 32 % 7) (cellAt ns 9), turn_flen (by omega) (by omega), rfl⟩
  rintro _ ⟨S, zS, rfl⟩
  refine go_asg 4 cx.nd (pd_call cIG hr2 (normF fl, S) (pds_cons (pd_make cI hr fl (pga_dat (pd_ix (PD.tp (pd_var 1)) pd_int (at_nat (j := 0) rfl rfl)) (pga_dat (pd_ix (PD.tp (pd_var 1)) pd_int (at_nat (j := 1) rfl rfl)) (pga_dat (pd_ix (PD.tp (pd_var 1)) pd_int (at_nat (j := 2) rfl rfl)) (pga_bor (PN.bo (pn_list (PD.ls (pd_ix (PD.tp (pd_var 1)) pd_int (at_nat (j := 3) rfl rfl))) T.list)) pga_nil)))) fok) (pds_cons (pd_var 3) pds_nil)) rfl (by show S.flatten.length ≤ 1000; omega)) ?_
  exact go_ret (PD.eq (pd_and (pd_isi "bool" (PD.bo (pd_var 4)) rfl (k := true) (by decide +kernel) T.isinstance T.bool) fun _ => pd_one (pd_cmp op_eq (PD.bo (pd_var 4)) (PD.bo (pd_call cG hr1 (fl, true, S) (pds_cons (pd_var 1) (pds_cons (pd_var 3) pds_nil)) rfl (by show S.flatten.length ≤ 1000; omega))) ob_eqB (nomark _)))
    (by
      have e1 : good (normF fl).1 (normF fl).2.1 (normF fl).2.2.2 S = goodF fl S := good_norm fl S
      dsimp only at e1 ⊢
      rw [e1, decide_eq_true rfl]; rfl)) ho
end
end G

namespace G
open PySem L2
theorem all_mk {l : PySem.W.OpenLaw} {w : World} {K : PySem.W.Frag} {h : Heap} {mg : Str → Option Value} {fa C f_see_bans f_crates_of f_stack_is_good f_is_good f_law_cell_at f_law_floor f_law_good f_law_standing f_law_turned f_law f_Floor_init C_NoFloor : Addr} (X : K.In h) (G : h.Ns mainGlobals mg) (hfa : mg "law" = some (.ref fa))
    {od_see_bans an_see_bans od_crates_of an_crates_of od_stack_is_good an_stack_is_good od_is_good an_is_good od_law_cell_at an_law_cell_at od_law_floor an_law_floor od_law_good an_law_good od_law_standing an_law_standing od_law_turned an_law_turned od_law an_law od_Floor_init an_Floor_init : Option Addr}
    {sl_see_bans sl_crates_of sl_stack_is_good sl_is_good sl_law_cell_at sl_law_floor sl_law_good sl_law_standing sl_law_turned sl_law sl_Floor_init : Array (Option Value)}
    {oc_see_bans kV_see_bans dc_see_bans pm_see_bans cd_see_bans ct_see_bans oc_crates_of kV_crates_of dc_crates_of pm_crates_of cd_crates_of ct_crates_of oc_stack_is_good kV_stack_is_good dc_stack_is_good pm_stack_is_good cd_stack_is_good ct_stack_is_good oc_is_good kV_is_good dc_is_good pm_is_good cd_is_good ct_is_good oc_law_cell_at kV_law_cell_at dc_law_cell_at pm_law_cell_at cd_law_cell_at ct_law_cell_at oc_law_floor kV_law_floor dc_law_floor pm_law_floor cd_law_floor ct_law_floor oc_law_good kV_law_good dc_law_good pm_law_good cd_law_good ct_law_good oc_law_standing kV_law_standing dc_law_standing pm_law_standing cd_law_standing ct_law_standing oc_law_turned kV_law_turned dc_law_turned pm_law_turned cd_law_turned ct_law_turned oc_law kV_law dc_law pm_law cd_law ct_law oc_Floor_init kV_Floor_init dc_Floor_init pm_Floor_init cd_Floor_init ct_Floor_init : Value}
    (a_see_bans : PySem.W.nsIn K mainGlobals "see_bans" = some (some (.ref f_see_bans)))
    (l_see_bans : K.lookup f_see_bans = some ⟨oc_see_bans, od_see_bans, .func (PySem.W.fnOf "see_bans" "see_bans" (defArgs s_see_bans) (defBody s_see_bans) (defScope s_see_bans) .none kV_see_bans dc_see_bans pm_see_bans an_see_bans cd_see_bans ct_see_bans), sl_see_bans⟩)
    (c_see_bans : PySem.W.codeIn K cd_see_bans "see_bans" = true)
    (k_see_bans : PySem.W.keepIn K (.ref f_see_bans) = true)
    (a_crates_of : PySem.W.nsIn K mainGlobals "crates_of" = some (some (.ref f_crates_of)))
    (l_crates_of : K.lookup f_crates_of = some ⟨oc_crates_of, od_crates_of, .func (PySem.W.fnOf "crates_of" "crates_of" (defArgs s_crates_of) (defBody s_crates_of) (defScope s_crates_of) .none kV_crates_of dc_crates_of pm_crates_of an_crates_of cd_crates_of ct_crates_of), sl_crates_of⟩)
    (c_crates_of : PySem.W.codeIn K cd_crates_of "crates_of" = true)
    (k_crates_of : PySem.W.keepIn K (.ref f_crates_of) = true)
    (a_stack_is_good : PySem.W.nsIn K mainGlobals "stack_is_good" = some (some (.ref f_stack_is_good)))
    (l_stack_is_good : K.lookup f_stack_is_good = some ⟨oc_stack_is_good, od_stack_is_good, .func (PySem.W.fnOf "stack_is_good" "stack_is_good" (defArgs s_stack_is_good) (defBody s_stack_is_good) (defScope s_stack_is_good) .none kV_stack_is_good dc_stack_is_good pm_stack_is_good an_stack_is_good cd_stack_is_good ct_stack_is_good), sl_stack_is_good⟩)
    (c_stack_is_good : PySem.W.codeIn K cd_stack_is_good "stack_is_good" = true)
    (k_stack_is_good : PySem.W.keepIn K (.ref f_stack_is_good) = true)
    (a_is_good : PySem.W.nsIn K mainGlobals "is_good" = some (some (.ref f_is_good)))
    (l_is_good : K.lookup f_is_good = some ⟨oc_is_good, od_is_good, .func (PySem.W.fnOf "is_good" "is_good" (defArgs s_is_good) (defBody s_is_good) (defScope s_is_good) .none kV_is_good dc_is_good pm_is_good an_is_good cd_is_good ct_is_good), sl_is_good⟩)
    (c_is_good : PySem.W.codeIn K cd_is_good "is_good" = true)
    (k_is_good : PySem.W.keepIn K (.ref f_is_good) = true)
    (a_law_cell_at : PySem.W.nsIn K mainGlobals "_law_cell_at" = some (some (.ref f_law_cell_at)))
    (l_law_cell_at : K.lookup f_law_cell_at = some ⟨oc_law_cell_at, od_law_cell_at, .func (PySem.W.fnOf "_law_cell_at" "_law_cell_at" (defArgs s_law_cell_at) (defBody s_law_cell_at) (defScope s_law_cell_at) .none kV_law_cell_at dc_law_cell_at pm_law_cell_at an_law_cell_at cd_law_cell_at ct_law_cell_at), sl_law_cell_at⟩)
    (c_law_cell_at : PySem.W.codeIn K cd_law_cell_at "_law_cell_at" = true)
    (k_law_cell_at : PySem.W.keepIn K (.ref f_law_cell_at) = true)
    (a_law_floor : PySem.W.nsIn K mainGlobals "_law_floor" = some (some (.ref f_law_floor)))
    (l_law_floor : K.lookup f_law_floor = some ⟨oc_law_floor, od_law_floor, .func (PySem.W.fnOf "_law_floor" "_law_floor" (defArgs s_law_floor) (defBody s_law_floor) (defScope s_law_floor) .none kV_law_floor dc_law_floor pm_law_floor an_law_floor cd_law_floor ct_law_floor), sl_law_floor⟩)
    (c_law_floor : PySem.W.codeIn K cd_law_floor "_law_floor" = true)
    (k_law_floor : PySem.W.keepIn K (.ref f_law_floor) = true)
    (a_law_good : PySem.W.nsIn K mainGlobals "_law_good" = some (some (.ref f_law_good)))
    (l_law_good : K.lookup f_law_good = some ⟨oc_law_good, od_law_good, .func (PySem.W.fnOf "_law_good" "_law_good" (defArgs s_law_good) (defBody s_law_good) (defScope s_law_good) .none kV_law_good dc_law_good pm_law_good an_law_good cd_law_good ct_law_good), sl_law_good⟩)
    (c_law_good : PySem.W.codeIn K cd_law_good "_law_good" = true)
    (k_law_good : PySem.W.keepIn K (.ref f_law_good) = true)
    (a_law_standing : PySem.W.nsIn K mainGlobals "_law_standing" = some (some (.ref f_law_standing)))
    (l_law_standing : K.lookup f_law_standing = some ⟨oc_law_standing, od_law_standing, .func (PySem.W.fnOf "_law_standing" "_law_standing" (defArgs s_law_standing) (defBody s_law_standing) (defScope s_law_standing) .none kV_law_standing dc_law_standing pm_law_standing an_law_standing cd_law_standing ct_law_standing), sl_law_standing⟩)
    (c_law_standing : PySem.W.codeIn K cd_law_standing "_law_standing" = true)
    (k_law_standing : PySem.W.keepIn K (.ref f_law_standing) = true)
    (a_law_turned : PySem.W.nsIn K mainGlobals "_law_turned" = some (some (.ref f_law_turned)))
    (l_law_turned : K.lookup f_law_turned = some ⟨oc_law_turned, od_law_turned, .func (PySem.W.fnOf "_law_turned" "_law_turned" (defArgs s_law_turned) (defBody s_law_turned) (defScope s_law_turned) .none kV_law_turned dc_law_turned pm_law_turned an_law_turned cd_law_turned ct_law_turned), sl_law_turned⟩)
    (c_law_turned : PySem.W.codeIn K cd_law_turned "_law_turned" = true)
    (k_law_turned : PySem.W.keepIn K (.ref f_law_turned) = true)
    (a_law : PySem.W.nsIn K mainGlobals "law" = some (some (.ref f_law)))
    (l_law : K.lookup f_law = some ⟨oc_law, od_law, .func (PySem.W.fnOf "law" "law" (defArgs s_law) (defBody s_law) (defScope s_law) .none kV_law dc_law pm_law an_law cd_law ct_law), sl_law⟩)
    (c_law : PySem.W.codeIn K cd_law "law" = true)
    (k_law : PySem.W.keepIn K (.ref f_law) = true)
    (a_Floor : PySem.W.nsIn K mainGlobals "Floor" = some (some (.ref C)))
    (a_Floor_init : PySem.W.findIn K (.ref C) "__init__" = some (some (.ref f_Floor_init)))
    (i_Floor_init : PySem.W.isFn K (.ref f_Floor_init) = true)
    (l_Floor_init : K.lookup f_Floor_init = some ⟨oc_Floor_init, od_Floor_init, .func (PySem.W.fnOf "__init__" "Floor.__init__" (defArgs s_Floor_init) (defBody s_Floor_init) (defScope s_Floor_init) .none kV_Floor_init dc_Floor_init pm_Floor_init an_Floor_init cd_Floor_init ct_Floor_init), sl_Floor_init⟩)
    (c_Floor_init : PySem.W.codeIn K cd_Floor_init "Floor.__init__" = true)
    (k_Floor_init : PySem.W.keepIn K (.ref f_Floor_init) = true)
    (pg : PySem.W.plainGet K C Str.empty = true)
    (hd : PySem.W.hasDictIn K C = true)
    (po : PySem.W.plainOver K C = true)
    (sa : PySem.W.findIn K (.ref C) "__setattr__" = some (some (.builtin "object.__setattr__")))
    (mk : PySem.W.makesIn K C = true)
    (kc : PySem.W.keepIn K (.ref C) = true)
    (nM : PySem.W.findIn K (.ref C) "many" = some none)
    (nH : PySem.W.findIn K (.ref C) "high" = some none)
    (nS : PySem.W.findIn K (.ref C) "strong" = some none)
    (nB : PySem.W.findIn K (.ref C) "banned" = some none)
    (a_NoFloor : PySem.W.nsIn K mainGlobals "NoFloor" = some (some (.ref C_NoFloor)))
    (x_NoFloor : PySem.W.excIn K C_NoFloor [.type "ValueError", .type "Exception", .type "BaseException", .type "object"] "ValueError.__new__" = true)
    (k_NoFloor : PySem.W.keepIn K (.ref C_NoFloor) = true)
    (b_NoFloor : PySem.W.subIn K (.ref C_NoFloor) (.type "BaseException") = some true)
    (t_NoFloor : PySem.W.typeIn K (.ref C_NoFloor) = some (.type "type"))
    (z_len : PySem.W.nsIn K mainGlobals "len" = some none)
    (z_list : PySem.W.nsIn K mainGlobals "list" = some none)
    (z_tuple : PySem.W.nsIn K mainGlobals "tuple" = some none)
    (z_range : PySem.W.nsIn K mainGlobals "range" = some none)
    (z_sorted : PySem.W.nsIn K mainGlobals "sorted" = some none)
    (z_set : PySem.W.nsIn K mainGlobals "set" = some none)
    (z_min : PySem.W.nsIn K mainGlobals "min" = some none)
    (z_max : PySem.W.nsIn K mainGlobals "max" = some none)
    (z_abs : PySem.W.nsIn K mainGlobals "abs" = some none)
    (z_isinstance : PySem.W.nsIn K mainGlobals "isinstance" = some none)
    (z_int : PySem.W.nsIn K mainGlobals "int" = some none)
    (z_bool : PySem.W.nsIn K mainGlobals "bool" = some none)
    (z_str : PySem.W.nsIn K mainGlobals "str" = some none)
    (z_all : PySem.W.nsIn K mainGlobals "all" = some none)
    : ∃ fd : FuncData, (∀ (s : Shared) (v : Value), BindsTo s fd ⟨[v], []⟩ [("script", v)]) ∧ ∀ base : Heap, K.In base → base.Ns mainGlobals mg → FnOk l.prog w K mg base (L2.CX l.prog w) 4 fa fd ["script"] (spLaw K) := by
  have e := hfa.symm.trans (PySem.W.mg_of X G a_law)
  cases e
  have T : Bl mg := ⟨PySem.W.mg_none_of X G z_len, PySem.W.mg_none_of X G z_list, PySem.W.mg_none_of X G z_tuple, PySem.W.mg_none_of X G z_range, PySem.W.mg_none_of X G z_sorted, PySem.W.mg_none_of X G z_set, PySem.W.mg_none_of X G z_min, PySem.W.mg_none_of X G z_max, PySem.W.mg_none_of X G z_abs, PySem.W.mg_none_of X G z_isinstance, PySem.W.mg_none_of X G z_int, PySem.W.mg_none_of X G z_bool, PySem.W.mg_none_of X G z_str, PySem.W.mg_none_of X G z_all⟩
  have TF : FlT K mg C := ⟨⟨pg, hd, po, sa⟩, nM, nH, nS, nB, PySem.W.mg_of X G a_Floor⟩
  have E_NoFloor : ExT K mg "NoFloor" C_NoFloor := ⟨PySem.W.mg_of X G a_NoFloor, x_NoFloor, k_NoFloor, b_NoFloor, t_NoFloor⟩
  have F_see_bans := fun_mk (st := s_see_bans) l_see_bans c_see_bans k_see_bans
  have b_see_bans := F_see_bans.binds (ps := ["bans"]) fun _ _ _ _ _ _ us hl => match us, hl with | [_], _ => rfl
  have F_crates_of := fun_mk (st := s_crates_of) l_crates_of c_crates_of k_crates_of
  have b_crates_of := F_crates_of.binds (ps := ["standing"]) fun _ _ _ _ _ _ us hl => match us, hl with | [_], _ => rfl
  have F_stack_is_good := fun_mk (st := s_stack_is_good) l_stack_is_good c_stack_is_good k_stack_is_good
  have b_stack_is_good := F_stack_is_good.binds (ps := ["floor", "stack"]) fun _ _ _ _ _ _ us hl => match us, hl with | [_, _], _ => rfl
  have F_is_good := fun_mk (st := s_is_good) l_is_good c_is_good k_is_good
  have b_is_good := F_is_good.binds (ps := ["floor", "standing"]) fun _ _ _ _ _ _ us hl => match us, hl with | [_, _], _ => rfl
  have F_law_cell_at := fun_mk (st := s_law_cell_at) l_law_cell_at c_law_cell_at k_law_cell_at
  have b_law_cell_at := F_law_cell_at.binds (ps := ["script", "k"]) fun _ _ _ _ _ _ us hl => match us, hl with | [_, _], _ => rfl
  have F_law_floor := fun_mk (st := s_law_floor) l_law_floor c_law_floor k_law_floor
  have b_law_floor := F_law_floor.binds (ps := ["script", "first", "most"]) fun _ _ _ _ _ _ us hl => match us, hl with | [_, _, _], _ => rfl
  have F_law_good := fun_mk (st := s_law_good) l_law_good c_law_good k_law_good
  have b_law_good := F_law_good.binds (ps := ["floor", "standing"]) fun _ _ _ _ _ _ us hl => match us, hl with | [_, _], _ => rfl
  have F_law_standing := fun_mk (st := s_law_standing) l_law_standing c_law_standing k_law_standing
  have b_law_standing := F_law_standing.binds (ps := ["floor", "cell", "crates"]) fun _ _ _ _ _ _ us hl => match us, hl with | [_, _, _], _ => rfl
  have F_law_turned := fun_mk (st := s_law_turned) l_law_turned c_law_turned k_law_turned
  have b_law_turned := F_law_turned.binds (ps := ["standing", "mode", "cell"]) fun _ _ _ _ _ _ us hl => match us, hl with | [_, _, _], _ => rfl
  have F_law := fun_mk (st := s_law) l_law c_law k_law
  have F_Floor_init := fun_mk (st := s_Floor_init) l_Floor_init c_Floor_init k_Floor_init
  have b_Floor_init := F_Floor_init.binds (ps := ["self", "stacks", "height", "lift", "bans"]) fun _ _ _ _ _ _ us hl => match us, hl with | [_, _, _, _, _], _ => rfl
  refine ⟨PySem.W.fnOf "law" "law" (defArgs s_law) (defBody s_law) (defScope s_law) .none kV_law dc_law pm_law an_law cd_law ct_law, fun s v => .of_eq rfl, fun base X2 G2 => ?_⟩
  have g_see_bans : Cal l.prog w K mg base "see_bans" 1 (sp_see_bans K C C_NoFloor) := cal_mk F_see_bans (PySem.W.mg_of X G a_see_bans) b_see_bans (ok_see_bans T F_see_bans E_NoFloor)
  have g_Floor_init : CalI l.prog w K mg base "Floor" 2 (spInit K C C_NoFloor) C := ⟨_, _, _, ⟨mk, a_Floor_init, i_Floor_init, kc⟩, ok_init T TF F_Floor_init E_NoFloor g_see_bans, PySem.W.mg_of X G a_Floor, b_Floor_init⟩
  have g_crates_of : Cal l.prog w K mg base "crates_of" 1 (sp_crates_of K C) := cal_mk F_crates_of (PySem.W.mg_of X G a_crates_of) b_crates_of (ok_crates_of T F_crates_of)
  have g_stack_is_good : Cal l.prog w K mg base "stack_is_good" 1 (sp_stack_is_good K C) := cal_mk F_stack_is_good (PySem.W.mg_of X G a_stack_is_good) b_stack_is_good (ok_stack_is_good T TF F_stack_is_good)
  have g_is_good : Cal l.prog w K mg base "is_good" 2 (sp_is_good K C) := cal_mk F_is_good (PySem.W.mg_of X G a_is_good) b_is_good (ok_is_good T F_is_good TF g_crates_of g_stack_is_good)
  have g_law_cell_at : Cal l.prog w K mg base "_law_cell_at" 1 (sp_cell_at K C) := cal_mk F_law_cell_at (PySem.W.mg_of X G a_law_cell_at) b_law_cell_at (ok_cell_at T F_law_cell_at)
  have g_law_floor : Cal l.prog w K mg base "_law_floor" 2 (sp_law_floor K C) := cal_mk F_law_floor (PySem.W.mg_of X G a_law_floor) b_law_floor (ok_law_floor T F_law_floor g_law_cell_at)
  have g_law_good : Cal l.prog w K mg base "_law_good" 1 (sp_law_good K C) := cal_mk F_law_good (PySem.W.mg_of X G a_law_good) b_law_good (ok_law_good T F_law_good)
  have g_law_standing : Cal l.prog w K mg base "_law_standing" 2 (sp_law_standing K C) := cal_mk F_law_standing (PySem.W.mg_of X G a_law_standing) b_law_standing (ok_law_standing T F_law_standing g_law_good)
  have g_law_turned : Cal l.prog w K mg base "_law_turned" 1 (sp_law_turned K C) := cal_mk F_law_turned (PySem.W.mg_of X G a_law_turned) b_law_turned (ok_law_turned T F_law_turned)
  exact law_imp (C := C) (ok_law T F_law g_law_cell_at g_law_floor g_law_good g_law_standing g_Floor_init g_law_turned g_is_good)
theorem walk {l : PySem.W.OpenLaw} {q : Program} {loose : List Str} {XP : (Str → Option Value) → Heap → Prop} {YP : World → Heap → Prop} {d : DefRec} {K : Params → PySem.W.Frag} (hn : l.most = some 63) (hdf : d.params.defaults = [])
    (hY : ∀ (w : World) (h : Heap), YP w h → (K w.params).In h)
    (F : ∀ (w : World) (mg : Str → Option Value) (fa : Addr) (h : Heap), (K w.params).In h → h.Ns mainGlobals mg → mg d.name = some (.ref fa) →
      ∃ fd : FuncData, (∀ (s : Shared) (u : Value), BindsTo s fd ⟨[u], []⟩ [("script", u)]) ∧ ∀ base : Heap, (K w.params).In base → base.Ns mainGlobals mg → FnOk l.prog w (K w.params) mg base (L2.CX l.prog w) 4 fa fd ["script"] (spLaw (K w.params))) :
    PySem.W.WalkO q loose XP YP l.row.toRowW d [] (fun f vs => PySem.call f vs) :=
  L2.walk_of (n := 63) (k := 4) (x := "script") (CX := fun w => L2.CX l.prog w) (sp := fun w => spLaw (K w.params)) hn (by decide) hdf ⟨rfl, by decide, by decide⟩ hY F (fun _ _ a ns hl _ hS => ⟨a, ns, rfl, hS, hl, fun _ => rfl⟩)
    fun _ _ _ _ _ ⟨_, _, _, _, _, _, _, _, _, _, _, _, z⟩ => z
end G

open PySem PySem.W PyProof.Rows in
set_option maxRecDepth 100000 in
set_option maxHeartbeats 0 in
theorem PySem.Challenge.cw_cranefloor_k02_good_standings_holds : PySem.Challenge.rw_cranefloor_k02_good_standings.Holds := by
  w_on; o_law; k_head; (case hw => w_witness2)
  k_fill
  refine G.walk (l := PySem.Challenge.rw_cranefloor_k02_good_standings) rfl rfl (fun w h Y => PySem.W.kIn_of Y) ?F
  case F =>
    intro w mg fa h KX GN hmg
    refine' G.all_mk KX GN hmg ?a_see_bans ?l_see_bans ?c_see_bans ?k_see_bans ?a_crates_of ?l_crates_of ?c_crates_of ?k_crates_of ?a_stack_is_good ?l_stack_is_good ?c_stack_is_good ?k_stack_is_good ?a_is_good ?l_is_good ?c_is_good ?k_is_good ?a_law_cell_at ?l_law_cell_at ?c_law_cell_at ?k_law_cell_at ?a_law_floor ?l_law_floor ?c_law_floor ?k_law_floor ?a_law_good ?l_law_good ?c_law_good ?k_law_good ?a_law_standing ?l_law_standing ?c_law_standing ?k_law_standing ?a_law_turned ?l_law_turned ?c_law_turned ?k_law_turned ?a_law ?l_law ?c_law ?k_law ?a_Floor ?a_Floor_init ?i_Floor_init ?l_Floor_init ?c_Floor_init ?k_Floor_init ?pg ?hd ?po ?sa ?mk ?kc ?nM ?nH ?nS ?nB ?a_NoFloor ?x_NoFloor ?k_NoFloor ?b_NoFloor ?t_NoFloor ?z_len ?z_list ?z_tuple ?z_range ?z_sorted ?z_set ?z_min ?z_max ?z_abs ?z_isinstance ?z_int ?z_bool ?z_str ?z_all
    (case a_see_bans => k_is)
    (case l_see_bans => k_is)
    (case c_see_bans => k_is)
    (case k_see_bans => k_is)
    (case a_crates_of => k_is)
    (case l_crates_of => k_is)
    (case c_crates_of => k_is)
    (case k_crates_of => k_is)
    (case a_stack_is_good => k_is)
    (case l_stack_is_good => k_is)
    (case c_stack_is_good => k_is)
    (case k_stack_is_good => k_is)
    (case a_is_good => k_is)
    (case l_is_good => k_is)
    (case c_is_good => k_is)
    (case k_is_good => k_is)
    (case a_law_cell_at => k_is)
    (case l_law_cell_at => k_is)
    (case c_law_cell_at => k_is)
    (case k_law_cell_at => k_is)
    (case a_law_floor => k_is)
    (case l_law_floor => k_is)
    (case c_law_floor => k_is)
    (case k_law_floor => k_is)
    (case a_law_good => k_is)
    (case l_law_good => k_is)
    (case c_law_good => k_is)
    (case k_law_good => k_is)
    (case a_law_standing => k_is)
    (case l_law_standing => k_is)
    (case c_law_standing => k_is)
    (case k_law_standing => k_is)
    (case a_law_turned => k_is)
    (case l_law_turned => k_is)
    (case c_law_turned => k_is)
    (case k_law_turned => k_is)
    (case a_law => k_is)
    (case l_law => k_is)
    (case c_law => k_is)
    (case k_law => k_is)
    (case a_Floor => k_is)
    (case a_Floor_init => k_is)
    (case i_Floor_init => k_is)
    (case l_Floor_init => k_is)
    (case c_Floor_init => k_is)
    (case k_Floor_init => k_is)
    (case pg => k_is)
    (case hd => k_is)
    (case po => k_is)
    (case sa => k_is)
    (case mk => k_is)
    (case kc => k_is)
    (case nM => k_is)
    (case nH => k_is)
    (case nS => k_is)
    (case nB => k_is)
    (case a_NoFloor => k_is)
    (case x_NoFloor => k_exc)
    (case k_NoFloor => k_is)
    (case b_NoFloor => k_is)
    (case t_NoFloor => k_is)
    (case z_len => k_is)
    (case z_list => k_is)
    (case z_tuple => k_is)
    (case z_range => k_is)
    (case z_sorted => k_is)
    (case z_set => k_is)
    (case z_min => k_is)
    (case z_max => k_is)
    (case z_abs => k_is)
    (case z_isinstance => k_is)
    (case z_int => k_is)
    (case z_bool => k_is)
    (case z_str => k_is)
    (case z_all => k_is)
#print axioms PySem.Challenge.cw_cranefloor_k02_good_standings_holds
