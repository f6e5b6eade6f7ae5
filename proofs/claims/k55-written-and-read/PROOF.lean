import PyProof.Rows.All
import Wide.All
import OpenK.AllK
import Wide.FinOn
import HandS.ForMost
import HandS.TupLe
import HandS.TupAny
import HandS.Deep
import HandS.DictTup
import HandS.DictComp
import HandS.More
import HandS.Wide
import HandS.WideBits
import HandS.SetKeys
import HandS.IsInst
import HandS.SetFor
import HandS.Flow
import HandS.Walk
import KE.SortData
import KE.SortKeyHeap
import KE.DatumOrd
import KE.DatumMoreOrd
import KE.DatumIndex
import HandS.Conv
import HandS.Lambda
import HandS.Ends
import PySem.Challenge.RW_stalesafe_k55_written_and_read
set_option Elab.async false
set_option linter.all false
set_option maxRecDepth 100000
set_option maxHeartbeats 4000000
namespace N7
open PySem PySem.Spec PyProof.Rows L2
open PySem.W (Datum DatumOrd Holds HoldAll)
/-! ### data with a Lean type, over the abstract heap -/
section
variable {α : Type} [DecidableEq α] [Datum α]
/-- v holds the datum x -/
def Dm (K : PySem.W.Frag) (H : Hp) (v : V) (x : α) : Prop := Dp K H v (Datum.toD x)
def Dms (K : PySem.W.Frag) (H : Hp) (vs : List V) (xs : List α) : Prop := DpAll K H vs (xs.map Datum.toD)
section
variable {K : PySem.W.Frag} {H : Hp}
theorem Dms.nil : Dms K H [] ([] : List α) := DpAll.nil
theorem Dms.cons {v : V} {vs : List V} {x : α} {xs : List α} (h : Dm K H v x) (t : Dms K H vs xs) : Dms K H (v :: vs) (x :: xs) := DpAll.cons h t
theorem Dms.un {v : V} {vs : List V} {x : α} {xs : List α} (h : Dms K H (v :: vs) (x :: xs)) : Dm K H v x ∧ Dms K H vs xs := by
  cases h with
  | cons a b => exact ⟨a, b⟩
theorem Dms.len : ∀ {vs : List V} {xs : List α}, Dms K H vs xs → vs.length = xs.length
  | _, [], h => by cases h; rfl
  | _, x :: xs, h => by
    cases h with
    | cons a b => exact congrArg (· + 1) (Dms.len (xs := xs) b)
theorem Dms.append : ∀ {vs ws : List V} {xs ys : List α}, Dms K H vs xs → Dms K H ws ys → Dms K H (vs ++ ws) (xs ++ ys)
  | _, _, [], _, h, g => by cases h; exact g
  | _, _, x :: xs, _, h, g => by
    cases h with
    | cons a b => exact DpAll.cons a (Dms.append (xs := xs) b g)
theorem Dms.one {v : V} {x : α} (h : Dm K H v x) : Dms K H [v] [x] := DpAll.cons h DpAll.nil
theorem Dms.get : ∀ {vs : List V} {xs : List α} {i : Nat} {x : α}, Dms K H vs xs → xs[i]? = some x → ∃ v, vs[i]? = some v ∧ Dm K H v x
  | _, [], i, x, _, e => by simp at e
  | _, y :: xs, 0, x, h, e => by
    cases h with
    | cons a b => simp at e; subst e; exact ⟨_, rfl, a⟩
  | _, y :: xs, i + 1, x, h, e => by
    cases h with
    | cons a b => obtain ⟨v, e1, e2⟩ := Dms.get (xs := xs) (i := i) b (by simpa using e); exact ⟨v, by simpa using e1, e2⟩
theorem Dms.got : ∀ {vs : List V} {xs : List α} {i : Nat} {v : V}, Dms K H vs xs → vs[i]? = some v → ∃ x, xs[i]? = some x ∧ Dm K H v x
  | _, [], i, v, h, e => by cases h; simp at e
  | _, y :: xs, 0, v, h, e => by
    cases h with
    | cons a b => simp at e; subst e; exact ⟨y, rfl, a⟩
  | _, y :: xs, i + 1, v, h, e => by
    cases h with
    | cons a b => obtain ⟨x, e1, e2⟩ := Dms.got (xs := xs) (i := i) b (by simpa using e); exact ⟨x, by simpa using e1, e2⟩
theorem Dms.erase : ∀ {vs : List V} {xs : List α} (i : Nat), Dms K H vs xs → Dms K H (vs.eraseIdx i) (xs.eraseIdx i)
  | _, [], i, h => by cases h; exact DpAll.nil
  | _, y :: xs, 0, h => by
    cases h with
    | cons a b => exact b
  | _, y :: xs, i + 1, h => by
    cases h with
    | cons a b => exact DpAll.cons a (Dms.erase (xs := xs) i b)
theorem Dms.int : ∀ ns : List Int, Dms K H (ns.map V.int) ns
  | [] => DpAll.nil
  | n :: ns => DpAll.cons (Dp.int n) (Dms.int ns)
theorem Dms.str : ∀ ns : List Str, Dms K H (ns.map V.str) ns
  | [] => DpAll.nil
  | n :: ns => DpAll.cons (Dp.str n) (Dms.str ns)
theorem Dms.toStr : ∀ {vs : List V} {ns : List Str}, Dms K H vs ns → vs = ns.map V.str
  | _, [], h => by cases h; rfl
  | _, n :: ns, h => by
    cases h with
    | cons a b => cases a; rw [Dms.toStr (ns := ns) b]; rfl
theorem Dm.lst {a : Addr} {vs : List V} {xs : List α} (h : SqL K H a vs) (d : Dms K H vs xs) : Dm K H (.ref a) xs := Dp.lst h d
theorem Dm.un {v : V} {xs : List α} (h : Dm K H v xs) : ∃ a vs, v = .ref a ∧ SqL K H a vs ∧ Dms K H vs xs := by
  cases h with
  | lst hs ha => exact ⟨_, _, rfl, hs, ha⟩
theorem Dm.toStr {v : V} {x : Str} (h : Dm K H v x) : v = .str x := by cases h; rfl
theorem Dm.toInt {v : V} {x : Int} (h : Dm K H v x) : v = .int x := by cases h; rfl
theorem Dm.str (x : Str) : Dm K H (.str x) x := Dp.str x
theorem Dm.int (x : Int) : Dm K H (.int x) x := Dp.int x
theorem Dm.pair {β : Type} [DecidableEq β] [Datum β] {a : Addr} {v w : V} {x : α} {y : β} (h : SqT K H a [v, w]) (hv : Dm K H v x) (hw : Dm K H w y) : Dm K H (.ref a) (x, y) := Dp.tup h (DpAll.cons hv (DpAll.cons hw DpAll.nil))
theorem Dm.unpair {β : Type} [DecidableEq β] [Datum β] {v : V} {x : α} {y : β} (h : Dm K H v (x, y)) : ∃ a w z, v = .ref a ∧ SqT K H a [w, z] ∧ Dm K H w x ∧ Dm K H z y := by
  cases h with
  | tup hs ha =>
    cases ha with
    | cons h1 ha =>
      cases ha with
      | cons h2 ha =>
        cases ha
        exact ⟨_, _, _, rfl, hs, h1, h2⟩
end
section
variable {X : Cx} {pins : List (Addr × Obj)} {σ : L2.St} {H : Hp} {s : Shared}
theorem Dm.holds {v : V} {u : Value} {x : α} (h : Dm X.K H v x) (I : Inv X pins σ H s) (r : RelV v u) : Holds s.heap u x := Dp.reads I _ _ _ h r
theorem Dms.holds {vs : List V} {us : List Value} {xs : List α} (h : Dms X.K H vs xs) (I : Inv X pins σ H s) (r : Vals vs us) : HoldAll s.heap us xs := Dp.readsAll I _ _ _ h r
theorem low_room {u d : Nat} (hd : d ≤ 20) (hu : u + 100 < cLine) : u + d < cLine := by omega
theorem low_room1 {u d : Nat} (hd : d ≤ 20) (hu : u + 100 < cLine) : u + 1 + d < cLine := by omega
variable (α) in
/-- a two-place answer about two data of one type -/
def rM (f : α → α → Bool) (K : PySem.W.Frag) : R2 := fun x y H Q => ∃ a b : α, Dm K H x a ∧ Dm K H y b ∧ Q (.bl (f a b)) H
theorem op_eqM (hu : X.A.units + 100 < cLine) (hd : Datum.depth α ≤ 20 := by decide) : OpR X (compareOp .Eq) (rM α (fun a b => decide (a = b)) X.K) := fun pins s σ H x y v u Q I rx ry ⟨a, b, ha, hb, q⟩ =>
  PySem.W.eq_datum (ha.holds I rx) (hb.holds I ry) (low_room hd hu) ⟨.bl _, H, I, rfl, q⟩
theorem op_neM (hu : X.A.units + 100 < cLine) (hd : Datum.depth α ≤ 20 := by decide) : OpR X (compareOp .NotEq) (rM α (fun a b => decide (a ≠ b)) X.K) := fun pins s σ H x y v u Q I rx ry ⟨a, b, ha, hb, q⟩ =>
  PySem.W.ne_datum (ha.holds I rx) (hb.holds I ry) (low_room hd hu) ⟨.bl _, H, I, rfl, q⟩
variable (α) in
def rInM (f : α → List α → Bool) (K : PySem.W.Frag) : R2 := fun x y H Q => ∃ (b : Addr) (a : α) (vs : List V) (xs : List α), Dm K H x a ∧ y = .ref b ∧ SqL K H b vs ∧ Dms K H vs xs ∧ Q (.bl (f a xs)) H
variable (α) in
def rInTM (f : α → List α → Bool) (K : PySem.W.Frag) : R2 := fun x y H Q => ∃ (b : Addr) (a : α) (vs : List V) (xs : List α), Dm K H x a ∧ y = .ref b ∧ SqT K H b vs ∧ Dms K H vs xs ∧ Q (.bl (f a xs)) H
theorem op_inM (hu : X.A.units + 100 < cLine) (hd : Datum.depth α ≤ 20 := by decide) : OpR X (compareOp .In) (rInM α (fun a xs => decide (a ∈ xs)) X.K) := fun pins s σ H x y v u Q I rx ry ⟨b, a, vs, xs, ha, ey, hs, hx, q⟩ => by
  subst ey; cases ry
  obtain ⟨its, rv, pl, _⟩ := I.list hs
  exact PySem.W.in_list_datum pl.isList (hx.holds I rv) (ha.holds I rx) (low_room1 hd hu) ⟨.bl _, H, I, rfl, q⟩
theorem op_notInM (hu : X.A.units + 100 < cLine) (hd : Datum.depth α ≤ 20 := by decide) : OpR X (compareOp .NotIn) (rInM α (fun a xs => decide (a ∉ xs)) X.K) := fun pins s σ H x y v u Q I rx ry ⟨b, a, vs, xs, ha, ey, hs, hx, q⟩ => by
  subst ey; cases ry
  obtain ⟨its, rv, pl, _⟩ := I.list hs
  exact PySem.W.notIn_list_datum pl.isList (hx.holds I rv) (ha.holds I rx) (low_room1 hd hu) ⟨.bl _, H, I, rfl, q⟩
theorem op_inTM (hu : X.A.units + 100 < cLine) (hd : Datum.depth α ≤ 20 := by decide) : OpR X (compareOp .In) (rInTM α (fun a xs => decide (a ∈ xs)) X.K) := fun pins s σ H x y v u Q I rx ry ⟨b, a, vs, xs, ha, ey, hs, hx, q⟩ => by
  subst ey; cases ry
  obtain ⟨its, rv, pl, _⟩ := I.tuple hs
  exact PySem.W.in_tuple_datum pl (hx.holds I rv) (ha.holds I rx) (low_room1 hd hu) ⟨.bl _, H, I, rfl, q⟩
theorem op_notInTM (hu : X.A.units + 100 < cLine) (hd : Datum.depth α ≤ 20 := by decide) : OpR X (compareOp .NotIn) (rInTM α (fun a xs => decide (a ∉ xs)) X.K) := fun pins s σ H x y v u Q I rx ry ⟨b, a, vs, xs, ha, ey, hs, hx, q⟩ => by
  subst ey; cases ry
  obtain ⟨its, rv, pl, _⟩ := I.tuple hs
  exact PySem.W.notIn_tuple_datum pl (hx.holds I rv) (ha.holds I rx) (low_room1 hd hu) ⟨.bl _, H, I, rfl, q⟩
variable (α) in
def rCountM (K : PySem.W.Frag) : V → List V → Hp → VK → Prop := fun x ws H Q => ∃ (b : Addr) (w : V) (a : α) (vs : List V) (xs : List α), x = .ref b ∧ ws = [w] ∧ SqL K H b vs ∧ Dms K H vs xs ∧ Dm K H w a ∧ Q (.int ((xs.countP fun y => decide (y = a) : Nat) : Int)) H
theorem mt_countM (hu : X.A.units + 100 < cLine) (hd : Datum.depth α ≤ 20 := by decide) : MtR X "list.count" (rCountM α X.K) := fun pins s σ H x ws v us Q I rx rs ⟨b, w, a, vs, xs, ex, ew, hs, hx, ha, q⟩ => by
  subst ex; subst ew; cases rx
  obtain ⟨u, rfl, ru⟩ := rs.one
  obtain ⟨its, rv, pl, _⟩ := I.list hs
  exact PySem.W.count_list_datum pl.isList (hx.holds I rv) (ha.holds I ru) (low_room1 hd hu) ⟨.int _, H, I.tok _, ⟨_, rfl⟩, q⟩
variable (α) in
def rRemoveM (K : PySem.W.Frag) : V → List V → Hp → VK → Prop := fun x ws H Q => ∃ (b : Addr) (w : V) (a : α) (vs : List V) (xs : List α) (j : Nat), x = .ref b ∧ ws = [w] ∧ H b = some (.lst vs) ∧ Dms K H vs xs ∧ Dm K H w a ∧ xs[j]? = some a ∧ (∀ m, m < j → xs[m]? ≠ some a) ∧
  Q .non (upd H b (.lst (vs.eraseIdx j)))
theorem mt_removeM (hu : X.A.units + 100 < cLine) (hd : Datum.depth α ≤ 20 := by decide) : MtM X "list.remove" (rRemoveM α X.K) := fun pins s σ H x ws v us Q I rx rs ⟨b, w, a, vs, xs, j, ex, ew, hs, hx, ha, hj, hno, q⟩ => by
  subst ex; subst ew; cases rx
  obtain ⟨u, rfl, ru⟩ := rs.one
  obtain ⟨z, its, n, rv, hl, e⟩ := I.lstM hs
  have hjl : j < its.length := by
    have h1 := (List.getElem?_eq_some_iff.mp hj).1
    have h2 := hx.len
    omega
  have hze : (vs.eraseIdx j).length ≤ sizeLine := Nat.le_trans (List.length_eraseIdx_le _ _) z
  refine PySem.W.remove_list_datum (j := j) (xs := xs) (x := a) ⟨_, e, rfl, n, rfl⟩ (by simpa using hx.holds I rv) (ha.holds I ru) (low_room1 hd hu) hj hno (by simp; omega) ?_
  refine ⟨.non, _, I.lset (its' := its.eraseIdx j) (t' := s.toks) hs e ?_ (rv.eraseIdx j) hze, rfl, q⟩
  show its.toArray.eraseIdxIfInBounds j = (its.eraseIdx j).toArray
  rw [List.eraseIdxIfInBounds_toArray]
end
end
end N7
namespace N7
open PySem PySem.Spec PyProof.Rows L2
open PySem.W (Datum DatumOrd Holds HoldAll EachIs AllAlike Sortable dataLe dataLt)
/-! ### <, >, <=, >=, max, min, sorted of data with a Lean type -/
/-- Python's < is a strict total order on these -/
class LinM (α : Type) [DecidableEq α] extends DatumOrd α where
  irr : ∀ a : α, DatumOrd.lt a a = false
  tra : ∀ a b c : α, DatumOrd.lt a b = true → DatumOrd.lt b c = true → DatumOrd.lt a c = true
  tri : ∀ a b : α, DatumOrd.lt a b = false → DatumOrd.lt b a = false → a = b
  sor : ∀ xs : List α, Sortable (xs.map Datum.toD)
instance : LinM Int where
  irr a := by show decide (a < a) = false; simp
  tra a b c h g := by
    have h' : a < b := of_decide_eq_true h
    have g' : b < c := of_decide_eq_true g
    exact decide_eq_true (by omega)
  tri a b h g := by
    have h' : ¬ a < b := of_decide_eq_false h
    have g' : ¬ b < a := of_decide_eq_false g
    omega
  sor xs := Sortable.others fun _ => ⟨(fun e => nomatch e), (fun _ e => nomatch e)⟩
theorem str_ext {x y : Str} (h : x.cps.toList = y.cps.toList) : x = y := by
  have q : x.cps = y.cps := Array.toList_inj.mp h
  cases x; cases y
  exact congrArg _ q
instance : LinM Str where
  irr a := decide_eq_false (List.lt_irrefl _)
  tra a b c h g := decide_eq_true (List.lt_trans (of_decide_eq_true h) (of_decide_eq_true g))
  tri a b h g := str_ext (List.le_antisymm (List.not_lt.mp (of_decide_eq_false g)) (List.not_lt.mp (of_decide_eq_false h)))
  sor xs := Sortable.others fun _ => ⟨(fun e => nomatch e), (fun _ e => nomatch e)⟩
section
variable {α β : Type} [DecidableEq α] [DecidableEq β]
theorem lt_pair [DatumOrd α] [DatumOrd β] (p q : α × β) : DatumOrd.lt p q = if p.1 = q.1 then DatumOrd.lt p.2 q.2 else DatumOrd.lt p.1 q.1 := rfl
instance [LinM α] [LinM β] : LinM (α × β) where
  irr a := by rw [lt_pair, if_pos rfl]; exact LinM.irr _
  tra a b c h g := by
    rw [lt_pair] at h g ⊢
    by_cases e1 : a.1 = b.1
    · by_cases e2 : b.1 = c.1
      · rw [if_pos e1] at h; rw [if_pos e2] at g; rw [if_pos (e1.trans e2)]
        exact LinM.tra _ _ _ h g
      · rw [if_neg e2] at g; rw [if_neg (by rw [e1]; exact e2), e1]
        exact g
    · by_cases e2 : b.1 = c.1
      · rw [if_neg e1] at h; rw [if_neg (by rw [← e2]; exact e1), ← e2]
        exact h
      · rw [if_neg e1] at h; rw [if_neg e2] at g
        have k := LinM.tra _ _ _ h g
        rw [if_neg (fun e => by rw [e, LinM.irr] at k; cases k)]
        exact k
  tri a b h g := by
    rw [lt_pair] at h g
    by_cases e : a.1 = b.1
    · rw [if_pos e] at h; rw [if_pos e.symm] at g
      exact Prod.ext e (LinM.tri _ _ h g)
    · rw [if_neg e] at h; rw [if_neg (fun z => e z.symm)] at g
      exact absurd (LinM.tri _ _ h g) e
  sor xs := Sortable.tuples fun p => ⟨_, _, rfl⟩
end
section
variable {α : Type} [DecidableEq α] [LinM α]
def leM (a b : α) : Bool := !DatumOrd.lt b a
theorem ltM_asymm {a b : α} (h : DatumOrd.lt a b = true) : DatumOrd.lt b a = false := by
  cases q : DatumOrd.lt b a with
  | false => rfl
  | true => have := LinM.tra _ _ _ h q; rw [LinM.irr] at this; cases this
theorem leM_total (a b : α) : (leM a b || leM b a) = true := by
  unfold leM
  cases q : DatumOrd.lt b a with
  | false => rfl
  | true => rw [ltM_asymm q]; rfl
theorem leM_anti {a b : α} (h : leM a b = true) (g : leM b a = true) : a = b := by
  unfold leM at h g
  exact LinM.tri a b (by simpa using g) (by simpa using h)
theorem leM_trans (a b c : α) (h : leM a b = true) (g : leM b c = true) : leM a c = true := by
  unfold leM at *
  have h' : DatumOrd.lt b a = false := by simpa using h
  have g' : DatumOrd.lt c b = false := by simpa using g
  cases q : DatumOrd.lt c a with
  | false => rfl
  | true =>
    cases e : DatumOrd.lt a b with
    | true => have := LinM.tra _ _ _ q e; rw [g'] at this; cases this
    | false =>
      have := LinM.tri a b e h'
      subst this
      rw [q] at g'; cases g'
def sortM (xs : List α) : List α := xs.mergeSort leM
theorem sortM_perm (xs : List α) : (sortM xs).Perm xs := List.mergeSort_perm _ _
theorem sortM_pair (xs : List α) : (sortM xs).Pairwise fun a b => leM a b = true := List.pairwise_mergeSort leM_trans leM_total xs
theorem sortM_uniq {xs ys : List α} (p : ys.Perm xs) (s : ys.Pairwise fun a b => leM a b = true) : ys = sortM xs :=
  List.Perm.eq_of_pairwise (fun _ _ _ _ h g => leM_anti h g) s (sortM_pair xs) (p.trans (sortM_perm xs).symm)
theorem sortM_len (xs : List α) : (sortM xs).length = xs.length := (sortM_perm xs).length_eq
theorem sortM_mem {xs : List α} {a : α} : a ∈ sortM xs ↔ a ∈ xs := (sortM_perm xs).mem_iff
theorem sortM_le : dataLe false (Datum.toD (α := α)) = leM := by
  rw [PySem.W.dataLe_eq]
  funext a b
  show (!dataLt (Datum.toD b) (Datum.toD a)) = leM a b
  rw [DatumOrd.lt_eq]; rfl
end
theorem sortM_S {xs ys : List Str} (p : ys.Perm xs) (s : sortedS ys = true) : ys = sortM xs := by
  refine sortM_uniq p ?_
  have key : ∀ (r : List Str) (x : Str), risingS x r = true → (x :: r).Pairwise fun a b => leM a b = true := by
    intro r
    induction r with
    | nil => intro x _; simp
    | cons y r ih =>
      intro x h
      have h1 : (!decide (y.cps.toList < x.cps.toList)) = true ∧ risingS y r = true := by
        unfold risingS at h
        rw [PyProof.Rows.ltCps_eq, Bool.and_eq_true] at h
        exact h
      have h2 := ih y h1.2
      have h3 : leM x y = true := h1.1
      refine List.pairwise_cons.mpr ⟨fun z hz => ?_, h2⟩
      rcases List.mem_cons.mp hz with rfl | hz
      · exact h3
      · exact leM_trans _ _ _ h3 ((List.pairwise_cons.mp h2).1 z hz)
  cases ys with
  | nil => simp
  | cons x r => exact key r x s
section
variable {X : Cx} {α : Type} [DecidableEq α] [LinM α]
theorem op_ltM (hu : X.A.units + 100 < cLine) (hd : Datum.depth α ≤ 20 := by decide) : OpR X (compareOp .Lt) (rM α (fun a b => DatumOrd.lt a b) X.K) := fun pins s σ H x y v u Q I rx ry ⟨a, b, ha, hb, q⟩ =>
  PySem.W.lt_datum (ha.holds I rx) (hb.holds I ry) (low_room hd hu) ⟨.bl _, H, I, rfl, q⟩
theorem op_gtM (hu : X.A.units + 100 < cLine) (hd : Datum.depth α ≤ 20 := by decide) : OpR X (compareOp .Gt) (rM α (fun a b => DatumOrd.lt b a) X.K) := fun pins s σ H x y v u Q I rx ry ⟨a, b, ha, hb, q⟩ =>
  PySem.W.gt_datum (ha.holds I rx) (hb.holds I ry) (low_room hd hu) ⟨.bl _, H, I, rfl, q⟩
theorem op_leM (hu : X.A.units + 100 < cLine) (hd : Datum.depth α ≤ 20 := by decide) : OpR X (compareOp .LtE) (rM α (fun a b => !DatumOrd.lt b a) X.K) := fun pins s σ H x y v u Q I rx ry ⟨a, b, ha, hb, q⟩ =>
  PySem.W.le_datum (ha.holds I rx) (hb.holds I ry) (low_room hd hu) ⟨.bl _, H, I, rfl, q⟩
/-- max, min of a list of x :: xs: one of its items -/
def maxM (xs : List α) (d : α) : α := match xs with
  | [] => d
  | x :: r => PySem.W.maxOf x r
def rMaxM (f : α → List α → α) (K : PySem.W.Frag) : List V → Hp → VK → Prop := fun ws H Q => ∃ (R : V → α → Prop) (b : Addr) (vs : List V) (x : α) (xs : List α), ws = [.ref b] ∧ SqL K H b vs ∧ Paired R vs (x :: xs) ∧ (∀ v y, R v y → Dm K H v y) ∧
  ∀ v, R v (f x xs) → Q v H
theorem pa_got {γ δ : Type} {R : γ → δ → Prop} {as : List γ} {bs : List δ} {i : Nat} {a : γ} (h : Paired R as bs) (e : as[i]? = some a) : ∃ b, bs[i]? = some b ∧ R a b := by
  induction h generalizing i with
  | nil => simp at e
  | cons r _ ih =>
    cases i with
    | zero => simp at e; subst e; exact ⟨_, rfl, r⟩
    | succ i => obtain ⟨a, e1, e2⟩ := ih (by simpa using e); exact ⟨a, by simpa using e1, e2⟩
theorem dms_of {K : PySem.W.Frag} {H : Hp} {R : V → α → Prop} {vs : List V} {xs : List α} (h : Paired R vs xs) (m : ∀ v y, R v y → Dm K H v y) : Dms K H vs xs := by
  induction h with
  | nil => exact DpAll.nil
  | cons r _ ih => exact DpAll.cons (m _ _ r) ih
theorem dm_back {K : PySem.W.Frag} {pins : List (Addr × Obj)} {σ : L2.St} {H : Hp} {s : Shared} {v : V} {u : Value} {x y : α} (I : Inv X pins σ H s) (h : Dm X.K H v x) (r : RelV v u) (g : Holds s.heap u y) : x = y := by
  obtain ⟨as, h1⟩ := h.holds I r
  obtain ⟨bs, h2⟩ := g
  have e := PySem.W.alike_unique _ _ _ _ _ (DatumOrd.alike x y) h1 h2
  have k := Datum.eqv x y
  rw [e, PySem.W.eqv_refl_alike _ (DatumOrd.alike y y)] at k
  exact of_decide_eq_true k.symm
theorem cr_maxM (hc : X.calm = true) (hu : X.A.units + 100 < cLine) (hd : Datum.depth α ≤ 20 := by decide) : CallR X (.builtin "max") (rMaxM (α := α) PySem.W.maxOf X.K) := fun pins s σ H ws us Q I r ⟨R, b, vs, x, xs, ew, hs, hr, hm, q⟩ => by
  subst ew
  have hx : Dms X.K H vs (x :: xs) := dms_of hr hm
  obtain ⟨its, rv, pl, _⟩ := I.list hs
  rw [Vals.ref1 r]
  refine PySem.W.max_list_datum (x := x) (xs := xs) (I.ok.hd hc) pl.isList (hx.holds I rv) (low_room1 hd hu) fun i u h' tk hi hh hk => ?_
  have hi' : its[i]? = some u := by simpa using hi
  have hlt : i < vs.length := by rw [rv.length]; exact (List.getElem?_eq_some_iff.mp hi').1
  obtain ⟨u', e1, e2⟩ := rv.get (List.getElem?_eq_getElem hlt)
  rw [hi'] at e1; cases e1
  obtain ⟨y, ey, hy⟩ := pa_got hr (List.getElem?_eq_getElem hlt)
  have I' := I.kept (t' := tk) hk
  have := dm_back (K := X.K) I' (hm _ _ hy) e2 hh
  subst this
  exact ⟨_, H, I', e2, q _ hy⟩
theorem cr_minM (hc : X.calm = true) (hu : X.A.units + 100 < cLine) (hd : Datum.depth α ≤ 20 := by decide) : CallR X (.builtin "min") (rMaxM (α := α) PySem.W.minOf X.K) := fun pins s σ H ws us Q I r ⟨R, b, vs, x, xs, ew, hs, hr, hm, q⟩ => by
  subst ew
  have hx : Dms X.K H vs (x :: xs) := dms_of hr hm
  obtain ⟨its, rv, pl, _⟩ := I.list hs
  rw [Vals.ref1 r]
  refine PySem.W.min_list_datum (x := x) (xs := xs) (I.ok.hd hc) pl.isList (hx.holds I rv) (low_room1 hd hu) fun i u h' tk hi hh hk => ?_
  have hi' : its[i]? = some u := by simpa using hi
  have hlt : i < vs.length := by rw [rv.length]; exact (List.getElem?_eq_some_iff.mp hi').1
  obtain ⟨u', e1, e2⟩ := rv.get (List.getElem?_eq_getElem hlt)
  rw [hi'] at e1; cases e1
  obtain ⟨y, ey, hy⟩ := pa_got hr (List.getElem?_eq_getElem hlt)
  have I' := I.kept (t' := tk) hk
  have := dm_back (K := X.K) I' (hm _ _ hy) e2 hh
  subst this
  exact ⟨_, H, I', e2, q _ hy⟩
theorem each_of {R : V → α → Prop} {vs : List V} {us : List Value} (r : Vals vs us) {xs : List α} (h : Paired R vs xs) : EachIs (fun (u : Value) (x : α) => ∃ w, RelV w u ∧ R w x) us xs := by
  induction r generalizing xs with
  | nil => cases h; exact .nil
  | cons r1 _ ih => cases h with
    | cons a b => exact .cons ⟨_, r1, a⟩ (ih b)
theorem each_to {R : V → α → Prop} {us : List Value} {xs : List α} (h : EachIs (fun (u : Value) (x : α) => ∃ w, RelV w u ∧ R w x) us xs) : ∃ vs, Vals vs us ∧ Paired R vs xs := by
  induction h with
  | nil => exact ⟨[], .nil, .nil⟩
  | cons h _ ih =>
    obtain ⟨w, rw, dw⟩ := h
    obtain ⟨vs, rs, ds⟩ := ih
    exact ⟨w :: vs, .cons rw rs, .cons dw ds⟩
def rSortedM (K : PySem.W.Frag) : List V → Hp → VK → Prop := fun ws H Q => ∃ (R : V → α → Prop) (b : Addr) (vs : List V) (xs : List α), ws = [.ref b] ∧ SqL K H b vs ∧ Paired R vs xs ∧ (∀ v y, R v y → Dm K H v y) ∧
  ∀ p vs', H p = none → Paired R vs' (sortM xs) → Q (.ref p) (upd H p (.lst vs'))
theorem cr_sortedM (hu : X.A.units + 100 < cLine) (hd : Datum.depth α ≤ 20 := by decide) : CallR X (.builtin "sorted") (rSortedM (α := α) X.K) := fun pins s σ H ws us Q I r ⟨R, b, vs, xs, ew, hs, hr, hm, q⟩ => by
  subst ew
  obtain ⟨its, rv, pl, hz⟩ := I.list hs
  rw [Vals.ref1 r]
  have el := Paired.length hr
  have eb := each_of rv hr
  refine PySem.W.sorted_data (enc := Datum.toD) (bs := xs) pl.isList eb (eb.mono fun u x ⟨w, rw, dw⟩ => (hm _ _ dw).holds I rw) (AllAlike.of fun a b => DatumOrd.alike a b) (LinM.sor xs) (by omega)
    (fun x _ => by have := Datum.depth_le x; omega) fun out hol heo => ?_
  rw [sortM_le] at heo
  obtain ⟨vs', rs', ds'⟩ := each_to heo
  obtain ⟨ep, he'⟩ := PyProof.Rows.sortedAll_at s.heap its (List.toArray out)
  have hlen : vs'.length ≤ sizeLine := by rw [rs'.length, hol]; omega
  exact ⟨.ref _, upd H (s.heap.objs.size + 1) (.lst vs'), I.laid (t' := s.toks) (fun _ _ => PyProof.Rows.sortedAll_old) (Nat.le_succ _) ⟨hlen, out, ep, rs', he'⟩, rfl, q _ _ (I.hok.fresh (Nat.le_succ _)) ds'⟩
end
end N7
namespace N7
open PySem PySem.Spec PyProof.Rows L2
open PySem.W (Datum DatumOrd Holds HoldAll)
/-! ### data without lists: kept while tuples are kept -/
mutual
def flatD : PyData → Bool
  | .list _ => false
  | .dict _ => false
  | .tuple xs => flatDs xs
  | _ => true
def flatDs : List PyData → Bool
  | [] => true
  | x :: xs => flatD x && flatDs xs
end
def isTup : HO → Prop
  | .tup _ => True
  | .frz _ (.tup _) => True
  | _ => False
/-- all tuples are kept -/
def Tups (H H' : Hp) : Prop := ∀ a o, isTup o → H a = some o → H' a = some o
theorem Tups.refl (H : Hp) : Tups H H := fun _ _ _ h => h
theorem Tups.trans {H H1 H2 : Hp} (a : Tups H H1) (b : Tups H1 H2) : Tups H H2 := fun c o t h => b c o t (a c o t h)
theorem Tups.rd {H H' : Hp} (t : Tups H H') {a : Addr} {xs : List V} (h : Rd H a (.tup xs)) : Rd H' a (.tup xs) :=
  h.imp (t a _ trivial) fun ⟨o, e⟩ => ⟨o, t a _ trivial e⟩
def noTup : Option HO → Prop
  | some o => ¬ isTup o
  | none => True
theorem Tups.upd {H : Hp} {a : Addr} {o : HO} (h : noTup (H a)) : Tups H (upd H a o) := fun c o' t r => by
  have ne : c ≠ a := fun e => by
    rw [e] at r
    rw [r] at h
    exact h t
  exact (upd_ne ne).trans r
section
variable {K : PySem.W.Frag} {H H' : Hp}
theorem Tups.sqT (t : Tups H H') {a : Addr} {xs : List V} (h : SqT K H a xs) : SqT K H' a xs := h.imp t.rd id
mutual
theorem Dp.tups (t : Tups H H') : ∀ (d : PyData) (v : V), flatD d = true → Dp K H v d → Dp K H' v d
  | .none, _, _, h => by cases h; exact .non
  | .bool b, _, _, h => by cases h; exact .bl b
  | .int i, _, _, h => by cases h; exact .int i
  | .str x, _, _, h => by cases h; exact .str x
  | .list ds, _, f, h => by simp [flatD] at f
  | .tuple ds, _, f, h => by
    simp only [flatD] at f
    cases h with
    | tup hs ha => exact .tup (t.sqT hs) (Dp.tupsAll t ds _ f ha)
  | .dict _, _, _, h => by cases h
theorem Dp.tupsAll (t : Tups H H') : ∀ (ds : List PyData) (vs : List V), flatDs ds = true → DpAll K H vs ds → DpAll K H' vs ds
  | [], _, _, h => by cases h; exact .nil
  | d :: ds, _, f, h => by
    simp only [flatDs, Bool.and_eq_true] at f
    cases h with
    | cons a b => exact .cons (Dp.tups t d _ f.1 a) (Dp.tupsAll t ds _ f.2 b)
end
end
mutual
/-- data whose tuples are all tracked -/
inductive Dq (H : Hp) : V → PyData → Prop
  | non : Dq H .non .none
  | bl (b : Bool) : Dq H (.bl b) (.bool b)
  | int (i : Int) : Dq H (.int i) (.int i)
  | str (x : Str) : Dq H (.str x) (.str x)
  | tup {a : Addr} {xs : List V} {ds : List PyData} : H a = some (.tup xs) → DqAll H xs ds → Dq H (.ref a) (.tuple ds)
inductive DqAll (H : Hp) : List V → List PyData → Prop
  | nil : DqAll H [] []
  | cons {v : V} {vs : List V} {d : PyData} {ds : List PyData} : Dq H v d → DqAll H vs ds → DqAll H (v :: vs) (d :: ds)
end
section
variable {K : PySem.W.Frag} {H H' : Hp}
mutual
theorem Dq.dp : ∀ (d : PyData) (v : V), Dq H v d → Dp K H v d
  | .none, _, h => by cases h; exact .non
  | .bool b, _, h => by cases h; exact .bl b
  | .int i, _, h => by cases h; exact .int i
  | .str x, _, h => by cases h; exact .str x
  | .list _, _, h => by cases h
  | .dict _, _, h => by cases h
  | .tuple ds, _, h => by
    cases h with
    | tup e r => exact .tup (SqT.of e) (DqAll.dp ds _ r)
theorem DqAll.dp : ∀ (ds : List PyData) (vs : List V), DqAll H vs ds → DpAll K H vs ds
  | [], _, h => by cases h; exact .nil
  | d :: ds, _, h => by
    cases h with
    | cons a b => exact .cons (Dq.dp d _ a) (DqAll.dp ds _ b)
end
mutual
theorem Dq.tups (t : Tups H H') : ∀ (d : PyData) (v : V), Dq H v d → Dq H' v d
  | .none, _, h => by cases h; exact .non
  | .bool b, _, h => by cases h; exact .bl b
  | .int i, _, h => by cases h; exact .int i
  | .str x, _, h => by cases h; exact .str x
  | .list _, _, h => by cases h
  | .dict _, _, h => by cases h
  | .tuple ds, _, h => by
    cases h with
    | tup e r => exact .tup (t _ _ trivial e) (DqAll.tups t ds _ r)
theorem DqAll.tups (t : Tups H H') : ∀ (ds : List PyData) (vs : List V), DqAll H vs ds → DqAll H' vs ds
  | [], _, h => by cases h; exact .nil
  | d :: ds, _, h => by
    cases h with
    | cons a b => exact .cons (Dq.tups t d _ a) (DqAll.tups t ds _ b)
end
end
/-- v holds the datum x, its tuples tracked -/
def Dt {α : Type} [DecidableEq α] [Datum α] (H : Hp) (v : V) (x : α) : Prop := Dq H v (Datum.toD x)
theorem Dt.dm {α : Type} [DecidableEq α] [Datum α] {K : PySem.W.Frag} {H : Hp} {v : V} {x : α} (h : Dt H v x) : Dm K H v x := Dq.dp _ _ h
theorem Dt.tups {α : Type} [DecidableEq α] [Datum α] {H H' : Hp} {v : V} {x : α} (h : Dt H v x) (t : Tups H H') : Dt H' v x := Dq.tups t _ _ h
/-! ### lists related item by item -/
section
variable {α β : Type} {R R' : α → β → Prop}
theorem Paired.app {as as' : List α} {bs bs' : List β} (h : Paired R as bs) (g : Paired R as' bs') : Paired R (as ++ as') (bs ++ bs') := by
  induction h with
  | nil => exact g
  | cons r _ ih => exact .cons r ih
theorem Paired.one {a : α} {b : β} (r : R a b) : Paired R [a] [b] := .cons r .nil
theorem Paired.get {as : List α} {bs : List β} {i : Nat} {b : β} (h : Paired R as bs) (e : bs[i]? = some b) : ∃ a, as[i]? = some a ∧ R a b := by
  induction h generalizing i with
  | nil => simp at e
  | cons r _ ih =>
    cases i with
    | zero => simp at e; subst e; exact ⟨_, rfl, r⟩
    | succ i => obtain ⟨a, e1, e2⟩ := ih (by simpa using e); exact ⟨a, by simpa using e1, e2⟩
theorem Paired.got {as : List α} {bs : List β} {i : Nat} {a : α} (h : Paired R as bs) (e : as[i]? = some a) : ∃ b, bs[i]? = some b ∧ R a b := by
  induction h generalizing i with
  | nil => simp at e
  | cons r _ ih =>
    cases i with
    | zero => simp at e; subst e; exact ⟨_, rfl, r⟩
    | succ i => obtain ⟨a, e1, e2⟩ := ih (by simpa using e); exact ⟨a, by simpa using e1, e2⟩
end
section
variable {α : Type} [DecidableEq α] [Datum α] {K : PySem.W.Frag} {H : Hp}
theorem Dms.paired : ∀ {vs : List V} {xs : List α}, Dms K H vs xs → Paired (Dm K H) vs xs
  | _, [], h => by cases h; exact .nil
  | _, x :: xs, h => by
    cases h with
    | cons a b => exact .cons a (Dms.paired (xs := xs) b)
theorem Dms.ofP {vs : List V} {xs : List α} (h : Paired (Dm K H) vs xs) : Dms K H vs xs := by
  induction h with
  | nil => exact DpAll.nil
  | cons r _ ih => exact DpAll.cons r ih
theorem Dms.ofT {vs : List V} {xs : List α} (h : Paired (Dt H) vs xs) : Dms K H vs xs := Dms.ofP (Paired.mapP h fun _ _ r => r.dm)
theorem Dts.tups {vs : List V} {xs : List α} {H' : Hp} (h : Paired (Dt H) vs xs) (t : Tups H H') : Paired (Dt H') vs xs := Paired.mapP h fun _ _ r => r.tups t
end
class FlatM (α : Type) [DecidableEq α] [Datum α] : Prop where
  flat : ∀ a : α, flatD (Datum.toD a) = true
instance : FlatM Int := ⟨fun _ => by show flatD (.int _) = true; simp only [flatD]⟩
instance : FlatM Str := ⟨fun _ => by show flatD (.str _) = true; simp only [flatD]⟩
instance {α β : Type} [DecidableEq α] [Datum α] [FlatM α] [DecidableEq β] [Datum β] [FlatM β] : FlatM (α × β) := ⟨fun p => by
  show flatD (.tuple [_, _]) = true
  simp only [flatD, flatDs, FlatM.flat, Bool.and_self]⟩
section
variable {K : PySem.W.Frag} {H H' : Hp} {α : Type} [DecidableEq α] [Datum α] [FlatM α]
theorem Dm.tups {v : V} {x : α} (h : Dm K H v x) (t : Tups H H') : Dm K H' v x := Dp.tups t _ _ (FlatM.flat x) h
theorem flatDs_map : ∀ xs : List α, flatDs (xs.map Datum.toD) = true
  | [] => by simp [flatDs]
  | x :: xs => by rw [List.map_cons]; simp only [flatDs, FlatM.flat, flatDs_map xs, Bool.and_self]
theorem Dms.tups {vs : List V} {xs : List α} (h : Dms K H vs xs) (t : Tups H H') : Dms K H' vs xs := Dp.tupsAll t _ _ (flatDs_map xs) h
end
/-! ### what a call changes: A what was its own ahead, A' behind -/
structure Ch (A : Addr → Prop) (H : Hp) (A' : Addr → Prop) (H' : Hp) : Prop where
  keep : ∀ b o, H b = some o → ¬ A b → H' b = some o
  tup : Tups H H'
  own : ∀ b, A' b → A b ∨ H b = none
  dom : ∀ b, H' b = none → H b = none
theorem Ch.refl (A : Addr → Prop) (H : Hp) : Ch A H A H := ⟨fun _ _ h _ => h, Tups.refl _, fun _ h => .inl h, fun _ h => h⟩
theorem Ch.trans {A A' A'' : Addr → Prop} {H H' H'' : Hp} (c : Ch A H A' H') (d : Ch A' H' A'' H'') : Ch A H A'' H'' where
  keep b o h n := d.keep b o (c.keep b o h n) fun k => (c.own b k).elim n fun z => by rw [h] at z; cases z
  tup := c.tup.trans d.tup
  own b h := by
    rcases d.own b h with k | k
    · exact c.own b k
    · by_cases n : A b
      · exact .inl n
      · cases e : H b with
        | none => exact .inr rfl
        | some o => have := c.keep b o e n; rw [k] at this; cases this
  dom b h := c.dom b (d.dom b h)
theorem Ch.out {A A' : Addr → Prop} {H H' : Hp} (c : Ch A H A' H') {b : Addr} {o : HO} (h : H b = some o) (n : ¬ A b) : ¬ A' b := fun k => (c.own b k).elim n fun z => by rw [h] at z; cases z
theorem Ch.weak {A B A' : Addr → Prop} {H H' : Hp} (c : Ch A H A' H') (s : ∀ b, A b → B b) : Ch B H A' H' := ⟨fun b o h n => c.keep b o h fun k => n (s b k), c.tup, fun b h => (c.own b h).imp (s b) id, c.dom⟩
theorem dom_upd {H : Hp} {p : Addr} {o : HO} (b : Addr) (h : upd H p o b = none) : H b = none := by
  by_cases z : b = p
  · rw [z, upd_same] at h; cases h
  · rw [upd_ne z] at h; exact h
/-- nothing of its own changes: new things alone -/
abbrev New (H H' : Hp) : Prop := Ch (fun _ => False) H (fun _ => False) H'
theorem New.fresh {H : Hp} {p : Addr} {o : HO} (h : H p = none) : New H (upd H p o) :=
  ⟨fun b o' e _ => by rw [upd_ne (ne_of_none e h)]; exact e, Tups.upd (by rw [h]; trivial), fun _ f => f.elim, dom_upd⟩
theorem New.to {A : Addr → Prop} {H H' : Hp} (c : New H H') : Ch A H A H' := ⟨fun b o h _ => c.keep b o h id, c.tup, fun _ h => .inl h, c.dom⟩
theorem Ch.upd {A : Addr → Prop} {H : Hp} {p : Addr} {o : HO} (h : A p) (n : noTup (H p)) : Ch A H A (upd H p o) :=
  ⟨fun b o' e k => by
    have ne : b ≠ p := fun z => k (by rw [z]; exact h)
    rw [upd_ne ne]; exact e, Tups.upd n, fun _ h => .inl h, dom_upd⟩
theorem frz_new {H H' : Hp} {d : Addr} {od : Obj} {u : HO} (e : H d = some u) (nt : noTup (some u)) (c : New (upd H d (.frz od u)) H') : New H (upd H' d u) := by
  refine ⟨fun b o q _ => ?_, fun a o t r => ?_, fun _ f => f.elim, fun b h => dom_upd b (c.dom b (dom_upd b h))⟩
  · by_cases z : b = d
    · rw [z, upd_same]; rw [z, e] at q; exact q
    · rw [upd_ne z]
      exact c.keep b o (by rw [upd_ne z]; exact q) id
  · have z : a ≠ d := fun z => by
      rw [z, e] at r
      cases r
      exact nt t
    rw [upd_ne z]
    exact c.tup a o t ((upd_ne z).trans r)
theorem New.same {H H' : Hp} (c : New H H') : Same H H' := fun b o e => c.keep b o e id
end N7
namespace N7
open PySem PySem.Spec PyProof.Rows L2
open PySem.W (Datum DatumOrd Holds HoldAll minOf maxOf)
/-! ### the mirror: stamps, letters, turns, a hand -/
abbrev Stp := Int × Str
inductive Letter where
  | stamp (s : Stp) | ask | floor
  deriving DecidableEq
inductive Turn where
  | born (s : Stp) | took (s : Stp) (n : Str) | gave (s : Stp) (n : Str) | sent (n : Str) | got (n : Str) | speaks | done
  deriving DecidableEq
inductive What where
  | want | forgo | done | join (n : Str) | part (n : Str) | hear (n : Str) (l : Letter)
  deriving DecidableEq
theorem eqv_str (x y : Str) : PyData.eqv (.str x) (.str y) = decide (x = y) := Datum.eqv x y
theorem eqv_int (x y : Int) : PyData.eqv (.int x) (.int y) = decide (x = y) := Datum.eqv x y
theorem eqv_stp (x y : Stp) : PyData.eqv (Datum.toD x) (Datum.toD y) = decide (x = y) := Datum.eqv x y
def Letter.toD : Letter → PyData
  | .stamp s => .tuple [.str "stamp", .int s.1, .str s.2]
  | .ask => .tuple [.str "ask"]
  | .floor => .tuple [.str "floor"]
def Turn.toD : Turn → PyData
  | .born s => .tuple [.str "born", Datum.toD s]
  | .took s n => .tuple [.str "took", Datum.toD s, .str n]
  | .gave s n => .tuple [.str "gave", Datum.toD s, .str n]
  | .sent n => .tuple [.str "sent", .str n]
  | .got n => .tuple [.str "got", .str n]
  | .speaks => .tuple [.str "speaks"]
  | .done => .tuple [.str "done"]
def What.toD : What → PyData
  | .want => .tuple [.str "want"]
  | .forgo => .tuple [.str "forgo"]
  | .done => .tuple [.str "done"]
  | .join n => .tuple [.str "join", .str n]
  | .part n => .tuple [.str "part", .str n]
  | .hear n l => .tuple [.str "hear", .str n, l.toD]
theorem plain_stp (s : Stp) : PyData.plain (Datum.toD s) = true := Datum.plain s
theorem pair_dec (a b : Stp) : (decide (a.1 = b.1) && decide (a.2 = b.2)) = decide (a = b) := by
  rw [← Bool.decide_and]
  exact decide_eq_decide.mpr ⟨fun e => Prod.ext e.1 e.2, fun e => by rw [e]; exact ⟨rfl, rfl⟩⟩
instance : Datum Letter where
  toD := Letter.toD
  plain a := by cases a <;> simp only [Letter.toD, PyData.plain, PyData.plainAll, Bool.and_self]
  eqv a b := by
    cases a <;> cases b <;> simp only [Letter.toD, PyData.eqv, PyData.eqvAll]
    case stamp.stamp s t =>
      have e := pair_dec s t
      rw [← eqv_int, ← eqv_str] at e
      simp only [PyData.eqv] at e
      rw [beq_self_eq_true, Bool.true_and, Bool.and_true, e]
      exact decide_eq_decide.mpr ⟨fun e => by rw [e], fun e => Letter.stamp.inj e⟩
    all_goals first | rfl | decide +kernel | (simp; done) | (rw [decide_eq_false (by intro h; cases h)]; decide +kernel) | (rw [decide_eq_false (by intro h; cases h)]; simp; done)
  depth := 1
  depth_le a := by cases a <;> simp [Letter.toD, PyData.depth, PyData.depthAll]
theorem tagNe {a b : Str} {r : Bool} (h : (a == b) = false) : (a == b && r) = false := by rw [h]; rfl
theorem tagEq {a : Str} {r : Bool} : (a == a && r) = r := by rw [beq_self_eq_true]; rfl
theorem beq_dec {α : Type} [DecidableEq α] [BEq α] [LawfulBEq α] (a b : α) : (a == b) = decide (a = b) := PySem.W.beq_decide a b
theorem stp_eqv (a b : Stp) : PyData.eqv (Datum.toD a) (Datum.toD b) = decide (a = b) := Datum.eqv a b
instance : Datum Turn where
  toD := Turn.toD
  plain a := by cases a <;> simp only [Turn.toD, PyData.plain, PyData.plainAll, plain_stp, Bool.and_self]
  eqv a b := by
    cases a <;> cases b <;> simp only [Turn.toD, PyData.eqv, PyData.eqvAll, stp_eqv]
    case born.born s t => rw [tagEq, Bool.and_true]; exact decide_eq_decide.mpr ⟨fun e => by rw [e], fun e => Turn.born.inj e⟩
    case took.took s n t m =>
      rw [tagEq, Bool.and_true, beq_dec, ← Bool.decide_and]
      exact decide_eq_decide.mpr ⟨fun e => by rw [e.1, e.2], fun e => Turn.took.inj e⟩
    case gave.gave s n t m =>
      rw [tagEq, Bool.and_true, beq_dec, ← Bool.decide_and]
      exact decide_eq_decide.mpr ⟨fun e => by rw [e.1, e.2], fun e => Turn.gave.inj e⟩
    case sent.sent s t => rw [tagEq, Bool.and_true, beq_dec]; exact decide_eq_decide.mpr ⟨fun e => by rw [e], fun e => Turn.sent.inj e⟩
    case got.got s t => rw [tagEq, Bool.and_true, beq_dec]; exact decide_eq_decide.mpr ⟨fun e => by rw [e], fun e => Turn.got.inj e⟩
    case speaks.speaks => decide +kernel
    case done.done => decide +kernel
    all_goals
      refine Eq.trans (tagNe (by decide +kernel)) (Eq.symm (decide_eq_false (by intro h; cases h)))
  depth := 2
  depth_le a := by cases a <;> simp [Turn.toD, PyData.depth, PyData.depthAll, Datum.toD]
theorem let_eqv (a b : Letter) : PyData.eqv (Letter.toD a) (Letter.toD b) = decide (a = b) := Datum.eqv a b
theorem let_plain (a : Letter) : PyData.plain (Letter.toD a) = true := Datum.plain a
theorem let_depth (a : Letter) : PyData.depth (Letter.toD a) ≤ 1 := Datum.depth_le a
instance : Datum What where
  toD := What.toD
  plain a := by cases a <;> simp only [What.toD, PyData.plain, PyData.plainAll, let_plain, Bool.and_self]
  eqv a b := by
    cases a <;> cases b <;> simp only [What.toD, PyData.eqv, PyData.eqvAll, let_eqv]
    case hear.hear n l m k =>
      rw [tagEq, Bool.and_true, beq_dec, ← Bool.decide_and]
      exact decide_eq_decide.mpr ⟨fun e => by rw [e.1, e.2], fun e => What.hear.inj e⟩
    case join.join s t => rw [tagEq, Bool.and_true, beq_dec]; exact decide_eq_decide.mpr ⟨fun e => by rw [e], fun e => What.join.inj e⟩
    case part.part s t => rw [tagEq, Bool.and_true, beq_dec]; exact decide_eq_decide.mpr ⟨fun e => by rw [e], fun e => What.part.inj e⟩
    case want.want => decide +kernel
    case forgo.forgo => decide +kernel
    case done.done => decide +kernel
    all_goals
      refine Eq.trans (tagNe (by decide +kernel)) (Eq.symm (decide_eq_false (by intro h; cases h)))
  depth := 2
  depth_le a := by
    cases a <;> simp [What.toD, PyData.depth, PyData.depthAll]
    case hear n l => exact let_depth l
/-- the end of a floor -/
inductive End where
  | gave (s : Stp) | lost (n : Str)
  deriving DecidableEq
def End.toD : End → PyData
  | .gave s => .tuple [.str "gave", Datum.toD s]
  | .lost n => .tuple [.str "lost", .str n]
instance : Datum End where
  toD := End.toD
  plain a := by cases a <;> simp only [End.toD, PyData.plain, PyData.plainAll, plain_stp, Bool.and_self]
  eqv a b := by
    cases a <;> cases b <;> simp only [End.toD, PyData.eqv, PyData.eqvAll, stp_eqv]
    case gave.gave s t => rw [tagEq, Bool.and_true]; exact decide_eq_decide.mpr ⟨fun e => by rw [e], fun e => End.gave.inj e⟩
    case lost.lost s t => rw [tagEq, Bool.and_true, beq_dec]; exact decide_eq_decide.mpr ⟨fun e => by rw [e], fun e => End.lost.inj e⟩
    all_goals
      refine Eq.trans (tagNe (by decide +kernel)) (Eq.symm (decide_eq_false (by intro h; cases h)))
  depth := 2
  depth_le a := by cases a <;> simp [End.toD, PyData.depth, PyData.depthAll, Datum.toD]
instance : PySem.W.SomeDatum End := ⟨fun a => by cases a <;> simp only [Datum.toD, End.toD, PyData.eqv], fun a => by cases a <;> simp only [Datum.toD, End.toD, PyData.eqv]⟩
theorem flat_stp (s : Stp) : flatD (Datum.toD s) = true := FlatM.flat s
instance : FlatM Letter := ⟨fun a => by cases a <;> simp only [Datum.toD, Letter.toD, flatD, flatDs, Bool.and_self]⟩
theorem flat_let (s : Letter) : flatD (Letter.toD s) = true := FlatM.flat s
instance : FlatM Turn := ⟨fun a => by cases a <;> simp only [Datum.toD, Turn.toD, flatD, flatDs, Bool.and_self]⟩
instance : FlatM What := ⟨fun a => by cases a <;> simp only [Datum.toD, What.toD, flatD, flatDs, flat_let, Bool.and_self]⟩
instance : FlatM End := ⟨fun a => by cases a <;> simp only [Datum.toD, End.toD, flatD, flatDs, Bool.and_self]⟩
instance {α : Type} [DecidableEq α] [Datum α] [PySem.W.SomeDatum α] [FlatM α] : FlatM (Option α) := ⟨fun a => by
  cases a with
  | none => show flatD .none = true; simp only [flatD]
  | some x => exact FlatM.flat x⟩
/-! ### dicts as lists of pairs -/
section
variable {κ β : Type} [DecidableEq κ]
def aput (l : List (κ × β)) (k : κ) (b : β) : List (κ × β) := if (l.any fun e => decide (e.1 = k)) = true then l.map (fun e => if e.1 = k then (e.1, b) else e) else l ++ [(k, b)]
def aval (l : List (κ × β)) (k : κ) : Option β := (l.find? fun e => decide (e.1 = k)).map (·.2)
def adrop (l : List (κ × β)) (k : κ) : List (κ × β) := l.filter fun e => decide (e.1 ≠ k)
end
/-- a hand -/
structure Hd where
  own : Str
  mark : Stp
  way : Option Str
  heard : List (Str × Option Stp)
  wait : List Str
  asked : Bool
  spk : Bool
  past : List Turn
  going : List (Str × Letter)
namespace Hd
def mk0 (n : Str) : Hd := ⟨n, (0, n), none, [], [], false, false, [.born (0, n)], []⟩
def names (h : Hd) : List Str := h.heard.map (·.1)
def tellMark (h : Hd) : Hd := { h with going := h.going ++ (sortM h.names).map fun n => (n, Letter.stamp h.mark) }
def over (m : Stp) (e : Str × Option Stp) : Option Stp := match e.2 with
  | some s => if DatumOrd.lt m s = true then some s else none
  | none => none
def above (h : Hd) : List Stp := h.heard.filterMap (over h.mark)
def greater (h : Hd) : Option Stp := match h.above with
  | [] => none
  | x :: xs => some (maxOf x xs)
def tellers (h : Hd) (s : Stp) : List Str := (h.heard.filter fun e => decide (e.2 = some s)).map (·.1)
def least (xs : List Str) : Str := match xs with
  | [] => ""
  | x :: xs => minOf x xs
def giveWay (h : Hd) (s : Stp) : Hd := tellMark { h with way := some (least (h.tellers s)), mark := s, past := h.past ++ [.gave s (least (h.tellers s))] }
def serve (h : Hd) : Hd := match h.wait with
  | [] => h
  | f :: r => if f = h.own then { h with wait := r, spk := true, past := h.past ++ [.speaks] }
    else { h with wait := r, way := some f, going := h.going ++ [(f, .floor)], past := h.past ++ [.sent f] }
def goStep (h : Hd) : Hd := if h.way = none ∧ h.spk = false then
    match h.greater with
    | some s => h.giveWay s
    | none => if h.wait = [] then h else h.serve
  else h
def wants (h : Hd) : Prop := h.wait ≠ [] ∨ h.greater ≠ none
instance (h : Hd) : Decidable h.wants := inferInstanceAs (Decidable (_ ∨ _))
def goAsk (h : Hd) : Hd := match h.way with
  | some w => if h.wants ∧ h.asked = false then { h with asked := true, going := h.going ++ [(w, .ask)] } else h
  | none => h
def went (h : Hd) : Hd := h.goStep.goAsk
def goOn (h : Hd) : Hd := { h.went with going := [] }
def told (h : Hd) : List (Str × Letter) := h.went.going
def want (h : Hd) : Hd := { h with wait := h.wait ++ [h.own] }
def forgo (h : Hd) : Hd := { h with wait := h.wait.erase h.own }
def done (h : Hd) : Hd := { h with spk := false, past := h.past ++ [.done] }
def told_by (h : Hd) (n : Str) : Option Stp := (aval h.heard n).join
def join (h : Hd) (n : Str) : Hd := { h with heard := h.heard ++ [(n, none)], going := h.going ++ [(n, .stamp h.mark)] }
def cut (h : Hd) (n : Str) : Hd := { h with heard := adrop h.heard n, wait := h.wait.filter fun x => decide (x ≠ n) }
def bear (h : Hd) : Hd := tellMark { h with way := none, asked := false, mark := (h.mark.1 + 1, h.own), past := h.past ++ [.born (h.mark.1 + 1, h.own)] }
def part (h : Hd) (n : Str) : Hd := if h.way = some n then (h.cut n).bear else h.cut n
def hearStamp (h : Hd) (n : Str) (s : Stp) : Hd :=
  if h.way = some n ∧ DatumOrd.lt h.mark s = true then tellMark { h with heard := aput h.heard n (some s), mark := s, past := h.past ++ [.took s n] }
  else { h with heard := aput h.heard n (some s) }
def hear (h : Hd) (n : Str) (l : Letter) : Hd := match l with
  | .stamp s => h.hearStamp n s
  | .ask => { h with wait := h.wait ++ [n] }
  | .floor => { h with way := none, asked := false, past := h.past ++ [.got n] }
end Hd
end N7
namespace N7
open PySem PySem.Spec PyProof.Rows L2
/-! ### a dict of the abstract heap, and the list of pairs that it stands for -/
section
variable {κ κ' β : Type} [DecidableEq κ] [DecidableEq κ']
/-- kvs are the pairs l: keys by f, values by R -/
abbrev DR (f : κ → κ') (R : V → β → Prop) : List (κ' × V) → List (κ × β) → Prop := Paired fun kv e => kv.1 = f e.1 ∧ R kv.2 e.2
variable {f : κ → κ'} {R R' : V → β → Prop} {kvs : List (κ' × V)} {l : List (κ × β)}
theorem DR.mono (h : DR f R kvs l) (m : ∀ v b, R v b → R' v b) : DR f R' kvs l := Paired.mapP h fun _ _ r => ⟨r.1, m _ _ r.2⟩
theorem DR.len (h : DR f R kvs l) : kvs.length = l.length := Paired.length h
theorem DR.keys (h : DR f R kvs l) : kvs.map (·.1) = l.map fun e => f e.1 := by
  induction h with
  | nil => rfl
  | cons r _ ih => rw [List.map_cons, List.map_cons, r.1, ih]
theorem DR.nil : DR f R [] ([] : List (κ × β)) := Paired.nil
theorem DR.app {kvs' : List (κ' × V)} {l' : List (κ × β)} (h : DR f R kvs l) (h' : DR f R kvs' l') : DR f R (kvs ++ kvs') (l ++ l') := by
  induction h with
  | nil => exact h'
  | cons r _ ih => exact .cons r ih
theorem DR.any (inj : ∀ a b, f a = f b → a = b) (h : DR f R kvs l) (k : κ) : (kvs.any fun kv => decide (kv.1 = f k)) = (l.any fun e => decide (e.1 = k)) := by
  induction h with
  | nil => rfl
  | cons r _ ih =>
    rw [List.any_cons, List.any_cons, ih, r.1]
    congr 1
    exact decide_eq_decide.mpr ⟨inj _ _, fun e => by rw [e]⟩
theorem DR.put (inj : ∀ a b, f a = f b → a = b) (h : DR f R kvs l) {k : κ} {v : V} {b : β} (r : R v b) : DR f R (putK kvs (f k) v) (aput l k b) := by
  unfold putK aput
  rw [h.any inj k]
  split
  · rename_i hh
    clear hh
    induction h with
    | nil => exact .nil
    | @cons kv e _ _ q _ ih =>
      refine .cons ?_ ih
      dsimp only
      by_cases c : e.1 = k
      · rw [if_pos c, if_pos (by rw [q.1, c])]
        exact ⟨q.1, r⟩
      · rw [if_neg c, if_neg (fun z => c (inj _ _ (q.1.symm.trans z)))]
        exact q
  · exact h.app (.cons ⟨rfl, r⟩ .nil)
theorem DR.drop (inj : ∀ a b, f a = f b → a = b) (h : DR f R kvs l) (k : κ) : DR f R (dropK kvs (f k)) (adrop l k) := by
  unfold dropK adrop
  induction h with
  | nil => exact .nil
  | @cons kv e _ _ q _ ih =>
    by_cases c : e.1 = k
    · rw [List.filter_cons_of_neg (by simp [c, q.1]), List.filter_cons_of_neg (by simp [c])]
      exact ih
    · have c' : ¬ kv.1 = f k := fun z => c (inj _ _ (q.1.symm.trans z))
      rw [List.filter_cons_of_pos (by simp [c']), List.filter_cons_of_pos (by simp [c])]
      exact .cons q ih
theorem aval_cons (e : κ × β) (r : List (κ × β)) (k : κ) : aval (e :: r) k = if e.1 = k then some e.2 else aval r k := by
  unfold aval
  by_cases c : e.1 = k
  · rw [List.find?_cons_of_pos (by simp [c]), if_pos c]; rfl
  · rw [List.find?_cons_of_neg (by simp [c]), if_neg c]
theorem DR.val (inj : ∀ a b, f a = f b → a = b) (h : DR f R kvs l) {k : κ} {b : β} (e : aval l k = some b) : ∃ v, valV kvs (f k) = some v ∧ R v b := by
  induction h with
  | nil => cases e
  | @cons kv p _ _ q _ ih =>
    rw [aval_cons] at e
    by_cases c : p.1 = k
    · rw [if_pos c] at e
      cases e
      exact ⟨_, valV_pos (by rw [q.1, c]), q.2⟩
    · rw [if_neg c] at e
      obtain ⟨v, e1, e2⟩ := ih e
      exact ⟨v, by rw [valV_neg (fun z => c (inj _ _ (q.1.symm.trans z)))]; exact e1, e2⟩
theorem DR.no (inj : ∀ a b, f a = f b → a = b) (h : DR f R kvs l) {k : κ} (e : aval l k = none) : valV kvs (f k) = none := by
  induction h with
  | nil => rfl
  | @cons kv p _ _ q _ ih =>
    rw [aval_cons] at e
    by_cases c : p.1 = k
    · rw [if_pos c] at e; cases e
    · rw [if_neg c] at e
      rw [valV_neg (fun z => c (inj _ _ (q.1.symm.trans z)))]
      exact ih e
theorem DR.some? (inj : ∀ a b, f a = f b → a = b) (h : DR f R kvs l) (k : κ) : (valV kvs (f k)).isSome = (aval l k).isSome := by
  cases e : aval l k with
  | none => rw [h.no inj e]; rfl
  | some b => obtain ⟨v, e1, _⟩ := h.val inj e; rw [e1]; rfl
theorem DR.at (h : DR f R kvs l) {i : Nat} {kv : κ' × V} (e : kvs[i]? = some kv) : ∃ p, l[i]? = some p ∧ kv.1 = f p.1 ∧ R kv.2 p.2 := by
  induction h generalizing i with
  | nil => simp at e
  | cons q _ ih =>
    cases i with
    | zero => simp at e; subst e; exact ⟨_, rfl, q⟩
    | succ i => obtain ⟨p, e1, e2⟩ := ih (by simpa using e); exact ⟨p, by simpa using e1, e2⟩
end
theorem inr_inj (a b : Str) (h : (Sum.inr a : Key) = Sum.inr b) : a = b := Sum.inr.inj h
end N7
namespace N7
open PySem PySem.Spec PyProof.Rows L2
open PySem.W (Datum DatumOrd Holds HoldAll)
/-! ### a hand in the heap -/
/-- where its parts stand: its dict, heard, waiting, past, going, the stamp's tuple -/
structure HL where
  dx : Addr
  hd : Addr
  wl : Addr
  pl : Addr
  gl : Addr
  ma : Addr
/-- what is a hand's own -/
def HL.own (p : Addr) (L : HL) (b : Addr) : Prop := b = p ∨ b = L.hd ∨ b = L.wl ∨ b = L.pl ∨ b = L.gl
def wayV : Option Str → V
  | none => .non
  | some n => .str n
def hf (L : HL) (h : Hd) : List (Str × V) := [("own", .str h.own), ("mark", .ref L.ma), ("way", wayV h.way), ("heard", .ref L.hd), ("waiting", .ref L.wl), ("has_asked", .bl h.asked), ("is_speaking", .bl h.spk), ("past", .ref L.pl), ("going", .ref L.gl)]
theorem hf_len (L : HL) (h : Hd) : (hf L h).length < 1000 := by show 9 < 1000; decide
theorem hf_own (L : HL) (h : Hd) : (hf L h).lookup ("own" : Str) = some (.str h.own) := rfl
theorem hf_mark (L : HL) (h : Hd) : (hf L h).lookup ("mark" : Str) = some (.ref L.ma) := rfl
theorem hf_way (L : HL) (h : Hd) : (hf L h).lookup ("way" : Str) = some (wayV h.way) := rfl
theorem hf_heard (L : HL) (h : Hd) : (hf L h).lookup ("heard" : Str) = some (.ref L.hd) := rfl
theorem hf_waiting (L : HL) (h : Hd) : (hf L h).lookup ("waiting" : Str) = some (.ref L.wl) := rfl
theorem hf_has_asked (L : HL) (h : Hd) : (hf L h).lookup ("has_asked" : Str) = some (.bl h.asked) := rfl
theorem hf_is_speaking (L : HL) (h : Hd) : (hf L h).lookup ("is_speaking" : Str) = some (.bl h.spk) := rfl
theorem hf_past (L : HL) (h : Hd) : (hf L h).lookup ("past" : Str) = some (.ref L.pl) := rfl
theorem hf_going (L : HL) (h : Hd) : (hf L h).lookup ("going" : Str) = some (.ref L.gl) := rfl
/-- what the written part says of the class at C -/
structure HT (K : PySem.W.Frag) (C : Addr) : Prop where
  cl : Cls K C
  own : NoAttr K C "own"
  mark : NoAttr K C "mark"
  way : NoAttr K C "way"
  heard : NoAttr K C "heard"
  waiting : NoAttr K C "waiting"
  has_asked : NoAttr K C "has_asked"
  is_speaking : NoAttr K C "is_speaking"
  past : NoAttr K C "past"
  going : NoAttr K C "going"
abbrev keyS : Str → Key := Sum.inr
structure HandAt (K : PySem.W.Frag) (C p : Addr) (L : HL) (h : Hd) (H : Hp) : Prop where
  ob : H p = some (.ins C L.dx (hf L h))
  ma : Dt H (.ref L.ma) h.mark
  hd : ∃ kvs, H L.hd = some (.dK kvs) ∧ DR keyS (Dt H) kvs h.heard
  wl : H L.wl = some (.lst (h.wait.map V.str))
  pl : ∃ vs, H L.pl = some (.lst vs) ∧ Paired (Dt H) vs h.past
  gl : ∃ vs, H L.gl = some (.lst vs) ∧ Dms K H vs h.going
  n1 : L.wl ≠ L.pl
  n2 : L.wl ≠ L.gl
  n3 : L.pl ≠ L.gl
section
variable {K : PySem.W.Frag} {C p : Addr} {L : HL} {h : Hd} {H H' : Hp}
theorem HandAt.keepB (S : HandAt K C p L h H) (k : ∀ b o, H b = some o → L.own p b → H' b = some o) (t : Tups H H') : HandAt K C p L h H' := by
  obtain ⟨kvs, e1, e2⟩ := S.hd
  obtain ⟨vs, e3, e4⟩ := S.pl
  obtain ⟨ws, e5, e6⟩ := S.gl
  exact ⟨k _ _ S.ob (.inl rfl), S.ma.tups t, ⟨kvs, k _ _ e1 (.inr (.inl rfl)), e2.mono fun _ _ d => d.tups t⟩, k _ _ S.wl (.inr (.inr (.inl rfl))),
    ⟨vs, k _ _ e3 (.inr (.inr (.inr (.inl rfl)))), Dts.tups e4 t⟩, ⟨ws, k _ _ e5 (.inr (.inr (.inr (.inr rfl)))), e6.tups t⟩, S.n1, S.n2, S.n3⟩
theorem HandAt.keep {A A' : Addr → Prop} (S : HandAt K C p L h H) (c : Ch A H A' H') (d : ∀ b, L.own p b → ¬ A b) : HandAt K C p L h H' := S.keepB (fun b o e ob => c.keep b o e (d b ob)) c.tup
/-- the hand's own things stand -/
theorem HandAt.there (S : HandAt K C p L h H) {b : Addr} (ob : L.own p b) : ∃ o, H b = some o := by
  obtain ⟨kvs, e1, _⟩ := S.hd
  obtain ⟨vs, e3, _⟩ := S.pl
  obtain ⟨ws, e5, _⟩ := S.gl
  rcases ob with rfl | rfl | rfl | rfl | rfl
  · exact ⟨_, S.ob⟩
  · exact ⟨_, e1⟩
  · exact ⟨_, S.wl⟩
  · exact ⟨_, e3⟩
  · exact ⟨_, e5⟩
theorem HandAt.new (S : HandAt K C p L h H) (c : New H H') : HandAt K C p L h H' := S.keep c fun _ _ f => f
theorem HandAt.p_hd (S : HandAt K C p L h H) : p ≠ L.hd := by obtain ⟨_, e, _⟩ := S.hd; exact ne_of S.ob e (by intro z; cases z)
theorem HandAt.p_wl (S : HandAt K C p L h H) : p ≠ L.wl := ne_of S.ob S.wl (by intro z; cases z)
theorem HandAt.p_pl (S : HandAt K C p L h H) : p ≠ L.pl := by obtain ⟨_, e, _⟩ := S.pl; exact ne_of S.ob e (by intro z; cases z)
theorem HandAt.p_gl (S : HandAt K C p L h H) : p ≠ L.gl := by obtain ⟨_, e, _⟩ := S.gl; exact ne_of S.ob e (by intro z; cases z)
theorem HandAt.hd_wl (S : HandAt K C p L h H) : L.hd ≠ L.wl := by obtain ⟨_, e, _⟩ := S.hd; exact ne_of e S.wl (by intro z; cases z)
theorem HandAt.hd_pl (S : HandAt K C p L h H) : L.hd ≠ L.pl := by obtain ⟨_, e, _⟩ := S.hd; obtain ⟨_, e', _⟩ := S.pl; exact ne_of e e' (by intro z; cases z)
theorem HandAt.hd_gl (S : HandAt K C p L h H) : L.hd ≠ L.gl := by obtain ⟨_, e, _⟩ := S.hd; obtain ⟨_, e', _⟩ := S.gl; exact ne_of e e' (by intro z; cases z)
/-- since the entry: a hand, and what has changed -/
structure HS (K : PySem.W.Frag) (C p : Addr) (A : Addr → Prop) (H0 : Hp) (L : HL) (h : Hd) (H : Hp) : Prop where
  at_ : HandAt K C p L h H
  ch : Ch A H0 (L.own p) H
variable {A : Addr → Prop} {H0 : Hp}
theorem HS.start (S : HandAt K C p L h H) : HS K C p (L.own p) H L h H := ⟨S, Ch.refl _ _⟩
theorem HS.new (S : HS K C p A H0 L h H) (c : New H H') : HS K C p A H0 L h H' := ⟨S.at_.new c, S.ch.trans c.to⟩
/-- a write of one of the hand's own things -/
theorem HS.wr (S : HS K C p A H0 L h H) {h' : Hd} {L' : HL} {b : Addr} {o : HO} (hb : L.own p b) (nt : noTup (H b)) (W : HandAt K C p L' h' (upd H b o)) (ho : ∀ c, L'.own p c → L.own p c ∨ (H c = none ∧ False)) :
    HS K C p A H0 L' h' (upd H b o) := ⟨W, S.ch.trans ⟨(Ch.upd hb nt).keep, (Ch.upd (o := o) hb nt).tup, fun c hc => (ho c hc).imp id fun z => z.2.elim, dom_upd⟩⟩
section
variable {i : Nat} {σ : L2.St} {Q : VK}
theorem fR {f : Str} {v : V} {fs : List (Str × V)} {dx : Addr} (ob : H p = some (.ins C dx fs)) (cl : Cls K C) (na : NoAttr K C f) (lk : fs.lookup f = some v) (q : Q v H) (e : σ[i]? = some (some (.ref p)) := by rfl) : tFld K (tVar i) f σ H Q := ⟨_, e, p, C, dx, _, _, rfl, ob, cl, na, lk, q⟩
theorem HandAt.r_own (S : HandAt K C p L h H) (T : HT K C) (q : Q (.str h.own) H) (e : σ[i]? = some (some (.ref p)) := by rfl) : tFld K (tVar i) "own" σ H Q := ⟨_, e, p, C, L.dx, _, _, rfl, S.ob, T.cl, T.own, hf_own _ _, q⟩
theorem HandAt.r_mark (S : HandAt K C p L h H) (T : HT K C) (q : Q (.ref L.ma) H) (e : σ[i]? = some (some (.ref p)) := by rfl) : tFld K (tVar i) "mark" σ H Q := ⟨_, e, p, C, L.dx, _, _, rfl, S.ob, T.cl, T.mark, hf_mark _ _, q⟩
theorem HandAt.r_way (S : HandAt K C p L h H) (T : HT K C) (q : Q (wayV h.way) H) (e : σ[i]? = some (some (.ref p)) := by rfl) : tFld K (tVar i) "way" σ H Q := ⟨_, e, p, C, L.dx, _, _, rfl, S.ob, T.cl, T.way, hf_way _ _, q⟩
theorem HandAt.r_heard (S : HandAt K C p L h H) (T : HT K C) (q : Q (.ref L.hd) H) (e : σ[i]? = some (some (.ref p)) := by rfl) : tFld K (tVar i) "heard" σ H Q := ⟨_, e, p, C, L.dx, _, _, rfl, S.ob, T.cl, T.heard, hf_heard _ _, q⟩
theorem HandAt.r_wait (S : HandAt K C p L h H) (T : HT K C) (q : Q (.ref L.wl) H) (e : σ[i]? = some (some (.ref p)) := by rfl) : tFld K (tVar i) "waiting" σ H Q := ⟨_, e, p, C, L.dx, _, _, rfl, S.ob, T.cl, T.waiting, hf_waiting _ _, q⟩
theorem HandAt.r_asked (S : HandAt K C p L h H) (T : HT K C) (q : Q (.bl h.asked) H) (e : σ[i]? = some (some (.ref p)) := by rfl) : tFld K (tVar i) "has_asked" σ H Q := ⟨_, e, p, C, L.dx, _, _, rfl, S.ob, T.cl, T.has_asked, hf_has_asked _ _, q⟩
theorem HandAt.r_spk (S : HandAt K C p L h H) (T : HT K C) (q : Q (.bl h.spk) H) (e : σ[i]? = some (some (.ref p)) := by rfl) : tFld K (tVar i) "is_speaking" σ H Q := ⟨_, e, p, C, L.dx, _, _, rfl, S.ob, T.cl, T.is_speaking, hf_is_speaking _ _, q⟩
theorem HandAt.r_past (S : HandAt K C p L h H) (T : HT K C) (q : Q (.ref L.pl) H) (e : σ[i]? = some (some (.ref p)) := by rfl) : tFld K (tVar i) "past" σ H Q := ⟨_, e, p, C, L.dx, _, _, rfl, S.ob, T.cl, T.past, hf_past _ _, q⟩
theorem HandAt.r_going (S : HandAt K C p L h H) (T : HT K C) (q : Q (.ref L.gl) H) (e : σ[i]? = some (some (.ref p)) := by rfl) : tFld K (tVar i) "going" σ H Q := ⟨_, e, p, C, L.dx, _, _, rfl, S.ob, T.cl, T.going, hf_going _ _, q⟩
/-- what is left of a store of a field behind its value -/
abbrev wF (K : PySem.W.Frag) (i : Nat) (f : Str) (y : V) (N : L2.St → Hp → Prop) (σ : L2.St) (H : Hp) : Prop := tVar i σ H fun x H2 => ∃ a C dx fs, x = .ref a ∧ H2 a = some (.ins C dx fs) ∧ Cls K C ∧ NoAttr K C f ∧ fs.length < 1000 ∧ N σ (upd H2 a (.ins C dx (putF f y fs)))
variable {N : L2.St → Hp → Prop}
/-- the instance itself is written: L' stands on the parts of L -/
theorem HandAt.inst (S : HandAt K C p L h H) {h' : Hd} {L' : HL} (hdx : L'.dx = L.dx) (hw : h'.wait = h.wait) (hh : h'.heard = h.heard) (hp : h'.past = h.past) (hg : h'.going = h.going)
    (l1 : L'.hd = L.hd) (l2 : L'.wl = L.wl) (l3 : L'.pl = L.pl) (l4 : L'.gl = L.gl) (hm : Dt H (.ref L'.ma) h'.mark) : HandAt K C p L' h' (upd H p (.ins C L.dx (hf L' h'))) := by
  have t : Tups H (upd H p (.ins C L.dx (hf L' h'))) := Tups.upd (by rw [S.ob]; exact id)
  obtain ⟨kvs, e1, e2⟩ := S.hd
  obtain ⟨vs, e3, e4⟩ := S.pl
  obtain ⟨ws, e5, e6⟩ := S.gl
  refine ⟨by rw [upd_same, hdx], hm.tups t, ⟨kvs, by rw [l1, upd_ne S.p_hd.symm]; exact e1, by rw [hh]; exact e2.mono fun _ _ d => d.tups t⟩, by rw [l2, hw, upd_ne S.p_wl.symm]; exact S.wl,
    ⟨vs, by rw [l3, upd_ne S.p_pl.symm]; exact e3, by rw [hp]; exact Dts.tups e4 t⟩, ⟨ws, by rw [l4, upd_ne S.p_gl.symm]; exact e5, by rw [hg]; exact e6.tups t⟩, by rw [l2, l3]; exact S.n1, by rw [l2, l4]; exact S.n2, by rw [l3, l4]; exact S.n3⟩
theorem own_same {L L' : HL} (l1 : L'.hd = L.hd) (l2 : L'.wl = L.wl) (l3 : L'.pl = L.pl) (l4 : L'.gl = L.gl) (c : Addr) (hc : L'.own p c) : L.own p c ∨ (H c = none ∧ False) := by
  unfold HL.own at hc
  rw [l1, l2, l3, l4] at hc
  exact .inl hc
theorem HS.sWay (S : HS K C p A H0 L h H) {w : Option Str} {y : V} (hy : y = wayV w) : HS K C p A H0 L { h with way := w } (upd H p (.ins C L.dx (putF "way" y (hf L h)))) := by
  subst hy
  exact S.wr (.inl rfl) (by rw [S.at_.ob]; exact id) (S.at_.inst (L' := L) (h' := { h with way := w }) rfl rfl rfl rfl rfl rfl rfl rfl rfl S.at_.ma) fun c hc => .inl hc
theorem HS.sAsked (S : HS K C p A H0 L h H) (w : Bool) : HS K C p A H0 L { h with asked := w } (upd H p (.ins C L.dx (putF "has_asked" (.bl w) (hf L h)))) :=
  S.wr (.inl rfl) (by rw [S.at_.ob]; exact id) (S.at_.inst (L' := L) (h' := { h with asked := w }) rfl rfl rfl rfl rfl rfl rfl rfl rfl S.at_.ma) fun c hc => .inl hc
theorem HS.sSpk (S : HS K C p A H0 L h H) (w : Bool) : HS K C p A H0 L { h with spk := w } (upd H p (.ins C L.dx (putF "is_speaking" (.bl w) (hf L h)))) :=
  S.wr (.inl rfl) (by rw [S.at_.ob]; exact id) (S.at_.inst (L' := L) (h' := { h with spk := w }) rfl rfl rfl rfl rfl rfl rfl rfl rfl S.at_.ma) fun c hc => .inl hc
theorem HS.sMark (S : HS K C p A H0 L h H) {a : Addr} {s : Stp} (hs : Dt H (.ref a) s) : HS K C p A H0 { L with ma := a } { h with mark := s } (upd H p (.ins C L.dx (putF "mark" (.ref a) (hf L h)))) :=
  S.wr (.inl rfl) (by rw [S.at_.ob]; exact id) (S.at_.inst (L' := { L with ma := a }) (h' := { h with mark := s }) rfl rfl rfl rfl rfl rfl rfl rfl rfl hs) fun c hc => own_same rfl rfl rfl rfl c hc
end
end
end N7
namespace N7
open PySem PySem.Spec PyProof.Rows L2
open PySem.W (Datum DatumOrd Holds HoldAll)
/-! ### new tuples that are data -/
section
variable {K : PySem.W.Frag} {H : Hp} {q : Addr}
theorem newTup {xs : List V} {ds : List PyData} (hq : H q = none) (f : flatDs ds = true) (d : DpAll K H xs ds) : Dp K (upd H q (.tup xs)) (.ref q) (.tuple ds) :=
  .tup (SqT.of upd_same) (Dp.tupsAll (Tups.upd (by rw [hq]; trivial)) _ _ f d)
theorem fl1 (a : PyData) (h : flatD a = true) : flatDs [a] = true := by simp only [flatDs, h, Bool.and_self]
theorem fl2 (a b : PyData) (h : flatD a = true) (g : flatD b = true) : flatDs [a, b] = true := by simp only [flatDs, h, g, Bool.and_self]
theorem fl3 (a b c : PyData) (h : flatD a = true) (g : flatD b = true) (k : flatD c = true) : flatDs [a, b, c] = true := by simp only [flatDs, h, g, k, Bool.and_self]
theorem fls (x : Str) : flatD (.str x) = true := by simp only [flatD]
theorem fli (x : Int) : flatD (.int x) = true := by simp only [flatD]
theorem newQ {xs : List V} {ds : List PyData} (hq : H q = none) (d : DqAll H xs ds) : Dq (upd H q (.tup xs)) (.ref q) (.tuple ds) :=
  .tup upd_same (DqAll.tups (Tups.upd (by rw [hq]; trivial)) _ _ d)
theorem t_born (hq : H q = none) {a : V} {s : Stp} (d : Dt H a s) : Dt (upd H q (.tup [.str "born", a])) (.ref q) (Turn.born s) := newQ hq (.cons (.str _) (.cons d .nil))
theorem t_gave (hq : H q = none) {a : V} {s : Stp} {n : Str} (d : Dt H a s) : Dt (upd H q (.tup [.str "gave", a, .str n])) (.ref q) (Turn.gave s n) := newQ hq (.cons (.str _) (.cons d (.cons (.str _) .nil)))
theorem t_took (hq : H q = none) {a : V} {s : Stp} {n : Str} (d : Dt H a s) : Dt (upd H q (.tup [.str "took", a, .str n])) (.ref q) (Turn.took s n) := newQ hq (.cons (.str _) (.cons d (.cons (.str _) .nil)))
theorem t_sent (hq : H q = none) {n : Str} : Dt (upd H q (.tup [.str "sent", .str n])) (.ref q) (Turn.sent n) := newQ hq (.cons (.str _) (.cons (.str _) .nil))
theorem t_got (hq : H q = none) {n : Str} : Dt (upd H q (.tup [.str "got", .str n])) (.ref q) (Turn.got n) := newQ hq (.cons (.str _) (.cons (.str _) .nil))
theorem t_speaks (hq : H q = none) : Dt (upd H q (.tup [.str "speaks"])) (.ref q) Turn.speaks := newQ hq (.cons (.str _) .nil)
theorem t_done (hq : H q = none) : Dt (upd H q (.tup [.str "done"])) (.ref q) Turn.done := newQ hq (.cons (.str _) .nil)
theorem t_stp (hq : H q = none) {i : Int} {n : Str} : Dt (upd H q (.tup [.int i, .str n])) (.ref q) ((i, n) : Stp) := newQ hq (.cons (.int _) (.cons (.str _) .nil))
theorem t_pair {α β : Type} [DecidableEq α] [Datum α] [FlatM α] [DecidableEq β] [Datum β] [FlatM β] (hq : H q = none) {v w : V} {a : α} {b : β} (d : Dm K H v a) (e : Dm K H w b) : Dm K (upd H q (.tup [v, w])) (.ref q) (a, b) := newTup hq (fl2 _ _ (FlatM.flat a) (FlatM.flat b)) (.cons d (.cons e .nil))
/-- ('stamp',) + a stamp -/
theorem t_cat (hq : H q = none) {s : Stp} : Dm K (upd H q (.tup [.str "stamp", .int s.1, .str s.2])) (.ref q) (Letter.stamp s) := newTup hq (fl3 _ _ _ (fls _) (fli _) (fls _)) (.cons (.str _) (.cons (.int _) (.cons (.str _) .nil)))
theorem stp_sq {v : V} {s : Stp} (d : Dm K H v s) : ∃ a, v = .ref a ∧ SqT K H a [.int s.1, .str s.2] := by
  obtain ⟨a, w, z, e, sq, d1, d2⟩ := Dm.unpair (x := s.1) (y := s.2) d
  exact ⟨a, e, by rw [d1.toInt, d2.toStr] at sq; exact sq⟩
theorem stp_dir {v : V} {s : Stp} (d : Dt H v s) : ∃ a, v = .ref a ∧ H a = some (.tup [.int s.1, .str s.2]) := by
  cases d with
  | tup e r =>
    cases r with
    | cons a r =>
      cases a
      cases r with
      | cons b r => cases b; cases r; exact ⟨_, rfl, e⟩
theorem Dm.none_iff {v : V} {o : Option Stp} (d : Dm K H v o) : (v = .non ↔ o = none) := by
  cases o with
  | none => exact ⟨fun _ => rfl, fun _ => by cases d; rfl⟩
  | some s =>
    obtain ⟨a, e, _⟩ := stp_sq (s := s) d
    subst e
    exact ⟨(fun z => nomatch z), (fun z => nomatch z)⟩
end
section
variable {K : PySem.W.Frag} {C p : Addr} {L : HL} {h : Hd} {H H' : Hp} {A : Addr → Prop} {H0 : Hp} {Q : VK}
theorem HandAt.setW (S : HandAt K C p L h H) (ws : List Str) : HandAt K C p L { h with wait := ws } (upd H L.wl (.lst (ws.map V.str))) := by
  have t : Tups H (upd H L.wl (.lst (ws.map V.str))) := Tups.upd (by rw [S.wl]; exact id)
  obtain ⟨kvs, e1, e2⟩ := S.hd
  obtain ⟨vs, e3, e4⟩ := S.pl
  obtain ⟨zs, e5, e6⟩ := S.gl
  exact ⟨by rw [upd_ne S.p_wl]; exact S.ob, S.ma.tups t, ⟨kvs, by rw [upd_ne S.hd_wl]; exact e1, e2.mono fun _ _ d => d.tups t⟩, upd_same,
    ⟨vs, by rw [upd_ne S.n1.symm]; exact e3, Dts.tups e4 t⟩, ⟨zs, by rw [upd_ne S.n2.symm]; exact e5, e6.tups t⟩, S.n1, S.n2, S.n3⟩
theorem HandAt.setP (S : HandAt K C p L h H) {vs : List V} {ts : List Turn} (d : Paired (Dt H) vs ts) : HandAt K C p L { h with past := ts } (upd H L.pl (.lst vs)) := by
  obtain ⟨kvs, e1, e2⟩ := S.hd
  obtain ⟨vs', e3, e4⟩ := S.pl
  obtain ⟨zs, e5, e6⟩ := S.gl
  have t : Tups H (upd H L.pl (.lst vs)) := Tups.upd (by rw [e3]; exact id)
  exact ⟨by rw [upd_ne S.p_pl]; exact S.ob, S.ma.tups t, ⟨kvs, by rw [upd_ne S.hd_pl]; exact e1, e2.mono fun _ _ d => d.tups t⟩, by rw [upd_ne S.n1]; exact S.wl,
    ⟨vs, upd_same, Dts.tups d t⟩, ⟨zs, by rw [upd_ne S.n3.symm]; exact e5, e6.tups t⟩, S.n1, S.n2, S.n3⟩
theorem HandAt.setG (S : HandAt K C p L h H) {vs : List V} {ts : List (Str × Letter)} (d : Dms K H vs ts) : HandAt K C p L { h with going := ts } (upd H L.gl (.lst vs)) := by
  obtain ⟨kvs, e1, e2⟩ := S.hd
  obtain ⟨vs', e3, e4⟩ := S.pl
  obtain ⟨zs, e5, e6⟩ := S.gl
  have t : Tups H (upd H L.gl (.lst vs)) := Tups.upd (by rw [e5]; exact id)
  exact ⟨by rw [upd_ne S.p_gl]; exact S.ob, S.ma.tups t, ⟨kvs, by rw [upd_ne S.hd_gl]; exact e1, e2.mono fun _ _ d => d.tups t⟩, by rw [upd_ne S.n2]; exact S.wl,
    ⟨vs', by rw [upd_ne S.n3]; exact e3, Dts.tups e4 t⟩, ⟨vs, upd_same, d.tups t⟩, S.n1, S.n2, S.n3⟩
theorem HandAt.setH (S : HandAt K C p L h H) {kvs : List (Key × V)} {l : List (Str × Option Stp)} (d : DR keyS (Dt H) kvs l) : HandAt K C p L { h with heard := l } (upd H L.hd (.dK kvs)) := by
  obtain ⟨kvs', e1, e2⟩ := S.hd
  obtain ⟨vs', e3, e4⟩ := S.pl
  obtain ⟨zs, e5, e6⟩ := S.gl
  have t : Tups H (upd H L.hd (.dK kvs)) := Tups.upd (by rw [e1]; exact id)
  exact ⟨by rw [upd_ne S.p_hd]; exact S.ob, S.ma.tups t, ⟨kvs, upd_same, d.mono fun _ _ d => d.tups t⟩, by rw [upd_ne S.hd_wl.symm]; exact S.wl,
    ⟨vs', by rw [upd_ne S.hd_pl.symm]; exact e3, Dts.tups e4 t⟩, ⟨zs, by rw [upd_ne S.hd_gl.symm]; exact e5, e6.tups t⟩, S.n1, S.n2, S.n3⟩
theorem HandAt.o_hd : L.own p L.hd := .inr (.inl rfl)
theorem HandAt.o_wl : L.own p L.wl := .inr (.inr (.inl rfl))
theorem HandAt.o_pl : L.own p L.pl := .inr (.inr (.inr (.inl rfl)))
theorem HandAt.o_gl : L.own p L.gl := .inr (.inr (.inr (.inr rfl)))
theorem HandAt.ty_wait (S : HandAt K C p L h H) : tyV K "list" (.ref L.wl) H := .inl ⟨rfl, _, SqL.of S.wl⟩
theorem HandAt.ty_past (S : HandAt K C p L h H) : tyV K "list" (.ref L.pl) H := by obtain ⟨vs, e, _⟩ := S.pl; exact .inl ⟨rfl, _, SqL.of e⟩
theorem HandAt.ty_going (S : HandAt K C p L h H) : tyV K "list" (.ref L.gl) H := by obtain ⟨vs, e, _⟩ := S.gl; exact .inl ⟨rfl, _, SqL.of e⟩
theorem HS.setW (S : HS K C p A H0 L h H) (ws : List Str) : HS K C p A H0 L { h with wait := ws } (upd H L.wl (.lst (ws.map V.str))) :=
  S.wr HandAt.o_wl (by rw [S.at_.wl]; exact id) (S.at_.setW ws) fun _ h => .inl h
theorem HS.setP (S : HS K C p A H0 L h H) {vs : List V} {ts : List Turn} (d : Paired (Dt H) vs ts) : HS K C p A H0 L { h with past := ts } (upd H L.pl (.lst vs)) :=
  S.wr HandAt.o_pl (by obtain ⟨vs', e, _⟩ := S.at_.pl; rw [e]; exact id) (S.at_.setP d) fun _ h => .inl h
theorem HS.setG (S : HS K C p A H0 L h H) {vs : List V} {ts : List (Str × Letter)} (d : Dms K H vs ts) : HS K C p A H0 L { h with going := ts } (upd H L.gl (.lst vs)) :=
  S.wr HandAt.o_gl (by obtain ⟨vs', e, _⟩ := S.at_.gl; rw [e]; exact id) (S.at_.setG d) fun _ h => .inl h
theorem HS.setH (S : HS K C p A H0 L h H) {kvs : List (Key × V)} {l : List (Str × Option Stp)} (d : DR keyS (Dt H) kvs l) : HS K C p A H0 L { h with heard := l } (upd H L.hd (.dK kvs)) :=
  S.wr HandAt.o_hd (by obtain ⟨vs', e, _⟩ := S.at_.hd; rw [e]; exact id) (S.at_.setH d) fun _ h => .inl h
theorem sz_ok {n : Nat} (h : n ≤ 1000000) : n < sizeLine := by rw [sizeLine_eq]; omega
theorem sz_le {n : Nat} (h : n ≤ 1000000) : n ≤ sizeLine := by rw [sizeLine_eq]; omega
theorem HS.aWait (S : HS K C p A H0 L h H) (n : Str) (z : h.wait.length ≤ 1000000) : H L.wl = some (.lst (h.wait.map V.str)) ∧ (h.wait.map V.str).length < sizeLine ∧ HS K C p A H0 L { h with wait := h.wait ++ [n] } (upd H L.wl (.lst (h.wait.map V.str ++ [.str n]))) :=
  ⟨S.at_.wl, by rw [List.length_map]; exact sz_ok z, by have := S.setW (h.wait ++ [n]); rw [List.map_append] at this; exact this⟩
theorem HS.aPast (S : HS K C p A H0 L h H) {v : V} {t : Turn} (d : Dt H v t) (z : h.past.length ≤ 1000000) : ∃ vs, H L.pl = some (.lst vs) ∧ vs.length < sizeLine ∧ HS K C p A H0 L { h with past := h.past ++ [t] } (upd H L.pl (.lst (vs ++ [v]))) := by
  obtain ⟨vs, e, dv⟩ := S.at_.pl
  exact ⟨vs, e, by rw [Paired.length dv]; exact sz_ok z, S.setP (Paired.app dv (Paired.one d))⟩
theorem HS.aGoing (S : HS K C p A H0 L h H) {v : V} {t : Str × Letter} (d : Dm K H v t) (z : h.going.length ≤ 1000000) : ∃ vs, H L.gl = some (.lst vs) ∧ vs.length < sizeLine ∧ HS K C p A H0 L { h with going := h.going ++ [t] } (upd H L.gl (.lst (vs ++ [v]))) := by
  obtain ⟨vs, e, dv⟩ := S.at_.gl
  exact ⟨vs, e, by rw [dv.len]; exact sz_ok z, S.setG (dv.append (Dms.one d))⟩
theorem HS.xGoing (S : HS K C p A H0 L h H) {ws : List V} {ts : List (Str × Letter)} (d : Dms K H ws ts) (z : h.going.length + ts.length ≤ 1000000) : ∃ vs, H L.gl = some (.lst vs) ∧ vs.length + ws.length ≤ sizeLine ∧ HS K C p A H0 L { h with going := h.going ++ ts } (upd H L.gl (.lst (vs ++ ws))) := by
  obtain ⟨vs, e, dv⟩ := S.at_.gl
  exact ⟨vs, e, by rw [dv.len, d.len]; exact sz_le z, S.setG (dv.append d)⟩
theorem seq0 {α : Type} {a : α} {r : List α} : seqIndex? 0 (a :: r).length = some 0 := by
  unfold seqIndex?
  simp
theorem HS.pop0 (S : HS K C p A H0 L h H) {f : Str} {r : List Str} (ew : h.wait = f :: r) : H L.wl = some (.lst (.str f :: r.map V.str)) ∧ HS K C p A H0 L { h with wait := r } (upd H L.wl (.lst ((V.str f :: r.map V.str).eraseIdx 0))) :=
  ⟨by have := S.at_.wl; rw [ew] at this; exact this, S.setW r⟩
variable {i : Nat} {σ : L2.St} {N : L2.St → Hp → Prop}
theorem HandAt.inst2 (S : HandAt K C p L h H) {h' : Hd} {L' : HL} (hdx : L'.dx = L.dx) (hd : ∃ kvs, H L'.hd = some (.dK kvs) ∧ DR keyS (Dt H) kvs h'.heard) (wl : H L'.wl = some (.lst (h'.wait.map V.str)))
    (pl : ∃ vs, H L'.pl = some (.lst vs) ∧ Paired (Dt H) vs h'.past) (gl : ∃ vs, H L'.gl = some (.lst vs) ∧ Dms K H vs h'.going) (n1 : L'.wl ≠ L'.pl) (n2 : L'.wl ≠ L'.gl) (n3 : L'.pl ≠ L'.gl) (hm : Dt H (.ref L'.ma) h'.mark) :
    HandAt K C p L' h' (upd H p (.ins C L.dx (hf L' h'))) := by
  have t : Tups H (upd H p (.ins C L.dx (hf L' h'))) := Tups.upd (by rw [S.ob]; exact id)
  obtain ⟨kvs, e1, e2⟩ := hd
  obtain ⟨vs, e3, e4⟩ := pl
  obtain ⟨ws, e5, e6⟩ := gl
  have ne : ∀ {b : Addr} {o : HO}, H b = some o → (∀ C dx fs, o ≠ .ins C dx fs) → b ≠ p := fun e f => ne_of e S.ob (f _ _ _)
  exact ⟨by rw [upd_same, hdx], hm.tups t, ⟨kvs, by rw [upd_ne (ne e1 (fun _ _ _ z => nomatch z))]; exact e1, e2.mono fun _ _ d => d.tups t⟩, by rw [upd_ne (ne wl (fun _ _ _ z => nomatch z))]; exact wl,
    ⟨vs, by rw [upd_ne (ne e3 (fun _ _ _ z => nomatch z))]; exact e3, Dts.tups e4 t⟩, ⟨ws, by rw [upd_ne (ne e5 (fun _ _ _ z => nomatch z))]; exact e5, e6.tups t⟩, n1, n2, n3⟩
/-- a new list in the place of waiting, not one of the hand's, not there at the entry -/
theorem HS.sWaiting (S : HS K C p A H0 L h H) {b : Addr} {ws : List Str} (eb : H b = some (.lst (ws.map V.str))) (nb : ¬ L.own p b) (fb : H0 b = none) :
    HS K C p A H0 { L with wl := b } { h with wait := ws } (upd H p (.ins C L.dx (putF "waiting" (.ref b) (hf L h)))) := by
  refine ⟨S.at_.inst2 (L' := { L with wl := b }) (h' := { h with wait := ws }) rfl S.at_.hd eb S.at_.pl S.at_.gl (fun z => nb (.inr (.inr (.inr (.inl z))))) (fun z => nb (.inr (.inr (.inr (.inr z))))) S.at_.n3 S.at_.ma, ?_⟩
  have c : Ch (L.own p) H (L.own p) (upd H p (.ins C L.dx (hf { L with wl := b } { h with wait := ws }))) := Ch.upd (.inl rfl) (by rw [S.at_.ob]; exact id)
  have d := S.ch.trans c
  refine ⟨d.keep, d.tup, fun x hx => ?_, d.dom⟩
  rcases hx with rfl | rfl | rfl | rfl | rfl
  · exact d.own _ (.inl rfl)
  · exact d.own _ (.inr (.inl rfl))
  · exact .inr fb
  · exact d.own _ (.inr (.inr (.inr (.inl rfl))))
  · exact d.own _ (.inr (.inr (.inr (.inr rfl))))
/-- an empty new list in the place of going: the old one, with what it held, is free -/
theorem HS.sGoing (S : HS K C p A H0 L h H) {b : Addr} (eb : H b = some (.lst [])) (nb : ¬ L.own p b) (fb : H0 b = none) :
    HS K C p A H0 { L with gl := b } { h with going := [] } (upd H p (.ins C L.dx (putF "going" (.ref b) (hf L h)))) ∧
    (∃ vs, (upd H p (.ins C L.dx (putF "going" (.ref b) (hf L h)))) L.gl = some (.lst vs) ∧ Dms K (upd H p (.ins C L.dx (putF "going" (.ref b) (hf L h)))) vs h.going) ∧ ¬ HL.own p { L with gl := b } L.gl := by
  obtain ⟨vs, ev, dv⟩ := S.at_.gl
  have c : Ch (L.own p) H (L.own p) (upd H p (.ins C L.dx (hf { L with gl := b } { h with going := [] }))) := Ch.upd (.inl rfl) (by rw [S.at_.ob]; exact id)
  have d := S.ch.trans c
  refine ⟨⟨S.at_.inst2 (L' := { L with gl := b }) (h' := { h with going := [] }) rfl S.at_.hd S.at_.wl S.at_.pl ⟨[], eb, Dms.nil⟩ S.at_.n1 (fun z => nb (.inr (.inr (.inl z.symm)))) (fun z => nb (.inr (.inr (.inr (.inl z.symm))))) S.at_.ma, ?_⟩, ⟨vs, (upd_ne S.at_.p_gl.symm).trans ev, dv.tups c.tup⟩, ?_⟩
  · refine ⟨d.keep, d.tup, fun x hx => ?_, d.dom⟩
    rcases hx with rfl | rfl | rfl | rfl | rfl
    · exact d.own _ (.inl rfl)
    · exact d.own _ (.inr (.inl rfl))
    · exact d.own _ (.inr (.inr (.inl rfl)))
    · exact d.own _ (.inr (.inr (.inr (.inl rfl))))
    · exact .inr fb
  · rintro (z | z | z | z | z)
    · exact S.at_.p_gl z.symm
    · exact S.at_.hd_gl z.symm
    · exact S.at_.n2 z.symm
    · exact S.at_.n3 z.symm
    · exact nb (by have z' : L.gl = b := z; rw [← z']; exact HandAt.o_gl)
/-- the dict heard -/
theorem HS.h_get (S : HS K C p A H0 L h H) {n : Str} {o : Option Stp} (e : aval h.heard n = some o) : ∃ v, DGet H L.hd (.str n) (some v) ∧ Dt H v o := by
  obtain ⟨kvs, e1, d⟩ := S.at_.hd
  obtain ⟨v, ev, dv⟩ := d.val inr_inj e
  exact ⟨v, by rw [← ev]; exact DGet.k (k := keyS n) e1, dv⟩
theorem HS.h_in (S : HS K C p A H0 L h H) (n : Str) : ∃ o, DGet H L.hd (.str n) o ∧ o.isSome = (aval h.heard n).isSome := by
  obtain ⟨kvs, e1, d⟩ := S.at_.hd
  exact ⟨_, DGet.k (k := keyS n) e1, d.some? inr_inj n⟩
theorem HS.h_put (S : HS K C p A H0 L h H) {n : Str} {v : V} {o : Option Stp} (dv : Dt H v o) (z : h.heard.length ≤ 1000000) : ∃ H', DPut H L.hd (.str n) v H' ∧ HS K C p A H0 L { h with heard := aput h.heard n o } H' := by
  obtain ⟨kvs, e1, d⟩ := S.at_.hd
  exact ⟨_, DPut.k (k := keyS n) e1 (by rw [d.len]; exact sz_ok z), S.setH (d.put inr_inj dv)⟩
theorem HS.h_del (S : HS K C p A H0 L h H) {n : Str} {o : Option Stp} (e : aval h.heard n = some o) : ∃ kvs, H L.hd = some (.dK kvs) ∧ (valV kvs (keyS n)).isSome = true ∧ HS K C p A H0 L { h with heard := adrop h.heard n } (upd H L.hd (.dK (dropK kvs (keyS n)))) := by
  obtain ⟨kvs, e1, d⟩ := S.at_.hd
  exact ⟨kvs, e1, by rw [d.some? inr_inj n, e]; rfl, S.setH (d.drop inr_inj n)⟩
end
end N7
namespace N7
open PySem PySem.Spec PyProof.Rows L2
open PySem.W (Datum DatumOrd Holds HoldAll)
/-! ### comprehensions that make data and change nothing -/
section
variable {K : PySem.W.Frag} {β : Type} [DecidableEq β] [Datum β] [FlatM β]
theorem New.refl (H : Hp) : New H H := Ch.refl _ _
theorem New.comp {H H1 H2 : Hp} (a : New H H1) (b : New H1 H2) : New H H2 := Ch.trans a b
theorem New.at {H H1 : Hp} (a : New H H1) {b : Addr} {o : HO} (e : H b = some o) : H1 b = some o := a.keep b o e id
/-- the walk over anything: ys i is what stands behind i turns -/
theorem lcWR {β : Type} {J : It} {n : Nat} {G : Hp → Prop} {Y : Nat → Hp → V → Hp → Prop} (w : Walk J n G Y) (R : Hp → V → β → Prop) (mono : ∀ H H' v b, Tups H H' → R H v b → R H' v b) {g : TG} {tt : TT} {te : TE} {vs : List Nat} {σ : L2.St} {H1 : Hp} {D : Addr} {Qd : Hp → Prop} (ys : Nat → List β)
    (hD : H1 D = none) (hG : ∀ H, New H1 H → G H) (y0 : ys 0 = []) (hz : ∀ i, i ≤ n → (ys i).length ≤ 1000000)
    (hs : ∀ i x H H' (NX : V → Hp → Prop) (SK : Hp → Prop), i < n → New H1 H → Y i H x H' → (∀ y H4 c, New H H4 → R H4 y c → ys (i + 1) = ys i ++ [c] → NX y H4) → (∀ H3, New H H3 → ys (i + 1) = ys i → SK H3) →
      g x (wipe σ vs) H' fun σ2 H2 => wipe σ2 vs = wipe σ vs ∧ tt σ2 H2 fun b H3 => if b = true then te σ2 H3 NX else SK H3)
    (hd : ∀ H vs, New H1 H → H D = some (.lst vs) → Paired (R H) vs (ys n) → Qd H) :
    ∃ W : Nat → Nat → Hp → Prop, (∃ m, W 0 m (upd H1 D (.lst []))) ∧ ∀ i m H, W i m H →
      (J.stop i H ∧ Qd H) ∨ (J.go i H ∧ ∃ Nx : Hp → Prop, (∀ H', Nx H' → ∃ m', m' < m ∧ W (i + 1) m' H') ∧ ∀ x H', J.yld i H x H' → g x (wipe σ vs) H' fun σ2 H2 => wipe σ2 vs = wipe σ vs ∧ tt σ2 H2 fun b H3 =>
        if b = true then te σ2 H3 fun y H4 => ∃ acc, H4 D = some (.lst acc) ∧ acc.length < sizeLine ∧ Nx (upd H4 D (.lst (acc ++ [y]))) else Nx H3) := by
  have mp : ∀ {H H' : Hp} {vs : List V} {bs : List β}, Tups H H' → Paired (R H) vs bs → Paired (R H') vs bs := fun t h => Paired.mapP h fun _ _ r => mono _ _ _ _ t r
  refine lc_it w (fun i H => New H1 H ∧ ∃ vs, H D = some (.lst vs) ∧ Paired (R H) vs (ys i)) ⟨New.fresh hD, [], upd_same, by rw [y0]; exact .nil⟩ (fun i H _ p => hG H p.1) ?_ (fun H ⟨p, vs, e, d⟩ => hd H vs p e d)
  rintro i x H H' hi ⟨p, vs', e, d⟩ hy
  refine hs i x H H' _ _ hi p hy (fun y H4 c h4 dy ey => ?_) (fun H3 h3 ey => ⟨p.comp h3, vs', h3.at e, by rw [ey]; exact mp h3.tup d⟩)
  have e4 := h4.at e
  have up : Tups H4 (upd H4 D (.lst (vs' ++ [y]))) := Tups.upd (by rw [e4]; exact id)
  refine ⟨vs', e4, by rw [Paired.length d]; have := hz i (Nat.le_of_lt hi); rw [sizeLine_eq]; omega, ⟨fun b o q _ => ?_, (p.tup.trans h4.tup).trans up, fun _ f => f.elim, fun b h => p.dom b (h4.dom b (dom_upd b h))⟩, vs' ++ [y], upd_same, by rw [ey]; exact mp up (Paired.app (mp h4.tup d) (Paired.one dy))⟩
  have ne : b ≠ D := ne_of_none q hD
  rw [upd_ne ne]
  exact h4.at (p.at q)
theorem lcW {J : It} {n : Nat} {G : Hp → Prop} {Y : Nat → Hp → V → Hp → Prop} (w : Walk J n G Y) {g : TG} {tt : TT} {te : TE} {vs : List Nat} {σ : L2.St} {H1 : Hp} {D : Addr} {Qd : Hp → Prop} (ys : Nat → List β)
    (hD : H1 D = none) (hG : ∀ H, New H1 H → G H) (y0 : ys 0 = []) (hz : ∀ i, i ≤ n → (ys i).length ≤ 1000000)
    (hs : ∀ i x H H' (NX : V → Hp → Prop) (SK : Hp → Prop), i < n → New H1 H → Y i H x H' → (∀ y H4 c, New H H4 → Dm K H4 y c → ys (i + 1) = ys i ++ [c] → NX y H4) → (∀ H3, New H H3 → ys (i + 1) = ys i → SK H3) →
      g x (wipe σ vs) H' fun σ2 H2 => wipe σ2 vs = wipe σ vs ∧ tt σ2 H2 fun b H3 => if b = true then te σ2 H3 NX else SK H3)
    (hd : ∀ H vs, New H1 H → H D = some (.lst vs) → Dms K H vs (ys n) → Qd H) :
    ∃ W : Nat → Nat → Hp → Prop, (∃ m, W 0 m (upd H1 D (.lst []))) ∧ ∀ i m H, W i m H →
      (J.stop i H ∧ Qd H) ∨ (J.go i H ∧ ∃ Nx : Hp → Prop, (∀ H', Nx H' → ∃ m', m' < m ∧ W (i + 1) m' H') ∧ ∀ x H', J.yld i H x H' → g x (wipe σ vs) H' fun σ2 H2 => wipe σ2 vs = wipe σ vs ∧ tt σ2 H2 fun b H3 =>
        if b = true then te σ2 H3 fun y H4 => ∃ acc, H4 D = some (.lst acc) ∧ acc.length < sizeLine ∧ Nx (upd H4 D (.lst (acc ++ [y]))) else Nx H3) :=
  lcWR w (fun H => Dm K H) (fun _ _ _ _ t r => r.tups t) ys hD hG y0 hz hs fun H vs n e d => hd H vs n e (Dms.ofP d)
theorem lcM {a : Addr} {xs : List V} {g : TG} {tt : TT} {te : TE} {vs : List Nat} {σ : L2.St} {H1 : Hp} {D : Addr} {Qd : Hp → Prop} (ys : Nat → List β)
    (hD : H1 D = none) (src : SqL K H1 a xs) (y0 : ys 0 = []) (hz : ∀ i, i ≤ xs.length → (ys i).length ≤ 1000000)
    (hs : ∀ i x H (NX : V → Hp → Prop) (SK : Hp → Prop), xs[i]? = some x → New H1 H → (∀ y H4 c, New H H4 → Dm K H4 y c → ys (i + 1) = ys i ++ [c] → NX y H4) → (∀ H3, New H H3 → ys (i + 1) = ys i → SK H3) →
      g x (wipe σ vs) H fun σ2 H2 => wipe σ2 vs = wipe σ vs ∧ tt σ2 H2 fun b H3 => if b = true then te σ2 H3 NX else SK H3)
    (hd : ∀ H vs, New H1 H → H D = some (.lst vs) → Dms K H vs (ys xs.length) → Qd H) :
    ∃ W : Nat → Nat → Hp → Prop, (∃ m, W 0 m (upd H1 D (.lst []))) ∧ ∀ i m H, W i m H →
      ((Itl K a).stop i H ∧ Qd H) ∨ ((Itl K a).go i H ∧ ∃ Nx : Hp → Prop, (∀ H', Nx H' → ∃ m', m' < m ∧ W (i + 1) m' H') ∧ ∀ x H', (Itl K a).yld i H x H' → g x (wipe σ vs) H' fun σ2 H2 => wipe σ2 vs = wipe σ vs ∧ tt σ2 H2 fun b H3 =>
        if b = true then te σ2 H3 fun y H4 => ∃ acc, H4 D = some (.lst acc) ∧ acc.length < sizeLine ∧ Nx (upd H4 D (.lst (acc ++ [y]))) else Nx H3) :=
  lcW (walk_list (K := K) (a := a) (xs := xs)) ys hD (fun H n => n.same.seq src) y0 hz (fun i x H H' NX SK hi p y f1 f2 => by
    obtain ⟨e, ex⟩ := y
    subst e
    exact hs i x H' NX SK ex p f1 f2) hd
/-- a comprehension: hi reads what is walked -/
theorem lcT {J : It} {n : Nat} {G : Hp → Prop} {Y : Nat → Hp → V → Hp → Prop} (w : Walk J n G Y) {wi : TI} {g : TG} {tt : TT} {te : TE} {vs : List Nat} {σ : L2.St} {H H1 : Hp} {Q : VK} (hi : ∀ R : It → Hp → Prop, R J H1 → wi σ H R) (ys : Nat → List β)
    (hG : ∀ H, New H1 H → G H) (y0 : ys 0 = []) (hz : ∀ i, i ≤ n → (ys i).length ≤ 1000000)
    (hs : ∀ i x H H' (NX : V → Hp → Prop) (SK : Hp → Prop), i < n → New H1 H → Y i H x H' → (∀ y H4 c, New H H4 → Dm K H4 y c → ys (i + 1) = ys i ++ [c] → NX y H4) → (∀ H3, New H H3 → ys (i + 1) = ys i → SK H3) →
      g x (wipe σ vs) H' fun σ2 H2 => wipe σ2 vs = wipe σ vs ∧ tt σ2 H2 fun b H3 => if b = true then te σ2 H3 NX else SK H3)
    (hd : ∀ D H vs, H1 D = none → New H1 H → H D = some (.lst vs) → Dms K H vs (ys n) → Q (.ref D) H) : tLc wi g tt te vs σ H Q := by
  unfold tLc
  exact hi _ fun D hD => lcW w ys hD hG y0 hz hs fun H vs => hd D H vs hD
theorem lcTR {β : Type} {J : It} {n : Nat} {G : Hp → Prop} {Y : Nat → Hp → V → Hp → Prop} (w : Walk J n G Y) (R : Hp → V → β → Prop) (mono : ∀ H H' v b, Tups H H' → R H v b → R H' v b) {wi : TI} {g : TG} {tt : TT} {te : TE} {vs : List Nat} {σ : L2.St} {H H1 : Hp} {Q : VK} (hi : ∀ R : It → Hp → Prop, R J H1 → wi σ H R) (ys : Nat → List β)
    (hG : ∀ H, New H1 H → G H) (y0 : ys 0 = []) (hz : ∀ i, i ≤ n → (ys i).length ≤ 1000000)
    (hs : ∀ i x H H' (NX : V → Hp → Prop) (SK : Hp → Prop), i < n → New H1 H → Y i H x H' → (∀ y H4 c, New H H4 → R H4 y c → ys (i + 1) = ys i ++ [c] → NX y H4) → (∀ H3, New H H3 → ys (i + 1) = ys i → SK H3) →
      g x (wipe σ vs) H' fun σ2 H2 => wipe σ2 vs = wipe σ vs ∧ tt σ2 H2 fun b H3 => if b = true then te σ2 H3 NX else SK H3)
    (hd : ∀ D H vs, H1 D = none → New H1 H → H D = some (.lst vs) → Paired (R H) vs (ys n) → Q (.ref D) H) : tLc wi g tt te vs σ H Q := by
  unfold tLc
  exact hi _ fun D hD => lcWR w R mono ys hD hG y0 hz hs fun H vs => hd D H vs hD
end
section
variable {X : Cx}
/-- sorted(d), d's keys texts -/
theorem cr_sortedDM (hc : X.calm = true) : CallR X (.builtin "sorted") (fun xs H Q => ∃ (a : Addr) (kvs : List (Key × V)) (ks : List Str), xs = [.ref a] ∧ Rd H a (.dK kvs) ∧ kvs.map (·.1) = ks.map Sum.inr ∧ ks.length < 64 ∧
    ∀ p, H p = none → Q (.ref p) (upd H p (.lst ((sortM ks).map V.str)))) := fun pins s σ H xs us Q I r ⟨a, kvs, ks, e1, e2, e3, e4, q⟩ =>
  call_sortedD hc pins s σ H xs us Q I r ⟨a, kvs, ks, e1, e2, e3, e4, fun ys p hp hs hn => by rw [sortM_S hp hs]; exact q p hn⟩
end
theorem yes_go {te : TE} {σ : L2.St} {H : Hp} {NX : V → Hp → Prop} {SK : Hp → Prop} (h : te σ H NX) : tYes σ H fun b H3 => if b = true then te σ H3 NX else SK H3 := by
  show (if true = true then te σ H NX else SK H)
  rw [if_pos rfl]
  exact h
section
variable {Y : Cx} {K : PySem.W.Frag} {e : Expr} {f : Str} {pos : Pos} {ta : TE}
theorem bl_tup {es : List Expr} {k n : Nat} {t : TGs} (hK : Y.K = K) (hc : Y.calm = true) (h : PGs Y es t) (hn : (assignEach es Y.env).length = n := by rfl) (hst : (assignEach es Y.env).findIdx? (·.1) = none := by rfl) : PG Y (.Tuple es k pos) (gTup K n t) := by
  subst hK
  exact pg_tup hc h hn hst
theorem bl_fld (hK : Y.K = K) (he : PE Y e ta) (hb : attributeBase e f Y.env (eval e Y.env) = eval e Y.env) : PE Y (.Attribute e f pos) (tFld K ta f) := by
  subst hK
  exact pe_fld he hb
end
theorem ln0 : ([] : List V).length ≤ sizeLine := Nat.zero_le _
theorem ln1 {a : V} : [a].length ≤ sizeLine := sz_le (by show 1 ≤ 1000000; decide)
theorem ln2 {a b : V} : [a, b].length ≤ sizeLine := sz_le (by show 2 ≤ 1000000; decide)
theorem ln3 {a b c : V} : [a, b, c].length ≤ sizeLine := sz_le (by show 3 ≤ 1000000; decide)
theorem ln4 {a b c d : V} : [a, b, c, d].length ≤ sizeLine := sz_le (by show 4 ≤ 1000000; decide)
theorem ln12 {a b c : V} : [a].length + [b, c].length ≤ sizeLine := sz_le (by show 3 ≤ 1000000; decide)
theorem hu100 {A : Around} {k : Nat} (hr : Room k A) : A.units + 100 < cLine := by have := hr.un; omega
end N7
namespace N7
open PySem PySem.Spec PyProof.Rows L2
def top (i : Nat) : Stmt := PySem.Challenge.pw_stalesafe_k55_written_and_read.main.body.getD i (.Pass ⟨0, 0, 0, 0⟩)
abbrev s_is_count : Stmt := top 6
abbrev s_is_name : Stmt := top 7
abbrev s_is_pair : Stmt := top 8
abbrev s_is_stamp : Stmt := top 9
abbrev s_is_letter : Stmt := top 14
abbrev s_is_what : Stmt := top 18
abbrev s_need_kind : Stmt := top 23
abbrev s_number_in : Stmt := top 24
abbrev s_stamp_in : Stmt := top 25
abbrev s_letter_in : Stmt := top 26
abbrev s_what_in : Stmt := top 27
abbrev s_words_of : Stmt := top 28
abbrev s_show_stamp : Stmt := top 29
abbrev s_read_stamp : Stmt := top 30
abbrev s_show_letter : Stmt := top 31
abbrev s_read_letter : Stmt := top 32
abbrev s_show_what : Stmt := top 33
abbrev s_read_what : Stmt := top 34
abbrev s_law_pot : Stmt := top 36
abbrev s_law_dip : Stmt := top 37
abbrev s_law_name : Stmt := top 38
abbrev s_law_letter : Stmt := top 39
abbrev s_law_what : Stmt := top 40
abbrev s_law_shown : Stmt := top 41
abbrev s_law_what_shown : Stmt := top 42
abbrev s_law_long_right : Stmt := top 44
abbrev s_law : Stmt := top 45
theorem sc_is_count : FnScope ["thing"] ["thing"] (defScope s_is_count) := ⟨rfl, rfl, rfl, by decide +kernel, rfl, by decide +kernel, by decide +kernel⟩
theorem sc_is_name : FnScope ["thing", "sign"] ["thing"] (defScope s_is_name) := ⟨rfl, rfl, rfl, by decide +kernel, rfl, by decide +kernel, by decide +kernel⟩
theorem sc_is_pair : FnScope ["thing"] ["thing"] (defScope s_is_pair) := ⟨rfl, rfl, rfl, by decide +kernel, rfl, by decide +kernel, by decide +kernel⟩
theorem sc_is_stamp : FnScope ["thing"] ["thing"] (defScope s_is_stamp) := ⟨rfl, rfl, rfl, by decide +kernel, rfl, by decide +kernel, by decide +kernel⟩
theorem sc_is_letter : FnScope ["thing"] ["thing"] (defScope s_is_letter) := ⟨rfl, rfl, rfl, by decide +kernel, rfl, by decide +kernel, by decide +kernel⟩
theorem sc_is_what : FnScope ["thing", "word", "things"] ["thing"] (defScope s_is_what) := ⟨rfl, rfl, rfl, by decide +kernel, rfl, by decide +kernel, by decide +kernel⟩
theorem sc_need_kind : FnScope ["good"] ["good"] (defScope s_need_kind) := ⟨rfl, rfl, rfl, by decide +kernel, rfl, by decide +kernel, by decide +kernel⟩
theorem sc_number_in : FnScope ["word", "sign"] ["word"] (defScope s_number_in) := ⟨rfl, rfl, rfl, by decide +kernel, rfl, by decide +kernel, by decide +kernel⟩
theorem sc_stamp_in : FnScope ["word", "number", "point", "name", "stamp"] ["word"] (defScope s_stamp_in) := ⟨rfl, rfl, rfl, by decide +kernel, rfl, by decide +kernel, by decide +kernel⟩
theorem sc_letter_in : FnScope ["words", "letter", "stamp"] ["words"] (defScope s_letter_in) := ⟨rfl, rfl, rfl, by decide +kernel, rfl, by decide +kernel, by decide +kernel⟩
theorem sc_what_in : FnScope ["words", "what"] ["words"] (defScope s_what_in) := ⟨rfl, rfl, rfl, by decide +kernel, rfl, by decide +kernel, by decide +kernel⟩
theorem sc_words_of : FnScope ["text"] ["text"] (defScope s_words_of) := ⟨rfl, rfl, rfl, by decide +kernel, rfl, by decide +kernel, by decide +kernel⟩
theorem sc_show_stamp : FnScope ["stamp"] ["stamp"] (defScope s_show_stamp) := ⟨rfl, rfl, rfl, by decide +kernel, rfl, by decide +kernel, by decide +kernel⟩
theorem sc_read_stamp : FnScope ["text", "stamp"] ["text"] (defScope s_read_stamp) := ⟨rfl, rfl, rfl, by decide +kernel, rfl, by decide +kernel, by decide +kernel⟩
theorem sc_show_letter : FnScope ["letter"] ["letter"] (defScope s_show_letter) := ⟨rfl, rfl, rfl, by decide +kernel, rfl, by decide +kernel, by decide +kernel⟩
theorem sc_read_letter : FnScope ["text", "letter"] ["text"] (defScope s_read_letter) := ⟨rfl, rfl, rfl, by decide +kernel, rfl, by decide +kernel, by decide +kernel⟩
theorem sc_show_what : FnScope ["what"] ["what"] (defScope s_show_what) := ⟨rfl, rfl, rfl, by decide +kernel, rfl, by decide +kernel, by decide +kernel⟩
theorem sc_read_what : FnScope ["text", "what"] ["text"] (defScope s_read_what) := ⟨rfl, rfl, rfl, by decide +kernel, rfl, by decide +kernel, by decide +kernel⟩
theorem sc_law_pot : FnScope ["_law_script", "_law_k", "_law_cell"] ["_law_script", "_law_k"] (defScope s_law_pot) := ⟨rfl, rfl, rfl, by decide +kernel, rfl, by decide +kernel, by decide +kernel⟩
theorem sc_law_dip : FnScope ["_law_pot_here", "_law_many", "_law_found", "_law_mixed"] ["_law_pot_here", "_law_many"] (defScope s_law_dip) := ⟨rfl, rfl, rfl, by decide +kernel, rfl, by decide +kernel, by decide +kernel⟩
theorem sc_law_name : FnScope ["_law_pot_here", "_law_some", "_law_k"] ["_law_pot_here"] (defScope s_law_name) := ⟨rfl, rfl, rfl, by decide +kernel, rfl, by decide +kernel, by decide +kernel⟩
theorem sc_law_letter : FnScope ["_law_pot_here", "_law_number"] ["_law_pot_here"] (defScope s_law_letter) := ⟨rfl, rfl, rfl, by decide +kernel, rfl, by decide +kernel, by decide +kernel⟩
theorem sc_law_what : FnScope ["_law_pot_here", "_law_name_here", "_law_some"] ["_law_pot_here"] (defScope s_law_what) := ⟨rfl, rfl, rfl, by decide +kernel, rfl, by decide +kernel, by decide +kernel⟩
theorem sc_law_shown : FnScope ["_law_letter_here"] ["_law_letter_here"] (defScope s_law_shown) := ⟨rfl, rfl, rfl, by decide +kernel, rfl, by decide +kernel, by decide +kernel⟩
theorem sc_law_what_shown : FnScope ["_law_what_here", "_law_word"] ["_law_what_here"] (defScope s_law_what_shown) := ⟨rfl, rfl, rfl, by decide +kernel, rfl, by decide +kernel, by decide +kernel⟩
theorem sc_law_long_right : FnScope ["_law_pot_here", "_law_figures", "_law_k", "_law_name_here", "_law_text"] ["_law_pot_here"] (defScope s_law_long_right) := ⟨rfl, rfl, rfl, by decide +kernel, rfl, by decide +kernel, by decide +kernel⟩
theorem sc_law : FnScope ["_law_script", "_law_k", "_law_pot_here", "_law_turn", "_law_stamp", "_law_letter_here", "_law_what_here", "_law_texts", "_law_due", "_law_back"] ["_law_script"] (defScope s_law) := ⟨rfl, rfl, rfl, by decide +kernel, rfl, by decide +kernel, by decide +kernel⟩
structure Df (K : PySem.W.Frag) (x qual : Str) (st : Stmt) (ps : List Str) where
  f : Addr
  fd : FuncData
  F : Fun K x qual st f fd
  b : Binds K fd ps []
structure Md (K : PySem.W.Frag) (C : Addr) (x qual : Str) (st : Stmt) (ps : List Str) extends Df K x qual st ps where
  m : Meth K C x f
structure TX (K : PySem.W.Frag) (mg : Str → Option Value) where
  is_count : Df K "is_count" "is_count" s_is_count ["thing"]
  g_is_count : mg "is_count" = some (.ref is_count.f)
  is_name : Df K "is_name" "is_name" s_is_name ["thing"]
  g_is_name : mg "is_name" = some (.ref is_name.f)
  is_pair : Df K "is_pair" "is_pair" s_is_pair ["thing"]
  g_is_pair : mg "is_pair" = some (.ref is_pair.f)
  is_stamp : Df K "is_stamp" "is_stamp" s_is_stamp ["thing"]
  g_is_stamp : mg "is_stamp" = some (.ref is_stamp.f)
  is_letter : Df K "is_letter" "is_letter" s_is_letter ["thing"]
  g_is_letter : mg "is_letter" = some (.ref is_letter.f)
  is_what : Df K "is_what" "is_what" s_is_what ["thing"]
  g_is_what : mg "is_what" = some (.ref is_what.f)
  need_kind : Df K "need_kind" "need_kind" s_need_kind ["good"]
  g_need_kind : mg "need_kind" = some (.ref need_kind.f)
  number_in : Df K "number_in" "number_in" s_number_in ["word"]
  g_number_in : mg "number_in" = some (.ref number_in.f)
  stamp_in : Df K "stamp_in" "stamp_in" s_stamp_in ["word"]
  g_stamp_in : mg "stamp_in" = some (.ref stamp_in.f)
  letter_in : Df K "letter_in" "letter_in" s_letter_in ["words"]
  g_letter_in : mg "letter_in" = some (.ref letter_in.f)
  what_in : Df K "what_in" "what_in" s_what_in ["words"]
  g_what_in : mg "what_in" = some (.ref what_in.f)
  words_of : Df K "words_of" "words_of" s_words_of ["text"]
  g_words_of : mg "words_of" = some (.ref words_of.f)
  show_stamp : Df K "show_stamp" "show_stamp" s_show_stamp ["stamp"]
  g_show_stamp : mg "show_stamp" = some (.ref show_stamp.f)
  read_stamp : Df K "read_stamp" "read_stamp" s_read_stamp ["text"]
  g_read_stamp : mg "read_stamp" = some (.ref read_stamp.f)
  show_letter : Df K "show_letter" "show_letter" s_show_letter ["letter"]
  g_show_letter : mg "show_letter" = some (.ref show_letter.f)
  read_letter : Df K "read_letter" "read_letter" s_read_letter ["text"]
  g_read_letter : mg "read_letter" = some (.ref read_letter.f)
  show_what : Df K "show_what" "show_what" s_show_what ["what"]
  g_show_what : mg "show_what" = some (.ref show_what.f)
  read_what : Df K "read_what" "read_what" s_read_what ["text"]
  g_read_what : mg "read_what" = some (.ref read_what.f)
  law_pot : Df K "_law_pot" "_law_pot" s_law_pot ["_law_script", "_law_k"]
  g_law_pot : mg "_law_pot" = some (.ref law_pot.f)
  law_dip : Df K "_law_dip" "_law_dip" s_law_dip ["_law_pot_here", "_law_many"]
  g_law_dip : mg "_law_dip" = some (.ref law_dip.f)
  law_name : Df K "_law_name" "_law_name" s_law_name ["_law_pot_here"]
  g_law_name : mg "_law_name" = some (.ref law_name.f)
  law_letter : Df K "_law_letter" "_law_letter" s_law_letter ["_law_pot_here"]
  g_law_letter : mg "_law_letter" = some (.ref law_letter.f)
  law_what : Df K "_law_what" "_law_what" s_law_what ["_law_pot_here"]
  g_law_what : mg "_law_what" = some (.ref law_what.f)
  law_shown : Df K "_law_shown" "_law_shown" s_law_shown ["_law_letter_here"]
  g_law_shown : mg "_law_shown" = some (.ref law_shown.f)
  law_what_shown : Df K "_law_what_shown" "_law_what_shown" s_law_what_shown ["_law_what_here"]
  g_law_what_shown : mg "_law_what_shown" = some (.ref law_what_shown.f)
  law_long_right : Df K "_law_long_right" "_law_long_right" s_law_long_right ["_law_pot_here"]
  g_law_long_right : mg "_law_long_right" = some (.ref law_long_right.f)
  law : Df K "law" "law" s_law ["_law_script"]
  g_law : mg "law" = some (.ref law.f)
  t_LETTERS : Tok
  g_LETTERS : mg "LETTERS" = some (.str "abcdefghijklmnopqrstuvwxyz" t_LETTERS)
  t_MOST_LETTERS : Tok
  g_MOST_LETTERS : mg "MOST_LETTERS" = some (.int 8 t_MOST_LETTERS)
  t_STAMP : Tok
  g_STAMP : mg "STAMP" = some (.str "stamp" t_STAMP)
  a_ASK : Addr
  g_ASK : mg "ASK" = some (.ref a_ASK)
  k_ASK : ∀ H, SqT K H a_ASK [.str "ask"]
  a_FLOOR : Addr
  g_FLOOR : mg "FLOOR" = some (.ref a_FLOOR)
  k_FLOOR : ∀ H, SqT K H a_FLOOR [.str "floor"]
  a_ALONE : Addr
  g_ALONE : mg "ALONE" = some (.ref a_ALONE)
  k_ALONE : ∀ H, SqT K H a_ALONE [.str "want", .str "forgo", .str "done"]
  a_ROADS : Addr
  g_ROADS : mg "ROADS" = some (.ref a_ROADS)
  k_ROADS : ∀ H, SqT K H a_ROADS [.str "join", .str "part"]
  t_FIGURES : Tok
  g_FIGURES : mg "FIGURES" = some (.str "0123456789" t_FIGURES)
  t_POINT : Tok
  g_POINT : mg "POINT" = some (.str "." t_POINT)
  t_BLANK : Tok
  g_BLANK : mg "BLANK" = some (.str " " t_BLANK)
  z_len : mg "len" = none
  z_max : mg "max" = none
  z_min : mg "min" = none
  z_isinstance : mg "isinstance" = none
  z_all : mg "all" = none
  z_range : mg "range" = none
  z_int : mg "int" = none
  z_tuple : mg "tuple" = none
  z_repr : mg "repr" = none
  z_str : mg "str" = none
  z_bool : mg "bool" = none

end N7
namespace N7
open PySem PySem.Spec PyProof.Rows L2
open PySem.W (Datum DatumOrd Holds HoldAll)
local macro_rules | `(tactic| l_intsW) => `(tactic| dsimp only [tSeq, tNext, tAsg, tDrop, tBM, tBM0, tCons, tNil, tRet, tRetN, tIfS, tTest, tOp, tC, tTup, tLst, tCB, tIf, tAndV, tOrV, tNotV, tDGet, tDIn, tDNotIn, sDPut, sDDel, tCall, tMeth, tMake, sFld, tSl, tPart, tNoPart, cxOf, Cx.nox, Cx.wish, List.map_cons, List.map_nil])
section
theorem seq_cut {t u : TS} {D : Ends} {σ : L2.St} {H : Hp} (R : L2.St → Hp → Prop) (hr : ∀ σ H, R σ H → u D σ H) (ht : ∀ NX, (∀ σ H, R σ H → NX σ H) → t { D with nx := NX } σ H) : tSeq t u D σ H := ht _ hr
theorem seq_i {t u : TS} {D : Ends} {σ : L2.St} {H : Hp} (h : t { D with nx := u D } σ H) : tSeq t u D σ H := h
theorem fld_i {K : PySem.W.Frag} {ta tv : TE} {f : Str} {D : Ends} {σ : L2.St} {H : Hp} (h : tv σ H fun y H1 => ta σ H1 fun x H2 => ∃ a C dx fs, x = .ref a ∧ H2 a = some (.ins C dx fs) ∧ Cls K C ∧ NoAttr K C f ∧ fs.length < 1000 ∧ D.nx σ (upd H2 a (.ins C dx (putF f y fs)))) : sFld K ta tv f D σ H := h
theorem asg_i {te : TE} {g : TG} {D : Ends} {σ : L2.St} {H : Hp} (h : te σ H fun x H1 => g x σ H1 D.nx) : tAsg te g D σ H := h
theorem ret_i {te : TE} {D : Ends} {σ : L2.St} {H : Hp} (h : te σ H D.rt) : tRet te D σ H := h
variable {P : Program} {w : World} {K : PySem.W.Frag} {mg : Str → Option Value} {base : Heap}
theorem TX.d_floor (T : TX K mg) (H : Hp) : Dm K H (.ref T.a_FLOOR) Letter.floor := Dp.tup (T.k_FLOOR H) (.cons (.str _) .nil)
theorem TX.d_ask (T : TX K mg) (H : Hp) : Dm K H (.ref T.a_ASK) Letter.ask := Dp.tup (T.k_ASK H) (.cons (.str _) .nil)
end
end N7
namespace N7
open PySem PySem.Spec PyProof.Rows L2
open PySem.W (Datum DatumOrd Holds HoldAll)
local macro_rules | `(tactic| l_intsW) => `(tactic| dsimp only [tSeq, tNext, tAsg, tDrop, tBM, tBM0, tCons, tNil, tRet, tRetN, tIfS, tTest, tOp, tC, tTup, tLst, tCB, tIf, tAndV, tOrV, tNotV, tDGet, tDIn, tDNotIn, sDPut, sDDel, tCall, tMeth, tMake, sFld, tSl, tPart, tNoPart, cxOf, Cx.nox, Cx.wish, List.map_cons, List.map_nil])
/-- a name -/
def nameB (n : Str) : Bool := decide (1 ≤ n.length) && decide (n.length ≤ 8) && n.cps.toList.all fun c => decide (c ∈ ("abcdefghijklmnopqrstuvwxyz" : Str).cps.toList)
section
theorem Dms.toBl {K : PySem.W.Frag} {H : Hp} : ∀ {vs : List V} {bs : List Bool}, Dms K H vs bs → vs = bs.map V.bl
  | _, [], h => by cases h; rfl
  | _, b :: bs, h => by
    cases h with
    | cons a r => cases a; rw [Dms.toBl (bs := bs) r]; rfl
instance : FlatM Bool := ⟨fun _ => by show flatD (.bool _) = true; simp only [flatD]⟩
variable {P : Program} {w : World} {K : PySem.W.Frag} {mg : Str → Option Value} {base : Heap}
def spIsName : Sp := fun vs H Q _ => ∃ n : Str, vs = [.str n] ∧ n.length ≤ 1000000 ∧ ∀ H', New H H' → Q (.bl (nameB n)) H'
theorem ok_is_name (T : TX K mg) : FnOk P w K mg base CX0 1 T.is_name.f T.is_name.fd ["thing"] spIsName := by
  have nd := sc_is_name.nd
  refine T.is_name.F.ok sc_is_name (fun vs H Q E h => ?_) (fun cdv A outer s H vs Q E hr h => ?_)
  · obtain ⟨n, rfl, _⟩ := h
    rfl
  · obtain ⟨n, rfl, hl, k⟩ := h
    have hu := hu_of hr
    refine ⟨_, (pss_cons (ps_if (PW.pt (pw_or (pt_not (pt_val (pe_callB call_isi (by rfl) T.z_isinstance (by decide +kernel) (pa_cons (pv 0) (pa_cons (pe_bltn (v := .ty "str") (by rfl) T.z_str (by decide +kernel) rfl) pa_nil))))) (pw_or1 (pt_not (pt_chain op_le op_le pe_int (pe_callB call_len_str (by rfl) T.z_len PySem.boot_len (pa_cons (pv 0) pa_nil)) (pe_glob (v := .int 8) rfl T.g_MOST_LETTERS ⟨_, rfl⟩)))))) (pss_one (ps_ret pe_bl)) pss_nil)
    (pss_one (ps_ret (pe_callB (cr_all rfl) (by rfl) T.z_all (by decide +kernel) (pa_cons (pe_lc (own := [("sign", 1)]) (g := gName 1) (tt := tYes) rfl nd (pi_str (pv 0)) (blkOk_by (N := ["thing", "sign"]) (sc := defScope s_is_name) (by decide +kernel)) (fun _ _ _ _ _ => (pg_name (i := 1) nd rfl (Or.inl rfl))) (fun _ _ _ _ _ => pts_nil) (fun _ _ _ _ _ => (pe_cmpR op_in_sign (pv 1) (pe_glob (v := .str "abcdefghijklmnopqrstuvwxyz") rfl T.g_LETTERS ⟨_, rfl⟩) (by rfl)))) pa_nil))))), ?_⟩
    refine ⟨_, rfl, _, _, _, _, true, rfl, .ty "str", .base (.str _), kit_ty (by decide +kernel), true, rfl, ?_⟩
    refine iteF ?_
    refine ⟨_, rfl, n, rfl, sz_le hl, _, _, rfl, rfl, decide ((1 : Int) ≤ n.length), rfl, ?_⟩
    have out : (1 ≤ n.length ∧ n.length ≤ 8 → False) → Q (.bl false) H := fun c => by
      have e : nameB n = false := by
        unfold nameB
        by_cases c1 : 1 ≤ n.length
        · rw [decide_eq_false (fun c2 : n.length ≤ 8 => c ⟨c1, c2⟩)]; simp
        · rw [decide_eq_false c1]; simp
      rw [← e]
      exact k H (New.refl H)
    by_cases c1 : 1 ≤ n.length
    · rw [decide_eq_true (show (1 : Int) ≤ n.length by omega)]
      refine iteT ⟨_, _, rfl, rfl, decide ((n.length : Int) ≤ 8), rfl, ?_⟩
      by_cases c2 : n.length ≤ 8
      · rw [decide_eq_true (by omega)]
        refine iteF ?_
        have lz : n.cps.toList.length = n.cps.size := Array.length_toList
        have lz2 : n.cps.size = n.length := rfl
        l_intsW
        refine lcT (K := K) walk_str (fun R q => ⟨_, rfl, _, rfl, q⟩) (fun i => (n.cps.toList.take i).map fun c => decide (c ∈ ("abcdefghijklmnopqrstuvwxyz" : Str).cps.toList)) (fun _ _ => trivial) rfl (fun i _ => ?_) ?_ ?_
        · rw [List.length_map, List.length_take]; omega
        · rintro i x H1 H1' NX SK hi n1 ⟨rfl, c, ec, rfl⟩ f1 f2
          refine ⟨rfl, yes_go ?_⟩
          refine ⟨_, rfl, c, _, rfl, rfl, f1 _ _ _ (New.refl _) (Dp.bl _) ?_⟩
          have ec' : n.cps.toList[i]? = some c := by rw [Array.getElem?_toList]; exact ec
          rw [List.take_add_one, ec', List.map_append]
          rfl
        · intro D H1 vs hD n1 e d
          rw [← lz, List.take_length] at d
          refine ⟨D, _, rfl, by rw [← d.toBl]; exact SqL.of e, ?_⟩
          have e : nameB n = ((n.cps.toList.map fun c => decide (c ∈ ("abcdefghijklmnopqrstuvwxyz" : Str).cps.toList)).all id) := by
            unfold nameB
            rw [decide_eq_true c1, decide_eq_true c2, List.all_map]
            rfl
          rw [← e]
          exact k H1 n1
      · rw [decide_eq_false (by omega)]
        exact iteT (out fun z => c2 z.2)
    · rw [decide_eq_false (by omega)]
      exact iteF ⟨_, rfl, iteT (out fun z => c1 z.1)⟩
end
end N7
namespace N7
open PySem PySem.Spec PyProof.Rows L2
open PySem.W (Datum DatumOrd Holds HoldAll)
local macro_rules | `(tactic| l_intsW) => `(tactic| dsimp only [tSeq, tNext, tAsg, tDrop, tBM, tBM0, tCons, tNil, tRet, tRetN, tIfS, tTest, tOp, tC, tTup, tLst, tCB, tIf, tAndV, tOrV, tNotV, tDGet, tDIn, tDNotIn, sDPut, sDDel, tCall, tMeth, tMake, sFld, tSl, tPart, tNoPart, cxOf, Cx.nox, Cx.wish, List.map_cons, List.map_nil])
section
theorem tyx_tup {K : PySem.W.Frag} {H : Hp} {a : Addr} {xs : List V} (h : SqT K H a xs) : TyX K H (.ref a) (.type "tuple") := by
  rcases h with (h | ⟨o, h⟩) | ⟨o, its, n, h, c, _⟩
  · exact .base (.tup h)
  · exact .fTuple h
  · exact .kTuple h c
/-- a stamp, a letter that a hand may send -/
def okS (s : Stp) : Prop := 0 ≤ s.1 ∧ nameB s.2 = true
def okL : Letter → Prop
  | .stamp s => okS s
  | _ => True
theorem nameB_len {n : Str} (h : nameB n = true) : n.length ≤ 1000000 := by
  unfold nameB at h
  rw [Bool.and_eq_true, Bool.and_eq_true] at h
  have := of_decide_eq_true h.1.2
  omega
variable {P : Program} {w : World} {K : PySem.W.Frag} {mg : Str → Option Value} {base : Heap}
def spCount : Sp := fun vs H Q _ => ∃ i : Int, vs = [.int i] ∧ Q (.bl (decide (0 ≤ i))) H
theorem ok_is_count (T : TX K mg) : FnOk P w K mg base CX0 1 T.is_count.f T.is_count.fd ["thing"] spCount := by
  have nd := sc_is_count.nd
  refine T.is_count.F.ok sc_is_count (fun vs H Q E h => ?_) (fun cdv A outer s H vs Q E hr h => ?_)
  · obtain ⟨n, rfl, _⟩ := h
    rfl
  · obtain ⟨i, rfl, k⟩ := h
    refine ⟨_, (pss_one (ps_ret (pe_and (pe_callB call_isi (by rfl) T.z_isinstance (by decide +kernel) (pa_cons (pv 0) (pa_cons (pe_bltn (v := .ty "int") (by rfl) T.z_int (by decide +kernel) rfl) pa_nil))) (pe_and (pe_not (pe_callB call_isi (by rfl) T.z_isinstance (by decide +kernel) (pa_cons (pv 0) (pa_cons (pe_bltn (v := .ty "bool") (by rfl) T.z_bool (by decide +kernel) rfl) pa_nil)))) (pe_one (pe_cmpR op_ge (pv 0) pe_int (nomark _))))))), ?_⟩
    refine ⟨_, rfl, _, _, _, _, true, rfl, .ty "int", .base (.int _), kit_ty (by decide +kernel), true, rfl, ?_⟩
    refine iteT ⟨_, rfl, _, _, _, _, false, rfl, .ty "bool", .base (.int _), kit_ty (by decide +kernel), false, rfl, _, rfl, ?_⟩
    exact iteT ⟨_, rfl, _, _, rfl, rfl, k⟩
def spPair (K : PySem.W.Frag) : Sp := fun vs H Q _ => ∃ a xs, vs = [.ref a] ∧ SqT K H a xs ∧ Q (.bl (decide (xs.length = 2))) H
theorem ok_is_pair (T : TX K mg) : FnOk P w K mg base CX0 1 T.is_pair.f T.is_pair.fd ["thing"] (spPair K) := by
  have nd := sc_is_pair.nd
  refine T.is_pair.F.ok sc_is_pair (fun vs H Q E h => ?_) (fun cdv A outer s H vs Q E hr h => ?_)
  · obtain ⟨a, xs, rfl, _⟩ := h
    rfl
  · obtain ⟨a, xs, rfl, sq, k⟩ := h
    refine ⟨_, (pss_one (ps_ret (pe_and (pe_callB call_isi (by rfl) T.z_isinstance (by decide +kernel) (pa_cons (pv 0) (pa_cons (pe_bltn (v := .ty "tuple") (by rfl) T.z_tuple (by decide +kernel) rfl) pa_nil))) (pe_one (pe_cmpR op_eq (pe_callB call_len_seq (by rfl) T.z_len PySem.boot_len (pa_cons (pv 0) pa_nil)) pe_int (nomark _)))))), ?_⟩
    refine ⟨_, rfl, _, _, _, _, true, rfl, .ty "tuple", tyx_tup sq, kit_ty (by decide +kernel), true, rfl, ?_⟩
    refine iteT ⟨_, rfl, _, _, rfl, .inr sq, rfl, ?_⟩
    have e : decide (V.int (xs.length : Int) = V.int 2) = decide (xs.length = 2) := decide_eq_decide.mpr ⟨fun z => by have := V.int.inj z; omega, fun z => by rw [z]; rfl⟩
    show Q (.bl (decide (V.int (xs.length : Int) = V.int 2))) H
    rw [e]
    exact k
def spStp (K : PySem.W.Frag) : Sp := fun vs H Q _ => ∃ a s, vs = [.ref a] ∧ SqT K H a [.int s.1, .str s.2] ∧ okS s ∧ ∀ H', New H H' → Q (.bl true) H'
theorem ok_is_stamp (T : TX K mg) : FnOk P w K mg base CX0 2 T.is_stamp.f T.is_stamp.fd ["thing"] (spStp K) := by
  have nd := sc_is_stamp.nd
  refine T.is_stamp.F.ok sc_is_stamp (fun vs H Q E h => ?_) (fun cdv A outer s H vs Q E hr h => ?_)
  · obtain ⟨a, s, rfl, _⟩ := h
    rfl
  · obtain ⟨a, st, rfl, sq, ⟨o1, o2⟩, k⟩ := h
    refine ⟨_, (pss_one (ps_ret (pe_and (pe_call (ok_is_pair T) (hr.mono (by decide)) rfl T.g_is_pair T.is_pair.F.kp T.is_pair.b .nil pass0 (pa_cons (pv 0) pa_nil)) (pe_and (pe_call (ok_is_count T) (hr.mono (by decide)) rfl T.g_is_count T.is_count.F.kp T.is_count.b .nil pass0 (pa_cons (pe_ix ix_tup (pv 0) pe_int (fun _ _ => rfl)) pa_nil)) (pe_one (pe_call (ok_is_name T) (hr.mono (by decide)) rfl T.g_is_name T.is_name.F.kp T.is_name.b .nil pass0 (pa_cons (pe_ix ix_tup (pv 0) pe_int (fun _ _ => rfl)) pa_nil))))))), ?_⟩
    refine ⟨_, rfl, a, _, rfl, sq, true, rfl, ?_⟩
    refine iteT ⟨_, rfl, _, _, _, _, rfl, rfl, sq, atI_nat (j := 0) rfl, _, rfl, true, by rw [decide_eq_true o1], ?_⟩
    refine iteT ⟨_, rfl, _, _, _, _, rfl, rfl, sq, atI_nat (j := 1) rfl, _, rfl, nameB_len o2, fun H' n' => ?_⟩
    rw [o2]
    exact k H' n'
def spLetter (K : PySem.W.Frag) : Sp := fun vs H Q _ => ∃ v l, vs = [v] ∧ Dm K H v (l : Letter) ∧ okL l ∧ ∀ H', New H H' → Q (.bl true) H'
theorem let_sq {K : PySem.W.Frag} {H : Hp} {v : V} {l : Letter} (d : Dm K H v l) : ∃ a, v = .ref a ∧ ((l = .ask ∧ SqT K H a [.str "ask"]) ∨ (l = .floor ∧ SqT K H a [.str "floor"]) ∨ ∃ s, l = .stamp s ∧ SqT K H a [.str "stamp", .int s.1, .str s.2]) := by
  cases l with
  | ask =>
    cases d with
    | tup hs ha => cases ha with
      | cons a b => cases a; cases b; exact ⟨_, rfl, .inl ⟨rfl, hs⟩⟩
  | floor =>
    cases d with
    | tup hs ha => cases ha with
      | cons a b => cases a; cases b; exact ⟨_, rfl, .inr (.inl ⟨rfl, hs⟩)⟩
  | stamp s =>
    cases d with
    | tup hs ha => cases ha with
      | cons a b => cases a; cases b with
        | cons c e => cases c; cases e with
          | cons f g => cases f; cases g; exact ⟨_, rfl, .inr (.inr ⟨s, rfl, hs⟩)⟩
theorem ok_is_letter (T : TX K mg) : FnOk P w K mg base CX0 3 T.is_letter.f T.is_letter.fd ["thing"] (spLetter K) := by
  have nd := sc_is_letter.nd
  refine T.is_letter.F.ok sc_is_letter (fun vs H Q E h => ?_) (fun cdv A outer s H vs Q E hr h => ?_)
  · obtain ⟨a, s, rfl, _⟩ := h
    rfl
  · obtain ⟨v, l, rfl, d, ok, k⟩ := h
    refine ⟨_, (pss_cons (ps_if (PW.pt (pw_or (pt_not (pt_val (pe_callB call_isi (by rfl) T.z_isinstance (by decide +kernel) (pa_cons (pv 0) (pa_cons (pe_bltn (v := .ty "tuple") (by rfl) T.z_tuple (by decide +kernel) rfl) pa_nil))))) (pw_or (pt_cmpR (op_notInTM (α := Int) (hu100 hr)) (pe_callB call_len_seq (by rfl) T.z_len PySem.boot_len (pa_cons (pv 0) pa_nil)) (pe_tup (pa_cons pe_int (pa_cons pe_int pa_nil))) (by rfl)) (pw_or1 (pt_not (pt_val (pe_callB call_isi (by rfl) T.z_isinstance (by decide +kernel) (pa_cons (pe_ix ix_tup (pv 0) pe_int (fun _ _ => rfl)) (pa_cons (pe_bltn (v := .ty "str") (by rfl) T.z_str (by decide +kernel) rfl) pa_nil))))))))) (pss_one (ps_ret pe_bl)) pss_nil)
    (pss_cons (ps_if (pt_cmpR op_eq (pe_callB call_len_seq (by rfl) T.z_len PySem.boot_len (pa_cons (pv 0) pa_nil)) pe_int (nomark _)) (pss_one (ps_ret (pe_cmpR (op_inTM (α := Letter) (hu100 hr)) (pv 0) (pe_tup (pa_cons (pe_glob (v := .ref T.a_ASK) rfl T.g_ASK rfl) (pa_cons (pe_glob (v := .ref T.a_FLOOR) rfl T.g_FLOOR rfl) pa_nil))) (by rfl)))) pss_nil)
    (pss_one (ps_ret (pe_and (pe_cmpR op_eq (pe_ix ix_tup (pv 0) pe_int (fun _ _ => rfl)) (pe_glob (v := .str "stamp") rfl T.g_STAMP ⟨_, rfl⟩) (nomark _)) (pe_one (pe_call (ok_is_stamp T) (hr.mono (by decide)) rfl T.g_is_stamp T.is_stamp.F.kp T.is_stamp.b .nil pass0 (pa_cons (pe_slice sl_tup (pv 0) (po_some pe_int) po_none) pa_nil)))))))), ?_⟩
    obtain ⟨a, rfl, c⟩ := let_sq d
    rcases c with ⟨rfl, sq⟩ | ⟨rfl, sq⟩ | ⟨st, rfl, sq⟩
    · refine ⟨_, rfl, _, _, _, _, true, rfl, .ty "tuple", tyx_tup sq, kit_ty (by decide +kernel), true, rfl, ?_⟩
      refine iteF ⟨_, rfl, _, _, rfl, .inr sq, ln2, fun q hq => ?_⟩
      have n1 : New H (upd H q (.tup [.int 1, .int 3])) := New.fresh hq
      refine ⟨q, 1, _, [1, 3], Dm.int 1, rfl, SqT.of upd_same, Dms.int [1, 3], false, rfl, ?_⟩
      have sq1 := n1.tup.sqT sq
      refine iteF ⟨_, rfl, _, _, _, _, rfl, rfl, sq1, atI_nat (j := 0) rfl, _, _, _, _, true, rfl, .ty "str", .base (.str _), kit_ty (by decide +kernel), true, rfl, ?_⟩
      refine iteF ⟨_, rfl, _, _, rfl, .inr sq1, rfl, _, rfl, ?_⟩
      refine iteT ⟨_, rfl, ln2, fun q2 hq2 => ?_⟩
      have n2 : New (upd H q (.tup [.int 1, .int 3])) (upd (upd H q (.tup [.int 1, .int 3])) q2 (.tup [.ref T.a_ASK, .ref T.a_FLOOR])) := New.fresh hq2
      refine ⟨q2, _, _, [.ask, .floor], (d.tups n1.tup).tups n2.tup, rfl, SqT.of upd_same, Dms.cons (T.d_ask _) (Dms.one (T.d_floor _)), ?_⟩
      exact k _ (n1.comp n2)
    · refine ⟨_, rfl, _, _, _, _, true, rfl, .ty "tuple", tyx_tup sq, kit_ty (by decide +kernel), true, rfl, ?_⟩
      refine iteF ⟨_, rfl, _, _, rfl, .inr sq, ln2, fun q hq => ?_⟩
      have n1 : New H (upd H q (.tup [.int 1, .int 3])) := New.fresh hq
      refine ⟨q, 1, _, [1, 3], Dm.int 1, rfl, SqT.of upd_same, Dms.int [1, 3], false, rfl, ?_⟩
      have sq1 := n1.tup.sqT sq
      refine iteF ⟨_, rfl, _, _, _, _, rfl, rfl, sq1, atI_nat (j := 0) rfl, _, _, _, _, true, rfl, .ty "str", .base (.str _), kit_ty (by decide +kernel), true, rfl, ?_⟩
      refine iteF ⟨_, rfl, _, _, rfl, .inr sq1, rfl, _, rfl, ?_⟩
      refine iteT ⟨_, rfl, ln2, fun q2 hq2 => ?_⟩
      have n2 : New (upd H q (.tup [.int 1, .int 3])) (upd (upd H q (.tup [.int 1, .int 3])) q2 (.tup [.ref T.a_ASK, .ref T.a_FLOOR])) := New.fresh hq2
      refine ⟨q2, _, _, [.ask, .floor], (d.tups n1.tup).tups n2.tup, rfl, SqT.of upd_same, Dms.cons (T.d_ask _) (Dms.one (T.d_floor _)), ?_⟩
      exact k _ (n1.comp n2)
    · obtain ⟨o1, o2⟩ := ok
      refine ⟨_, rfl, _, _, _, _, true, rfl, .ty "tuple", tyx_tup sq, kit_ty (by decide +kernel), true, rfl, ?_⟩
      refine iteF ⟨_, rfl, _, _, rfl, .inr sq, ln2, fun q hq => ?_⟩
      have n1 : New H (upd H q (.tup [.int 1, .int 3])) := New.fresh hq
      refine ⟨q, 3, _, [1, 3], Dm.int 3, rfl, SqT.of upd_same, Dms.int [1, 3], false, rfl, ?_⟩
      have sq1 := n1.tup.sqT sq
      refine iteF ⟨_, rfl, _, _, _, _, rfl, rfl, sq1, atI_nat (j := 0) rfl, _, _, _, _, true, rfl, .ty "str", .base (.str _), kit_ty (by decide +kernel), true, rfl, ?_⟩
      refine iteF ⟨_, rfl, _, _, rfl, .inr sq1, rfl, _, rfl, ?_⟩
      refine iteF ⟨_, rfl, _, _, _, _, rfl, rfl, sq1, atI_nat (j := 0) rfl, rfl, true, rfl, ?_⟩
      refine iteT ⟨_, rfl, 1, rfl, _, _, rfl, sq1, (by show ¬ (HT.sIx 3 0 (some 1) = 0 ∧ HT.sIx 3 3 none = 3); decide), fun q2 hq2 => ?_⟩
      refine ⟨q2, st, rfl, SqT.of upd_same, ⟨o1, o2⟩, fun H' n' => k H' ((n1.comp (New.fresh hq2)).comp n')⟩
end
end N7
namespace N7
open PySem PySem.Spec PyProof.Rows L2
open PySem.W (Datum DatumOrd Holds HoldAll)
/-! ### what is written: plain laws -/
/-- a number's figures -/
def numT (n : Nat) : Str := Str.ofString (toString ((n : Nat) : Int))
def stT (s : Stp) : Str := numT s.1.toNat ++ "." ++ s.2
def letT : Letter → Str
  | .stamp s => "stamp" ++ " " ++ stT s
  | .ask => "ask"
  | .floor => "floor"
def letW : Letter → List Str
  | .stamp s => ["stamp", stT s]
  | .ask => ["ask"]
  | .floor => ["floor"]
def whatT : What → Str
  | .want => Txt.join " " ["want"]
  | .forgo => Txt.join " " ["forgo"]
  | .done => Txt.join " " ["done"]
  | .join n => Txt.join " " ["join", n]
  | .part n => Txt.join " " ["part", n]
  | .hear n l => Txt.join " " ["hear", n, letT l]
def whatW : What → List Str
  | .want => ["want"]
  | .forgo => ["forgo"]
  | .done => ["done"]
  | .join n => ["join", n]
  | .part n => ["part", n]
  | .hear n l => "hear" :: n :: letW l
/-- a stamp whose number is not too long -/
def okT (s : Stp) : Prop := (∃ n : Nat, s.1 = n ∧ n < 10 ^ 2000) ∧ nameB s.2 = true
def okTL : Letter → Prop
  | .stamp s => okT s
  | _ => True
def okW : What → Prop
  | .join n => nameB n = true
  | .part n => nameB n = true
  | .hear n l => nameB n = true ∧ okTL l
  | _ => True
theorem okT.okS {s : Stp} (h : okT s) : okS s := by
  obtain ⟨⟨n, e, _⟩, h2⟩ := h
  exact ⟨by rw [e]; omega, h2⟩
theorem okTL.okL {l : Letter} (h : okTL l) : okL l := by
  cases l with
  | stamp s => exact okT.okS h
  | ask => trivial
  | floor => trivial
theorem name_low {n : Str} (h : nameB n = true) : ∀ c ∈ TL.tl n, 97 ≤ c ∧ c ≤ 122 := by
  unfold nameB at h
  rw [Bool.and_eq_true] at h
  have h2 := List.all_eq_true.mp h.2
  intro c hc
  have := of_decide_eq_true (h2 c hc)
  revert this
  have e : ("abcdefghijklmnopqrstuvwxyz" : Str).cps.toList = [97, 98, 99, 100, 101, 102, 103, 104, 105, 106, 107, 108, 109, 110, 111, 112, 113, 114, 115, 116, 117, 118, 119, 120, 121, 122] := by decide +kernel
  rw [e]
  intro m
  simp only [List.mem_cons, List.not_mem_nil, or_false] at m
  omega
theorem name_len {n : Str} (h : nameB n = true) : 1 ≤ n.length ∧ n.length ≤ 8 := by
  unfold nameB at h
  rw [Bool.and_eq_true, Bool.and_eq_true] at h
  exact ⟨of_decide_eq_true h.1.1, of_decide_eq_true h.1.2⟩
theorem name_free {n : Str} {c : Nat} (h : nameB n = true) (hc : c < 97) : c ∉ TL.tl n := fun m => by
  have := name_low h c m
  omega
theorem tlW (x : Str) : TL.tl x = x.cps.toList := rfl
theorem tl_sp : TL.tl (" " : Str) = [32] := by decide +kernel
theorem tl_pt : TL.tl ("." : Str) = [46] := by decide +kernel
theorem num_free {n c : Nat} (h : c < 48 ∨ 57 < c) : c ∉ TL.tl (numT n) := by
  unfold numT
  rw [TL.tl_num]
  exact TL.numL_free h
theorem st_free {s : Stp} (h : nameB s.2 = true) : 32 ∉ TL.tl (stT s) := by
  unfold stT
  rw [TL.tl_append, TL.tl_append, tl_pt, List.mem_append, List.mem_append]
  rintro ((m | m) | m)
  · exact num_free (by omega) m
  · rw [List.mem_singleton] at m; omega
  · exact name_free h (by omega) m
theorem st_part {s : Stp} : Txt.partition (stT s) "." = (numT s.1.toNat, ("." : Str), s.2) := TL.partition_app tl_pt (num_free (by omega))
theorem letT_join (l : Letter) : letT l = Txt.join " " (letW l) := by
  rw [TL.join_eq]
  refine TL.ext_tl ?_
  rw [TL.tl_join]
  cases l with
  | stamp s =>
    show TL.tl ("stamp" ++ " " ++ stT s) = TL.tl "stamp" ++ (TL.tl " " ++ TL.tl (stT s))
    rw [TL.tl_append, TL.tl_append, List.append_assoc]
  | ask => rfl
  | floor => rfl
theorem whatT_join (w : What) : whatT w = Txt.join " " (whatW w) := by
  cases w with
  | hear n l =>
    show Txt.join " " ["hear", n, letT l] = Txt.join " " ("hear" :: n :: letW l)
    rw [letT_join, TL.join_eq, TL.join_eq, TL.join_eq]
    refine TL.ext_tl ?_
    rw [TL.tl_join, TL.tl_join, List.map_cons, List.map_cons, List.map_cons, List.map_cons, List.map_cons, List.map_nil, TL.tl_join]
    cases l with
    | stamp s => rfl
    | ask => rfl
    | floor => rfl
  | _ => rfl
theorem all_sp : ((" " : Str)).cps.all (· < 256) = true := by decide +kernel
theorem let_free {l : Letter} (h : okTL l) : ∀ p ∈ letW l, 32 ∉ TL.tl p := by
  cases l with
  | stamp s =>
    intro p hp
    rcases List.mem_cons.mp hp with rfl | hp
    · decide +kernel
    · rw [List.mem_singleton.mp hp]; exact st_free h.2
  | ask =>
    intro p hp
    rw [List.mem_singleton.mp hp]; decide +kernel
  | floor =>
    intro p hp
    rw [List.mem_singleton.mp hp]; decide +kernel
theorem let_split {l : Letter} (h : okTL l) : Txt.split (letT l) " " = letW l := by
  rw [letT_join]
  exact TL.split_join tl_sp all_sp (by cases l <;> simp [letW]) (let_free h)
theorem what_free {w : What} (h : okW w) : ∀ p ∈ whatW w, 32 ∉ TL.tl p := by
  cases w with
  | hear n l =>
    intro p hp
    rcases List.mem_cons.mp hp with rfl | hp
    · decide +kernel
    · rcases List.mem_cons.mp hp with rfl | hp
      · exact name_free h.1 (by omega)
      · exact let_free h.2 p hp
  | join n =>
    intro p hp
    rcases List.mem_cons.mp hp with rfl | hp
    · decide +kernel
    · rw [List.mem_singleton.mp hp]; exact name_free h (by omega)
  | part n =>
    intro p hp
    rcases List.mem_cons.mp hp with rfl | hp
    · decide +kernel
    · rw [List.mem_singleton.mp hp]; exact name_free h (by omega)
  | want => intro p hp; rw [List.mem_singleton.mp hp]; decide +kernel
  | forgo => intro p hp; rw [List.mem_singleton.mp hp]; decide +kernel
  | done => intro p hp; rw [List.mem_singleton.mp hp]; decide +kernel
theorem what_split {w : What} (h : okW w) : Txt.split (whatT w) " " = whatW w := by
  rw [whatT_join]
  exact TL.split_join tl_sp all_sp (by cases w <;> simp [whatW]) (what_free h)
theorem num_len {n : Nat} (h : n < 10 ^ 2000) : (numT n).length ≤ 2000 := by
  have := TL.numL_len (k := 2000) (by decide) h
  rw [← TL.tl_num] at this
  rw [TL.len_tl]
  exact this
theorem num_int {n : Nat} (h : n < 10 ^ 2000) : PySem.intText? (numT n) = some (n : Int) := TL.int_num (Nat.le_trans (TL.numL_len (k := 2000) (by decide) h) (by decide))
theorem len_app (x y : Str) : (x ++ y).length = x.length + y.length := by rw [TL.len_tl, TL.tl_append, List.length_append, TL.len_tl, TL.len_tl]
theorem st_len {s : Stp} (h : okT s) : (stT s).length ≤ 2009 := by
  obtain ⟨⟨n, e, hn⟩, h2⟩ := h
  unfold stT
  rw [len_app, len_app]
  have h1 := num_len hn
  have h3 := (name_len h2).2
  have h4 : (s.1.toNat) = n := by rw [e]; rfl
  rw [h4]
  have : ("." : Str).length = 1 := by decide +kernel
  omega
end N7
namespace N7
open PySem PySem.Spec PyProof.Rows L2 PySem.Calls PySem.NumText
open PySem.W (Datum DatumOrd Holds HoldAll)
/-! ### long numbers: str(n), int(text) below the limit of 4300 figures -/
theorem lim_at {M : Model} {A : Around} {E : Value → Shared → Prop} {s : Shared} {Q : Nat → Shared → Prop} (hn : s.heap.NoDigits) (h : Q 4300 s) : wpAny M A Builtin.intMaxStrDigits Q E s := by
  obtain ⟨mc, hns, hnone⟩ := hn
  unfold Builtin.intMaxStrDigits
  refine wpAny_bind (wpAny_nsGet hns ?_)
  rw [hnone]
  exact wpAny_pure h
theorem wp_textL {M : Model} {A : Around} {E : Value → Shared → Prop} {s : Shared} {Q : Value → Shared → Prop} {v : Value} {text : List Nat} {n : Int} (hn : s.heap.NoDigits)
    (hs : ¬ (text.takeWhile (· != 0)).length ≤ 640) (hr : (int_private% "readNumeral") 4300 10 (text.takeWhile (· != 0)) = (int_private% "Numeral.value") n)
    (ha : ((text.takeWhile (· != 0)).length == text.length) = true) (h : Q (.int n s.toks) { s with toks := s.toks + 1 }) :
    wpAny M A ((int_private% "intFromText") v text 10) Q E s := by
  obtain ⟨hp, g, d, tk, os⟩ := s
  repeat (any_goals (first
    | assumption
    | (with_reducible refine wpAny_ite_false (decide_eq_false hs) ?_)
    | (with_reducible refine wpAny_ite_true (decide_eq_true ha) ?_)
    | (with_reducible refine lim_at hn ?_)
    | wp_step))
  all_goals (try rw [hr])
  all_goals (try dsimp only)
  repeat (any_goals (first
    | assumption
    | (with_reducible refine wpAny_ite_true (decide_eq_true ha) ?_)
    | wp_step))
structure Hidd (p : Prop) : Prop where
  out : p
set_option maxHeartbeats 4000000 in
theorem meets_intL {x : Str} {u : Tok} {n : Int} (hl : ¬ (numSeenOf x).length ≤ 640) (hz : x.length ≤ sizeLine) (hx : PySem.intText? x = some n) :
    Meets (Builtin.«int.__new__» ⟨[.type "int", .str x u], []⟩) (fun _ R s => s.heap.NoDigits ∧ R (.ok (.ret (.int n s.toks))) { s with toks := s.toks + 1 }) :=
  .of_wp fun prog w A R s h => by
    obtain ⟨hn, h⟩ := h
    obtain ⟨hp, g, d, tk, os⟩ := s
    have f1 := F.conv_sub_int
    have f2 := F.madeHere_int
    have f3 := PySem.W.KIN.str_int
    have f4 := PySem.W.KIN.str_idx
    have f5 := PySem.W.KIN.str_trunc
    have f6 : typeOf (.str x u) = pure (.type "str") := rfl
    have hr : (int_private% "readNumeral") 4300 10 (numSeenOf x) = (int_private% "Numeral.value") n ∧ ((numSeenOf x).length == (numTextOf x).length) = true := by
      rcases read4300 x hz with ⟨m, h1, h2, h3⟩ | ⟨h1, _⟩
      · rw [hx] at h1
        cases h1
        exact ⟨h3, h2⟩
      · rw [hx] at h1
        cases h1
    have hk := Hidd.mk (And.intro hl hr)
    have hN := Hidd.mk hn
    clear hl hr hx hz hn
    repeat (any_goals (first
      | assumption
      | ((with_reducible show wpAny _ _ ((int_private% "intFromText") _ _ _) _ _ _); refine wp_textL hN.out hk.out.1 hk.out.2.1 hk.out.2.2 ?_)
      | wp_step))
    all_goals first | exact ⟨_, rfl, h⟩ | skip
set_option maxHeartbeats 4000000 in
theorem meets_intS {x : Str} {u : Tok} {n : Int} (hl : (numSeenOf x).length ≤ 640) (hx : PySem.intText? x = some n) :
    Meets (Builtin.«int.__new__» ⟨[.type "int", .str x u], []⟩) (fun _ R s => R (.ok (.ret (.int n s.toks))) { s with toks := s.toks + 1 }) :=
  .of_wp fun prog w A R s h => by
    obtain ⟨hp, g, d, tk, os⟩ := s
    have f1 := F.conv_sub_int
    have f2 := F.madeHere_int
    have f3 := PySem.W.KIN.str_int
    have f4 := PySem.W.KIN.str_idx
    have f5 := PySem.W.KIN.str_trunc
    have f6 : typeOf (.str x u) = pure (.type "str") := rfl
    have hr : (int_private% "readNumeral") 0 10 (numSeenOf x) = (int_private% "Numeral.value") n ∧ ((numSeenOf x).length == (numTextOf x).length) = true := by
      rcases read0 x hl with ⟨m, h1, h2, h3⟩ | ⟨h1, _⟩
      · rw [hx] at h1
        cases h1
        exact ⟨h3, h2⟩
      · rw [hx] at h1
        cases h1
    have hk := Hidd.mk (And.intro hl hr)
    clear hl hr hx
    repeat (any_goals (first
      | assumption
      | ((with_reducible show wpAny _ _ ((int_private% "intFromText") _ _ _) _ _ _); refine PySem.W.KIN.wp_text hk.out.1 hk.out.2.1 hk.out.2.2 ?_)
      | wp_step))
    all_goals first | exact ⟨_, rfl, h⟩ | skip
section
variable {X : Cx}
theorem nd_at {pins : List (Addr × Obj)} {σ : L2.St} {H : Hp} {s : Shared} (hb : X.base.NoDigits) (I : Inv X pins σ H s) : s.heap.NoDigits := hb.keeps I.bk
/-- int(text), whatever its length below the limit -/
theorem cr_intD (hb : X.base.NoDigits) : CallR X (.type "int") (fun xs H Q => ∃ a n, xs = [.str a] ∧ PySem.intText? a = some n ∧ a.length ≤ 1000000 ∧ Q (.int n) H) := by
  intro pins s σ H xs us Q I rs h
  obtain ⟨a, n, rfl, hn, hz, h⟩ := h
  obtain ⟨u, rfl, t, rfl⟩ := vals1 rs
  by_cases hl : (numSeenOf a).length ≤ 640
  · refine call_int_1 (S := fun A R s' => R (.ok (.ret (.int n s'.toks))) { s' with toks := s'.toks + 1 }) ?_ ⟨rfl, .int n, H, I.tok _, ⟨_, rfl⟩, h⟩
    exact meets_intS hl hn
  · exact call_int_1 (meets_intL hl (sz_le hz) hn) ⟨nd_at hb I, rfl, .int n, H, I.tok _, ⟨_, rfl⟩, h⟩
/-- str(n) below the limit -/
theorem cr_strD (hb : X.base.NoDigits) (hc : X.calm = true) : CallR X (.type "str") (fun xs H Q => ∃ i, xs = [.int i] ∧ i.natAbs < 10 ^ 4300 ∧ Q (.str (toString i)) H) := by
  intro pins s σ H xs us Q I r h
  obtain ⟨i, rfl, hz, q⟩ := h
  obtain ⟨u, rfl, t, rfl⟩ := vals1 r
  exact str_of_int_or (I.ok.hd hc) (nd_at hb I) (fun _ => ⟨.str _, H, I.tok _, ⟨_, rfl⟩, q⟩) fun hge => absurd hge (Nat.not_le_of_lt hz)
/-- repr(a list or a tuple of data) -/
theorem cr_reprD (hg : X.A.guards = some []) (hu : X.A.units + 100 < cLine) : CallR X (.builtin "repr") (fun xs H Q => ∃ (a : Addr) (d : PyData), xs = [.ref a] ∧ Dp X.K H (.ref a) d ∧ d.showable = true ∧ d.hasDict = false ∧ d.depth ≤ 20 ∧ d.shown.length ≤ 1000000 ∧ Q (.str d.shown) H) := by
  intro pins s σ H xs us Q I r h
  obtain ⟨a, d, rfl, hd, hs, hnd, hdp, hz, q⟩ := h
  obtain ⟨u, rfl, ru⟩ := vals1 r
  cases ru
  obtain ⟨as, rd⟩ := Dp.reads I _ _ _ hd rfl
  exact repr_of_reads' rd hs (fun e => by rw [hnd] at e; cases e) hg (by omega) (fun _ _ e => e) (fun h' u tk hk => ⟨.str _, H, I.kept hk, ⟨_, rfl⟩, q⟩) (sz_le hz)
end
end N7
namespace N7
open PySem PySem.Spec PyProof.Rows L2
open PySem.W (Datum DatumOrd Holds HoldAll)
/-! ### x, *rest = a tuple -/
theorem star_cut {prog : Program} {w : World} {A : Around} {E : Value → Shared → Prop} {s : Shared} {l : Addr} {items : Array Value} {x : Value} {rest : List Value} {Q : List Value → Shared → Prop} (hl : IsTup s.heap l items) (hh : A.handled = none) (ei : items.toList = x :: rest) (hz : rest.length ≤ 10000)
    (h : ∀ (g : Heap) (tk : Nat), (∀ b o, s.heap.get? b = some o → g.get? b = some o) → Q [x, .ref g.objs.size] { s with heap := g.push { cls := .type "list", data := .seq rest.toArray }, toks := tk }) :
    wpAny (model prog w) A (unpackItems (.ref l) 2 (some 1)) Q E s := by
  have si : items.size = rest.length + 1 := by rw [← Array.length_toList, ei]; rfl
  have hb : l < s.heap.objs.size := by obtain ⟨o, ho, _⟩ := hl; exact Heap.lt_size ho
  have ne : l ≠ s.heap.objs.size := Nat.ne_of_lt hb
  unfold unpackItems
  refine wpAny_bind ?_
  unfold notIterableAtAll
  refine wpAny_bind (wpAny_specialOf hl.typeIs slot_tuple_iter.lookup (wpAny_pure ?_))
  simp only [Bool.false_eq_true, if_false]
  refine wpAny_bind (wpAny_holding (iter_tuple hl (wpAny_bind (wpAny_holding ?_))))
  refine draw_tuple ne 1 0 _ _ ⟨_, Heap.get?_push_size _ rfl, rfl, rfl⟩ (hl.push _) (by omega) fun g1 it1 sb => ?_
  have hl1 : IsTup g1 l items := (hl.push _).extBut sb.extBut ne
  obtain ⟨oi, hoi, _⟩ := id it1
  rw [List.drop_zero, show items.toList.take 1 = [x] by rw [ei]; rfl]
  rw [if_neg (by show ¬ 1 < 1; omega)]
  obtain ⟨ol, hol, _⟩ := id hl1
  refine wpAny_bind (wpAny_holding (PySem.W.kun_collect (s := { s with heap := g1 }) (T := "tuple_iterator") (.inr (.inr (.inr rfl))) (Walks.tuple (A := A.in1) hh s.heap.objs.size l ne items) (fun j u st => st.1.typeIs) (k := 1) (by omega) ⟨it1, hl1⟩ (Heap.lt_size hoi) (Heap.lt_size hol) (fun g2 tk kp => ?_) (by rw [sizeLine_eq]; omega)))
  have er : items.toList.drop 1 = rest := by rw [ei]; rfl
  rw [er]
  have e0 : rest.length - (2 - 1 - 1) = rest.length := by omega
  show wpAny _ _ (if rest.length < 2 - 1 - 1 then _ else _) _ _ _
  rw [if_neg (by omega)]
  show wpAny _ _ (newList (rest.take (rest.length - (2 - 1 - 1))) >>= fun d => pure ([x] ++ [d] ++ rest.drop (rest.length - (2 - 1 - 1)))) _ _ _
  rw [e0, List.take_length, List.drop_length]
  have up : ∀ b o, s.heap.get? b = some o → g2.get? b = some o := fun b o q => kp b o (Nat.ne_of_lt (Heap.lt_size q)) (sb.extBut b o (Nat.ne_of_lt (Heap.lt_size q)) (Heap.get?_push_of_some _ q))
  exact wpAny_bind (wpAny_newList (wpAny_pure (h g2 tk up)) (by rw [sizeLine_eq]; omega))
section
variable {X : Cx}
/-- (x, *rest) = a tuple that is not empty -/
def gStar (K : PySem.W.Frag) (t : TGs) : TG := fun v σ H Q => ∃ a x xs, v = .ref a ∧ SqT K H a (x :: xs) ∧ xs.length ≤ 10000 ∧ ∀ D, H D = none → t [x, .ref D] σ (upd H D (.lst xs)) Q
theorem pg_star {es : List Expr} {k : Nat} {pos : Pos} {t : TGs} (hc : X.calm = true) (h : PGs X es t)
    (hn : (assignEach es X.env).length = 2 := by rfl) (hst : (assignEach es X.env).findIdx? (·.1) = some 1 := by rfl) : PG X (.Tuple es k pos) (gStar X.K t) := by
  refine ⟨fun pins s σ H v u Q I r hw => ?_⟩
  obtain ⟨a, x, xs, e1, hq, hl, hw⟩ := hw
  subst e1
  cases r
  obtain ⟨its, rv, ht, hz⟩ := I.tuple hq
  cases rv with
  | @cons _ u _ us r1 rr =>
    rw [assign_Tuple]
    refine wpAny_bind (wpAny_standAt ?_)
    unfold unpack
    rw [hn, hst]
    have lu : us.length = xs.length := (Vals.length rr).symm
    refine wpAny_bind (wpAny_holding (star_cut (x := u) (rest := us) ht (I.ok.hd hc) (by simp) (by omega) fun g tk up => ?_))
    have I1 : Inv X pins σ H { s with heap := g, toks := tk } := I.kept up
    have hD : H g.objs.size = none := I1.hok.fresh (Nat.le_refl _)
    have I2 := I1.laid (a := g.objs.size) (o := .lst xs) (h' := g.push { cls := .type "list", data := .seq us.toArray }) (t' := tk) (fun b o q => Heap.get?_push_of_some _ q) (Nat.le_refl _) ⟨by rw [sizeLine_eq]; omega, us, _, rr, Heap.get?_push_size _ rfl⟩
    exact h.run pins _ σ _ [x, .ref g.objs.size] _ Q I2 (.cons r1 (.cons rfl .nil)) (hw _ hD)
theorem pgs_starLast {e : Expr} {pos : Pos} {t : TG} (h : PG X e t) (hs : (assignEach [.Starred e pos] X.env).map (·.2) = [assign e X.env] := by rfl) : PGs X [.Starred e pos] (gCons t gNil) := by
  refine ⟨fun pins s σ H vs us Q I r hw => ?_⟩
  obtain ⟨v, vr, e1, hw⟩ := hw
  subst e1
  rw [hs]
  cases r with
  | cons r rr =>
    refine assignInOrder_cons (thn (h.run pins s σ H _ _ _ I r hw) fun _ s1 ⟨σ1, H1, I1, q1⟩ => ?_)
    obtain ⟨e2, q2⟩ := q1
    subst e2
    cases rr
    exact assignInOrder_nil ⟨σ1, H1, I1, q2⟩
/-! ### data compared -/
def rD (f : Bool → Bool) (K : PySem.W.Frag) : R2 := fun x y H Q => ∃ a b : PyData, Dp K H x a ∧ Dp K H y b ∧ a.plain = true ∧ b.plain = true ∧ a.depth ≤ 20 ∧ Q (.bl (f (PyData.eqv a b))) H
theorem minLow {u m n : Nat} (h : m ≤ 20) (hu : u + 100 < cLine) : u + min m n < cLine := by
  have := Nat.min_le_left m n
  omega
theorem op_eqD (hu : X.A.units + 100 < cLine) : OpR X (compareOp .Eq) (rD id X.K) := fun pins s σ H x y v u Q I rx ry ⟨a, b, ha, hb, pa, pb, hd, q⟩ => by
  obtain ⟨as, ra⟩ := Dp.reads I _ _ _ ha rx
  obtain ⟨bs, rb⟩ := Dp.reads I _ _ _ hb ry
  exact PySem.SeqAt.eq_plain ra rb pa pb (minLow hd hu) ⟨.bl _, H, I, rfl, q⟩
theorem op_neD (hu : X.A.units + 100 < cLine) : OpR X (compareOp .NotEq) (rD not X.K) := fun pins s σ H x y v u Q I rx ry ⟨a, b, ha, hb, pa, pb, hd, q⟩ => by
  obtain ⟨as, ra⟩ := Dp.reads I _ _ _ ha rx
  obtain ⟨bs, rb⟩ := Dp.reads I _ _ _ hb ry
  exact PySem.SeqAt.ne_plain ra rb pa pb (minLow hd hu) ⟨.bl _, H, I, rfl, q⟩
end
end N7
namespace N7
open PySem PySem.Spec PyProof.Rows L2
open PySem.W (Datum DatumOrd Holds HoldAll)
local macro_rules | `(tactic| l_intsW) => `(tactic| dsimp only [tSeq, tNext, tAsg, tDrop, tBM, tBM0, tCons, tNil, tRet, tRetN, tIfS, tTest, tOp, tC, tTup, tLst, tCB, tIf, tAndV, tOrV, tNotV, tDGet, tDIn, tDNotIn, sDPut, sDDel, tCall, tMeth, tMake, sFld, tSl, tPart, tNoPart, cxOf, Cx.nox, Cx.wish, List.map_cons, List.map_nil])
section
variable {P : Program} {w : World} {K : PySem.W.Frag} {mg : Str → Option Value} {base : Heap}
def spNeed : Sp := fun vs H Q _ => vs = [.bl true] ∧ Q .non H
theorem ok_need_kind (T : TX K mg) : FnOk P w K mg base CX0 1 T.need_kind.f T.need_kind.fd ["good"] spNeed := by
  have nd := sc_need_kind.nd
  refine T.need_kind.F.ok sc_need_kind (fun vs H Q E h => ?_) (fun cdv A outer s H vs Q E hr h => ?_)
  · obtain ⟨rfl, _⟩ := h
    rfl
  · obtain ⟨rfl, k⟩ := h
    exact ⟨_, (pss_one (ps_if (pt_not (pt_val (pv 0))) (pss_one ps_never) pss_nil)), ⟨_, rfl, true, rfl, iteF k⟩⟩
theorem decStr (a b : Str) : decide (V.str a = V.str b) = decide (a = b) := decide_eq_decide.mpr ⟨V.str.inj, congrArg V.str⟩
theorem tl_all {n : Str} {p : Nat → Bool} (h : ∀ c ∈ TL.tl n, p c = true) : (n.cps.toList.map p).all id = true := by
  rw [List.all_map, List.all_eq_true]
  exact h
theorem figs : ("0123456789" : Str).cps.toList = [48, 49, 50, 51, 52, 53, 54, 55, 56, 57] := by decide +kernel
theorem num_digs {n : Nat} : ∀ c ∈ TL.tl (numT n), decide (c ∈ ("0123456789" : Str).cps.toList) = true := by
  intro c hc
  unfold numT at hc
  rw [TL.tl_num] at hc
  have := TL.numL_digits n c hc
  rw [figs]
  refine decide_eq_true ?_
  simp only [List.mem_cons, List.not_mem_nil, or_false]
  omega
/-- a number's text: not empty, no 0 ahead -/
theorem num_ne (n : Nat) : numT n ≠ "" := fun e => TL.numL_ne n (by rw [← TL.tl_num]; show TL.tl (numT n) = []; rw [e]; decide +kernel)
theorem numL_head (n : Nat) : ∃ c r, TL.numL n = c :: r ∧ (c = 48 → n = 0) := by
  induction n using Nat.strongRecOn with
  | _ n ih =>
    by_cases h : n < 10
    · exact ⟨48 + n, [], TL.numL_lt h, fun e => by omega⟩
    · obtain ⟨c, r, e, z⟩ := ih (n / 10) (by omega)
      refine ⟨c, r ++ [48 + n % 10], by rw [TL.numL_step (by omega), e]; rfl, fun ec => ?_⟩
      have := z ec
      omega
theorem num_zero : numT 0 = "0" := by decide +kernel
def spNum : Sp := fun vs H Q _ => ∃ n : Nat, vs = [.str (numT n)] ∧ n < 10 ^ 2000 ∧ ∀ H', New H H' → Q (.int n) H'
theorem ok_number_in (T : TX K mg) (nb : base.NoDigits) : FnOk P w K mg base CX0 1 T.number_in.f T.number_in.fd ["word"] spNum := by
  have nd := sc_number_in.nd
  refine T.number_in.F.ok sc_number_in (fun vs H Q E h => ?_) (fun cdv A outer s H vs Q E hr h => ?_)
  · obtain ⟨n, rfl, _⟩ := h
    rfl
  · obtain ⟨n, rfl, hn, k⟩ := h
    have hl := num_len hn
    have hi := num_int hn
    obtain ⟨c0, r0, ec0, hc0⟩ := numL_head n
    have tln : TL.tl (numT n) = c0 :: r0 := by unfold numT; rw [TL.tl_num]; exact ec0
    have ez : numT n = "0" → n = 0 := fun e => hc0 (by
      rw [e] at tln
      have : TL.tl ("0" : Str) = [48] := by decide +kernel
      rw [this] at tln
      exact (List.cons.inj tln).1.symm)
    have ne := num_ne n
    have dg := num_digs (n := n)
    have nz : n = 0 → numT n = "0" := fun e => by rw [e]; exact num_zero
    generalize numT n = z at *
    refine ⟨_, (pss_cons (ps_if (PW.pt (pw_or (pt_cmpR op_eq (pv 0) pe_str (nomark _)) (pw_or (pt_not (pt_val (pe_callB (cr_all rfl) (by rfl) T.z_all (by decide +kernel) (pa_cons (pe_lc (own := [("sign", 1)]) (g := gName 1) (tt := tYes) rfl nd (pi_str (pv 0)) (blkOk_by (N := ["word", "sign"]) (sc := defScope s_number_in) (by decide +kernel)) (fun _ _ _ _ _ => (pg_name (i := 1) nd rfl (Or.inl rfl))) (fun _ _ _ _ _ => pts_nil) (fun _ _ _ _ _ => (pe_cmpR op_in_sign (pv 1) (pe_glob (v := .str "0123456789") rfl T.g_FIGURES ⟨_, rfl⟩) (by rfl)))) pa_nil)))) (pw_or1 (PW.pt (pw_and (pt_cmpR op_eq (pe_ix ix_str (pv 0) pe_int (fun _ _ => rfl)) pe_str (nomark _)) (pw_and1 (pt_cmpR op_ne (pv 0) pe_str (nomark _))))))))) (pss_one (ps_ret pe_non)) pss_nil)
    (pss_one (ps_ret (pe_callTy (cr_intD nb) (by rfl) T.z_int (by decide +kernel) (pa_cons (pv 0) pa_nil))))), ?_⟩
    refine ⟨_, rfl, rfl, false, congrArg V.bl ((decStr _ _).trans (decide_eq_false ne)), ?_⟩
    refine iteF ?_
    have lz : z.cps.toList.length = z.cps.size := Array.length_toList
    have lz2 : z.cps.size = z.length := rfl
    dsimp only [tOr, tNot, tB, tCB, tCons, tNil]
    refine lcT (K := K) walk_str (fun R q => ⟨_, rfl, _, rfl, q⟩) (fun i => (z.cps.toList.take i).map fun c => decide (c ∈ ("0123456789" : Str).cps.toList)) (fun _ _ => trivial) rfl (fun i _ => ?_) ?_ ?_
    · rw [List.length_map, List.length_take]; omega
    · rintro i x H1 H1' NX SK hi n1 ⟨rfl, c, ec, rfl⟩ f1 f2
      refine ⟨rfl, yes_go ?_⟩
      refine ⟨_, rfl, c, _, rfl, rfl, f1 _ _ _ (New.refl _) (Dp.bl _) ?_⟩
      have ec' : z.cps.toList[i]? = some c := by rw [Array.getElem?_toList]; exact ec
      rw [List.take_add_one, ec', List.map_append]
      rfl
    · intro D H1 vs hD n1 e d
      rw [← lz, List.take_length] at d
      refine ⟨D, _, rfl, by rw [← d.toBl]; exact SqL.of e, ?_⟩
      rw [tl_all dg]
      refine ⟨true, rfl, iteF ?_⟩
      refine ⟨_, rfl, z, 0, c0, rfl, rfl, sz_le (by omega), atI_nat (j := 0) (by rw [show z.cps.toList = c0 :: r0 from tln]; rfl), rfl, decide ((⟨#[c0]⟩ : Str) = "0"), congrArg V.bl (decStr _ _), ?_⟩
      have fin : New H H1 → (∃ a m, [V.str z] = [.str a] ∧ PySem.intText? a = some m ∧ a.length ≤ 1000000 ∧ Q (.int m) H1) := fun n1 => ⟨z, _, rfl, hi, by omega, k _ n1⟩
      by_cases cz : (⟨#[c0]⟩ : Str) = "0"
      · rw [decide_eq_true cz]
        have c48 : c0 = 48 := by
          have := congrArg TL.tl cz
          have e0 : TL.tl ("0" : Str) = [48] := by decide +kernel
          rw [e0] at this
          exact (List.cons.inj this).1
        refine iteT ⟨_, rfl, rfl, false, by rw [decStr, decide_eq_true (nz (hc0 c48))]; rfl, ?_⟩
        exact iteF ⟨_, rfl, fin n1⟩
      · rw [decide_eq_false cz]
        exact iteF (iteF ⟨_, rfl, fin n1⟩)
end
end N7
namespace N7
open PySem PySem.Spec PyProof.Rows L2
open PySem.W (Datum DatumOrd Holds HoldAll)
local macro_rules | `(tactic| l_intsW) => `(tactic| dsimp only [tSeq, tNext, tAsg, tDrop, tBM, tBM0, tCons, tNil, tRet, tRetN, tIfS, tTest, tOp, tC, tTup, tLst, tCB, tIf, tAndV, tOrV, tNotV, tDGet, tDIn, tDNotIn, sDPut, sDDel, tCall, tMeth, tMake, sFld, tSl, tPart, tNoPart, cxOf, Cx.nox, Cx.wish, List.map_cons, List.map_nil])
section
variable {P : Program} {w : World} {K : PySem.W.Frag} {mg : Str → Option Value} {base : Heap}
/-- a text that writes a datum: the datum anew -/
def spRd {α : Type} [DecidableEq α] [Datum α] (ok : α → Prop) (f : α → Str) : Sp := fun vs H Q _ => ∃ x : α, vs = [.str (f x)] ∧ ok x ∧ ∀ v H', New H H' → Dt H' v x → Q v H'
/-- a datum, written -/
def spSh (K : PySem.W.Frag) {α : Type} [DecidableEq α] [Datum α] (ok : α → Prop) (f : α → Str) : Sp := fun vs H Q _ => ∃ v x, vs = [v] ∧ Dm K H v (x : α) ∧ ok x ∧ ∀ H', New H H' → Q (.str (f x)) H'
theorem ok_stamp_in (T : TX K mg) (nb : base.NoDigits) : FnOk P w K mg base CX0 2 T.stamp_in.f T.stamp_in.fd ["word"] (spRd okT stT) := by
  have nd := sc_stamp_in.nd
  refine T.stamp_in.F.ok sc_stamp_in (fun vs H Q E h => ?_) (fun cdv A outer s H vs Q E hr h => ?_)
  · obtain ⟨n, rfl, _⟩ := h
    rfl
  · obtain ⟨st, rfl, ok, k⟩ := h
    have hz := st_len ok
    obtain ⟨⟨n, en, hn⟩, ho⟩ := ok
    have ep := st_part (s := st)
    obtain ⟨i, a⟩ := st
    dsimp only at en ho
    subst en
    refine ⟨_, (pss_cons (ps_asg (pe_partition (pv 0) (pe_glob (v := .str ".") rfl T.g_POINT ⟨_, rfl⟩)) (pg_tup rfl (pgs_cons (pg_name (i := 1) nd rfl (Or.inl rfl)) (pgs_cons (pg_name (i := 2) nd rfl (Or.inl rfl)) (pgs_cons (pg_name (i := 3) nd rfl (Or.inl rfl)) pgs_nil)))))
    (pss_cons (ps_set (i := 4) nd rfl (Or.inl rfl) (pe_tup (pa_cons (pe_call (ok_number_in T nb) (hr.mono (by decide)) rfl T.g_number_in T.number_in.F.kp T.number_in.b .nil pass0 (pa_cons (pv 1) pa_nil)) (pa_cons (pv 3) pa_nil))))
    (pss_one (ps_ret (pe_ifExp (PW.pt (pw_and (pt_val (pe_call (ok_is_count T) (hr.mono (by decide)) rfl T.g_is_count T.is_count.F.kp T.is_count.b .nil pass0 (pa_cons (pe_ix ix_tup (pv 4) pe_int (fun _ _ => rfl)) pa_nil))) (pw_and1 (pt_val (pe_call (ok_is_name T) (hr.mono (by decide)) rfl T.g_is_name T.is_name.F.kp T.is_name.b .nil pass0 (pa_cons (pv 3) pa_nil)))))) (pv 4) pe_non))))), ?_⟩
    refine ⟨_, rfl, ⟨_, rfl⟩, _, _, rfl, rfl, rfl, sz_le (by omega), fun p hp => ?_⟩
    rw [ep]
    have n1 : New H (upd H p (.tup [.str (numT n), .str ".", .str a])) := New.fresh hp
    refine ⟨p, _, rfl, SqT.of upd_same, rfl, _, _, rfl, _, _, rfl, _, _, rfl, rfl, ?_⟩
    refine ⟨_, rfl, n, rfl, hn, fun H2 n2 => ?_⟩
    refine ⟨_, rfl, ln2, fun q hq => ?_⟩
    have n3 := (n1.comp n2).comp (New.fresh (o := .tup [.int n, .str a]) hq)
    have hl := (name_len ho).2
    refine ⟨_, rfl, _, _, _, _, rfl, rfl, SqT.of upd_same, atI_nat (j := 0) rfl, _, rfl, true, by rw [decide_eq_true (by omega)], ?_⟩
    refine iteT ⟨_, rfl, _, rfl, (by show a.length ≤ 1000000; omega), fun H4 n4 => ?_⟩
    rw [ho]
    exact ⟨true, rfl, iteT ⟨_, rfl, k _ _ (n3.comp n4) ((t_stp hq).tups n4.tup)⟩⟩
theorem ok_show_stamp (T : TX K mg) (nb : base.NoDigits) : FnOk P w K mg base CX0 3 T.show_stamp.f T.show_stamp.fd ["stamp"] (spSh K okT stT) := by
  have nd := sc_show_stamp.nd
  refine T.show_stamp.F.ok sc_show_stamp (fun vs H Q E h => ?_) (fun cdv A outer s H vs Q E hr h => ?_)
  · obtain ⟨v, x, rfl, _⟩ := h
    rfl
  · obtain ⟨v, st, rfl, d, ok, k⟩ := h
    have hz := st_len ok
    obtain ⟨⟨n, en, hn⟩, ho⟩ := ok
    obtain ⟨i, a⟩ := st
    dsimp only at en ho
    subst en
    obtain ⟨ad, rfl, sq⟩ := stp_sq d
    have hl := (name_len ho).2
    have hnl := num_len hn
    refine ⟨_, (pss_cons (ps_expr (pe_call (ok_need_kind T) (hr.mono (by decide)) rfl T.g_need_kind T.need_kind.F.kp T.need_kind.b .nil pass0 (pa_cons (pe_call (ok_is_stamp T) (hr.mono (by decide)) rfl T.g_is_stamp T.is_stamp.F.kp T.is_stamp.b .nil pass0 (pa_cons (pv 0) pa_nil)) pa_nil)))
    (pss_one (ps_ret (pe_op op_add_str (pe_op op_add_str (pe_callTy (cr_strD nb rfl) (by rfl) T.z_str (by decide +kernel) (pa_cons (pe_ix ix_tup (pv 0) pe_int (fun _ _ => rfl)) pa_nil)) (pe_glob (v := .str ".") rfl T.g_POINT ⟨_, rfl⟩)) (pe_ix ix_tup (pv 0) pe_int (fun _ _ => rfl)))))), ?_⟩
    refine ⟨_, rfl, ad, _, rfl, sq, okT.okS ⟨⟨n, rfl, hn⟩, ho⟩, fun H1 n1 => ?_⟩
    refine ⟨rfl, ?_⟩
    have sq1 := n1.tup.sqT sq
    refine ⟨_, rfl, _, _, _, _, rfl, rfl, sq1, atI_nat (j := 0) rfl, _, rfl, ?_, ?_⟩
    · show n < 10 ^ 4300
      exact Nat.lt_of_lt_of_le hn (Nat.pow_le_pow_right (by decide) (by decide))
    · refine ⟨_, _, rfl, rfl, sz_le ?_, ?_⟩
      · show (numT n).length + ("." : Str).length ≤ 1000000
        have : ("." : Str).length = 1 := by decide +kernel
        omega
      · refine ⟨_, rfl, _, _, _, _, rfl, rfl, sq1, atI_nat (j := 1) rfl, _, _, rfl, rfl, sz_le ?_, k _ n1⟩
        show (numT n ++ ".").length + a.length ≤ 1000000
        rw [len_app]
        have : ("." : Str).length = 1 := by decide +kernel
        omega
theorem ok_read_stamp (T : TX K mg) (nb : base.NoDigits) : FnOk P w K mg base CX0 3 T.read_stamp.f T.read_stamp.fd ["text"] (spRd okT stT) := by
  have nd := sc_read_stamp.nd
  refine T.read_stamp.F.ok sc_read_stamp (fun vs H Q E h => ?_) (fun cdv A outer s H vs Q E hr h => ?_)
  · obtain ⟨n, rfl, _⟩ := h
    rfl
  · obtain ⟨st, rfl, ok, k⟩ := h
    refine ⟨_, (pss_cons (ps_expr (pe_call (ok_need_kind T) (hr.mono (by decide)) rfl T.g_need_kind T.need_kind.F.kp T.need_kind.b .nil pass0 (pa_cons (pe_callB call_isi (by rfl) T.z_isinstance (by decide +kernel) (pa_cons (pv 0) (pa_cons (pe_bltn (v := .ty "str") (by rfl) T.z_str (by decide +kernel) rfl) pa_nil))) pa_nil)))
    (pss_cons (ps_set (i := 1) nd rfl (Or.inl rfl) (pe_call (ok_stamp_in T nb) (hr.mono (by decide)) rfl T.g_stamp_in T.stamp_in.F.kp T.stamp_in.b .nil pass0 (pa_cons (pv 0) pa_nil)))
    (pss_cons (ps_expr (pe_call (ok_need_kind T) (hr.mono (by decide)) rfl T.g_need_kind T.need_kind.F.kp T.need_kind.b .nil pass0 (pa_cons (pe_cmpR op_notN (pv 1) pe_non (nomark _)) pa_nil)))
    (pss_one (ps_ret (pv 1)))))), ?_⟩
    refine ⟨_, rfl, _, _, _, _, true, rfl, .ty "str", .base (.str _), kit_ty (by decide +kernel), rfl, ?_⟩
    refine ⟨_, rfl, st, rfl, ok, fun v H1 n1 d => ?_⟩
    obtain ⟨a, rfl, _⟩ := stp_dir d
    exact ⟨_, rfl, rfl, rfl, _, rfl, k _ _ n1 d⟩
end
end N7
namespace N7
open PySem PySem.Spec PyProof.Rows L2
open PySem.W (Datum DatumOrd Holds HoldAll)
local macro_rules | `(tactic| l_intsW) => `(tactic| dsimp only [tSeq, tNext, tAsg, tDrop, tBM, tBM0, tCons, tNil, tRet, tRetN, tIfS, tTest, tOp, tC, tTup, tLst, tCB, tIf, tAndV, tOrV, tNotV, tDGet, tDIn, tDNotIn, sDPut, sDDel, tCall, tMeth, tMake, sFld, tSl, tPart, tNoPart, cxOf, Cx.nox, Cx.wish, List.map_cons, List.map_nil])
section
variable {P : Program} {w : World} {K : PySem.W.Frag} {mg : Str → Option Value} {base : Heap}
theorem d_let1 {H : Hp} {q : Addr} {l : Letter} (hq : H q = none) (hl : l = .ask ∨ l = .floor) : Dt (upd H q (.tup ((letW l).map V.str))) (.ref q) l := by
  rcases hl with rfl | rfl
  · exact newQ hq (.cons (.str _) .nil)
  · exact newQ hq (.cons (.str _) .nil)
def spLetIn (K : PySem.W.Frag) : Sp := fun vs H Q _ => ∃ p l, vs = [.ref p] ∧ SqL K H p ((letW l).map V.str) ∧ okTL l ∧ ∀ v H', New H H' → Dt H' v (l : Letter) → Q v H'
theorem ok_letter_in (T : TX K mg) (nb : base.NoDigits) : FnOk P w K mg base CX0 4 T.letter_in.f T.letter_in.fd ["words"] (spLetIn K) := by
  have nd := sc_letter_in.nd
  refine T.letter_in.F.ok sc_letter_in (fun vs H Q E h => ?_) (fun cdv A outer s H vs Q E hr h => ?_)
  · obtain ⟨v, x, rfl, _⟩ := h
    rfl
  · obtain ⟨p, l, rfl, sq, ok, k⟩ := h
    refine ⟨_, (pss_cons (ps_set (i := 1) nd rfl (Or.inl rfl) (pe_tupleOf (by rfl) T.z_tuple (pv 0)))
    (pss_cons (ps_if (PW.pt (pw_and (pt_cmpR op_eq (pe_callB call_len_seq (by rfl) T.z_len PySem.boot_len (pa_cons (pv 0) pa_nil)) pe_int (nomark _)) (pw_and1 (pt_cmpR op_eq (pe_ix ix_list (pv 0) pe_int (fun _ _ => rfl)) pe_str (nomark _))))) (pss_cons (ps_set (i := 2) nd rfl (Or.inl rfl) (pe_call (ok_stamp_in T nb) (hr.mono (by decide)) rfl T.g_stamp_in T.stamp_in.F.kp T.stamp_in.b .nil pass0 (pa_cons (pe_ix ix_list (pv 0) pe_int (fun _ _ => rfl)) pa_nil)))
    (pss_one (ps_ret (pe_ifExp (pt_cmpR op_isN (pv 2) pe_non (nomark _)) pe_non (pe_op op_catA (pe_tup (pa_cons pe_str pa_nil)) (pv 2)))))) pss_nil)
    (pss_one (ps_ret (pe_ifExp (pt_val (pe_call (ok_is_letter T) (hr.mono (by decide)) rfl T.g_is_letter T.is_letter.F.kp T.is_letter.b .nil pass0 (pa_cons (pv 1) pa_nil))) (pv 1) pe_non))))), ?_⟩
    refine ⟨_, rfl, .inl ⟨p, _, rfl, sq, fun q hq => ?_⟩⟩
    have n1 : New H (upd H q (.tup ((letW l).map V.str))) := New.fresh hq
    have sq1 := n1.same.seq sq
    have short : (l = .ask ∨ l = .floor) → (letW l).length = 1 := fun h => by rcases h with rfl | rfl <;> rfl
    have one : (l = .ask ∨ l = .floor) → Q (.ref q) (upd H q (.tup ((letW l).map V.str))) := fun h => k _ _ n1 (d_let1 hq h)
    cases l with
    | stamp st =>
      refine ⟨_, rfl, _, _, rfl, .inl sq1, rfl, true, rfl, ?_⟩
      refine iteT ⟨_, rfl, _, _, _, _, rfl, rfl, sq1, atI_nat (j := 0) rfl, rfl, true, rfl, ?_⟩
      refine iteT ⟨_, rfl, _, _, _, _, rfl, rfl, sq1, atI_nat (j := 1) rfl, st, rfl, ok, fun v H2 n2 d => ?_⟩
      obtain ⟨a, rfl, ea⟩ := stp_dir d
      refine ⟨_, rfl, rfl, false, rfl, ?_⟩
      refine iteF ⟨ln1, fun q2 hq2 => ?_⟩
      have n3 : New H2 (upd H2 q2 (.tup [.str "stamp"])) := New.fresh hq2
      refine ⟨_, rfl, _, _, _, _, rfl, rfl, SqT.of upd_same, SqT.of (n3.at ea), ln12, (fun z => nomatch z), (fun _ z => nomatch z), fun _ _ q3 hq3 => ?_⟩
      exact k _ _ (((n1.comp n2).comp n3).comp (New.fresh hq3)) (newQ hq3 (.cons (.str _) (.cons (.int _) (.cons (.str _) .nil))))
    | ask =>
      refine ⟨_, rfl, _, _, rfl, .inl sq1, rfl, false, rfl, ?_⟩
      refine iteF (iteF ⟨_, rfl, _, _, rfl, (d_let1 hq (.inl rfl)).dm, trivial, fun H2 n2 => ⟨true, rfl, iteT ⟨_, rfl, k _ _ (n1.comp n2) ((d_let1 hq (.inl rfl)).tups n2.tup)⟩⟩⟩)
    | floor =>
      refine ⟨_, rfl, _, _, rfl, .inl sq1, rfl, false, rfl, ?_⟩
      refine iteF (iteF ⟨_, rfl, _, _, rfl, (d_let1 hq (.inr rfl)).dm, trivial, fun H2 n2 => ⟨true, rfl, iteT ⟨_, rfl, k _ _ (n1.comp n2) ((d_let1 hq (.inr rfl)).tups n2.tup)⟩⟩⟩)
theorem ok_show_letter (T : TX K mg) (nb : base.NoDigits) : FnOk P w K mg base CX0 4 T.show_letter.f T.show_letter.fd ["letter"] (spSh K okTL letT) := by
  have nd := sc_show_letter.nd
  refine T.show_letter.F.ok sc_show_letter (fun vs H Q E h => ?_) (fun cdv A outer s H vs Q E hr h => ?_)
  · obtain ⟨v, x, rfl, _⟩ := h
    rfl
  · obtain ⟨v, l, rfl, d, ok, k⟩ := h
    refine ⟨_, (pss_cons (ps_expr (pe_call (ok_need_kind T) (hr.mono (by decide)) rfl T.g_need_kind T.need_kind.F.kp T.need_kind.b .nil pass0 (pa_cons (pe_call (ok_is_letter T) (hr.mono (by decide)) rfl T.g_is_letter T.is_letter.F.kp T.is_letter.b .nil pass0 (pa_cons (pv 0) pa_nil)) pa_nil)))
    (pss_one (ps_ret (pe_ifExp (pt_cmpR op_eq (pe_callB call_len_seq (by rfl) T.z_len PySem.boot_len (pa_cons (pv 0) pa_nil)) pe_int (nomark _)) (pe_ix ix_tup (pv 0) pe_int (fun _ _ => rfl)) (pe_op op_add_str (pe_op op_add_str (pe_ix ix_tup (pv 0) pe_int (fun _ _ => rfl)) (pe_glob (v := .str " ") rfl T.g_BLANK ⟨_, rfl⟩)) (pe_call (ok_show_stamp T nb) (hr.mono (by decide)) rfl T.g_show_stamp T.show_stamp.F.kp T.show_stamp.b .nil pass0 (pa_cons (pe_slice sl_tup (pv 0) (po_some pe_int) po_none) pa_nil))))))), ?_⟩
    obtain ⟨a, rfl, c⟩ := let_sq d
    refine ⟨_, rfl, _, l, rfl, d, okTL.okL ok, fun H1 n1 => ?_⟩
    refine ⟨rfl, ?_⟩
    rcases c with ⟨rfl, sq⟩ | ⟨rfl, sq⟩ | ⟨st, rfl, sq⟩
    · have sq1 := n1.tup.sqT sq
      refine ⟨_, rfl, _, _, rfl, .inr sq1, rfl, true, rfl, ?_⟩
      exact iteT ⟨_, rfl, _, _, _, _, rfl, rfl, sq1, atI_nat (j := 0) rfl, k _ n1⟩
    · have sq1 := n1.tup.sqT sq
      refine ⟨_, rfl, _, _, rfl, .inr sq1, rfl, true, rfl, ?_⟩
      exact iteT ⟨_, rfl, _, _, _, _, rfl, rfl, sq1, atI_nat (j := 0) rfl, k _ n1⟩
    · have sq1 := n1.tup.sqT sq
      have hz := st_len ok
      have l6 : ("stamp" ++ " " : Str).length = 6 := by decide +kernel
      refine ⟨_, rfl, _, _, rfl, .inr sq1, rfl, false, rfl, ?_⟩
      refine iteF ⟨_, rfl, _, _, _, _, rfl, rfl, sq1, atI_nat (j := 0) rfl, _, _, rfl, rfl, ?_, ?_⟩
      · exact sz_le (by decide +kernel)
      · refine ⟨_, rfl, 1, rfl, _, _, rfl, sq1, (by show ¬ (HT.sIx 3 0 (some 1) = 0 ∧ HT.sIx 3 3 none = 3); decide), fun q2 hq2 => ?_⟩
        refine ⟨_, st, rfl, (t_stp (i := st.1) (n := st.2) hq2).dm, ok, fun H3 n3 => ?_⟩
        refine ⟨_, _, rfl, rfl, sz_le ?_, k _ ((n1.comp (New.fresh hq2)).comp n3)⟩
        show ("stamp" ++ " " : Str).length + (stT st).length ≤ 1000000
        omega
def spWords : Sp := fun vs H Q _ => ∃ x : Str, vs = [.str x] ∧ x.length ≤ 900000 ∧ ∀ p, H p = none → Q (.ref p) (upd H p (.lst ((Txt.split x " ").map V.str)))
theorem ok_words_of (T : TX K mg) : FnOk P w K mg base CX0 2 T.words_of.f T.words_of.fd ["text"] spWords := by
  have nd := sc_words_of.nd
  refine T.words_of.F.ok sc_words_of (fun vs H Q E h => ?_) (fun cdv A outer s H vs Q E hr h => ?_)
  · obtain ⟨n, rfl, _⟩ := h
    rfl
  · obtain ⟨x, rfl, hz, k⟩ := h
    refine ⟨_, (pss_cons (ps_expr (pe_call (ok_need_kind T) (hr.mono (by decide)) rfl T.g_need_kind T.need_kind.F.kp T.need_kind.b .nil pass0 (pa_cons (pe_callB call_isi (by rfl) T.z_isinstance (by decide +kernel) (pa_cons (pv 0) (pa_cons (pe_bltn (v := .ty "str") (by rfl) T.z_str (by decide +kernel) rfl) pa_nil))) pa_nil)))
    (pss_one (ps_ret (pe_split (pv 0) (pe_glob (v := .str " ") rfl T.g_BLANK ⟨_, rfl⟩))))), ?_⟩
    refine ⟨_, rfl, _, _, _, _, true, rfl, .ty "str", .base (.str _), kit_ty (by decide +kernel), rfl, ?_⟩
    exact ⟨_, rfl, ⟨_, rfl⟩, _, _, rfl, rfl, rfl, sz_le (by omega), k⟩
theorem let_len {l : Letter} (h : okTL l) : (letT l).length ≤ 2015 := by
  cases l with
  | stamp s =>
    have hz := st_len h
    show ("stamp" ++ " " ++ stT s).length ≤ 2015
    rw [len_app]
    have l6 : ("stamp" ++ " " : Str).length = 6 := by decide +kernel
    omega
  | ask => decide +kernel
  | floor => decide +kernel
theorem let_ref {H : Hp} {v : V} {l : Letter} (d : Dt H v l) : ∃ a, v = .ref a := by
  cases l <;> cases d <;> exact ⟨_, rfl⟩
theorem ok_read_letter (T : TX K mg) (nb : base.NoDigits) : FnOk P w K mg base CX0 5 T.read_letter.f T.read_letter.fd ["text"] (spRd okTL letT) := by
  have nd := sc_read_letter.nd
  refine T.read_letter.F.ok sc_read_letter (fun vs H Q E h => ?_) (fun cdv A outer s H vs Q E hr h => ?_)
  · obtain ⟨n, rfl, _⟩ := h
    rfl
  · obtain ⟨l, rfl, ok, k⟩ := h
    have hz := let_len ok
    have es := let_split ok
    refine ⟨_, (pss_cons (ps_set (i := 1) nd rfl (Or.inl rfl) (pe_call (ok_letter_in T nb) (hr.mono (by decide)) rfl T.g_letter_in T.letter_in.F.kp T.letter_in.b .nil pass0 (pa_cons (pe_call (ok_words_of T) (hr.mono (by decide)) rfl T.g_words_of T.words_of.F.kp T.words_of.b .nil pass0 (pa_cons (pv 0) pa_nil)) pa_nil)))
    (pss_cons (ps_expr (pe_call (ok_need_kind T) (hr.mono (by decide)) rfl T.g_need_kind T.need_kind.F.kp T.need_kind.b .nil pass0 (pa_cons (pe_cmpR op_notN (pv 1) pe_non (nomark _)) pa_nil)))
    (pss_one (ps_ret (pv 1))))), ?_⟩
    refine ⟨_, rfl, _, rfl, by omega, fun p hp => ?_⟩
    rw [es]
    have n0 : New H (upd H p (.lst ((letW l).map V.str))) := New.fresh hp
    refine ⟨p, l, rfl, SqL.of upd_same, ok, fun v H1 n1 d => ?_⟩
    obtain ⟨a, rfl⟩ := let_ref d
    exact ⟨_, rfl, rfl, rfl, _, rfl, k _ _ (n0.comp n1) d⟩
end
end N7
namespace N7
open PySem PySem.Spec PyProof.Rows L2
open PySem.W (Datum DatumOrd Holds HoldAll)
local macro_rules | `(tactic| l_intsW) => `(tactic| dsimp only [tSeq, tNext, tAsg, tDrop, tBM, tBM0, tCons, tNil, tRet, tRetN, tIfS, tTest, tOp, tC, tTup, tLst, tCB, tIf, tAndV, tOrV, tNotV, tDGet, tDIn, tDNotIn, sDPut, sDDel, tCall, tMeth, tMake, sFld, tSl, tPart, tNoPart, cxOf, Cx.nox, Cx.wish, List.map_cons, List.map_nil])
section
variable {P : Program} {w : World} {K : PySem.W.Frag} {mg : Str → Option Value} {base : Heap}
def wordOf : What → Str
  | .want => "want"
  | .forgo => "forgo"
  | .done => "done"
  | .join _ => "join"
  | .part _ => "part"
  | .hear _ _ => "hear"
def restD : What → List PyData
  | .join n => [.str n]
  | .part n => [.str n]
  | .hear n l => [.str n, l.toD]
  | _ => []
theorem what_toD (w : What) : What.toD w = .tuple (.str (wordOf w) :: restD w) := by cases w <;> rfl
theorem what_sq {H : Hp} {v : V} {w : What} (d : Dm K H v w) : ∃ a rest, v = .ref a ∧ SqT K H a (.str (wordOf w) :: rest) ∧ DpAll K H rest (restD w) := by
  have d' : Dp K H v (.tuple (.str (wordOf w) :: restD w)) := by rw [← what_toD]; exact d
  cases d' with
  | tup hs ha => cases ha with
    | cons a b => cases a; exact ⟨_, _, rfl, hs, b⟩
theorem what_eq0 (w : What) : PyData.eqv (What.toD w) (.tuple []) = false := by cases w <;> simp [What.toD, PyData.eqv, PyData.eqvAll]
theorem nil_eq : PyData.eqv (PyData.list []) (PyData.list []) = true := by simp [PyData.eqv, PyData.eqvAll]
theorem cons_eq (d : PyData) (ds : List PyData) : PyData.eqv (.list (d :: ds)) (.list []) = false := by simp [PyData.eqv, PyData.eqvAll]
theorem rest_plain (w : What) : PyData.plain (.list (restD w)) = true := by cases w <;> simp [restD, PyData.plain, PyData.plainAll, let_plain]
theorem rest_depth (w : What) : PyData.depth (.list (restD w)) ≤ 20 := by
  cases w with
  | hear n l =>
    have := let_depth l
    simp [restD, PyData.depth, PyData.depthAll]; omega
  | _ => simp [restD, PyData.depth, PyData.depthAll]
theorem nil_plain : PyData.plain (.list []) = true := by simp [PyData.plain, PyData.plainAll]
theorem nilT_plain : PyData.plain (.tuple []) = true := by simp [PyData.plain, PyData.plainAll]
theorem what_depth (w : What) : (What.toD w).depth ≤ 20 := Nat.le_trans (Datum.depth_le w) (by decide)
theorem rest_flat (w : What) : flatDs (restD w) = true := by cases w <;> simp [restD, flatDs, flatD, flat_let]
theorem rest_len {H : Hp} {vs : List V} {ds : List PyData} (h : DpAll K H vs ds) : vs.length = ds.length := by
  induction ds generalizing vs with
  | nil => cases h; rfl
  | cons d ds ih => cases h with
    | cons a b => exact congrArg (· + 1) (ih b)
def spWhat (K : PySem.W.Frag) : Sp := fun vs H Q _ => ∃ v x, vs = [v] ∧ Dm K H v (x : What) ∧ okW x ∧ ∀ H', New H H' → Q (.bl true) H'
theorem ok_is_what (T : TX K mg) : FnOk P w K mg base CX0 4 T.is_what.f T.is_what.fd ["thing"] (spWhat K) := by
  have nd := sc_is_what.nd
  refine T.is_what.F.ok sc_is_what (fun vs H Q E h => ?_) (fun cdv A outer s H vs Q E hr h => ?_)
  · obtain ⟨v, x, rfl, _⟩ := h
    rfl
  · obtain ⟨v, x, rfl, d, ok, k⟩ := h
    refine ⟨_, (pss_cons (ps_if (PW.pt (pw_or (pt_not (pt_val (pe_callB call_isi (by rfl) T.z_isinstance (by decide +kernel) (pa_cons (pv 0) (pa_cons (pe_bltn (v := .ty "tuple") (by rfl) T.z_tuple (by decide +kernel) rfl) pa_nil))))) (pw_or (pt_cmpR (op_eqD (hu100 hr)) (pv 0) (pe_tup pa_nil) (nomark _)) (pw_or1 (pt_not (pt_val (pe_callB call_isi (by rfl) T.z_isinstance (by decide +kernel) (pa_cons (pe_ix ix_tup (pv 0) pe_int (fun _ _ => rfl)) (pa_cons (pe_bltn (v := .ty "str") (by rfl) T.z_str (by decide +kernel) rfl) pa_nil))))))))) (pss_one (ps_ret pe_bl)) pss_nil)
    (pss_cons (ps_asg (pv 0) (pg_star rfl (pgs_cons (pg_name (i := 1) nd rfl (Or.inl rfl)) (pgs_starLast (pg_name (i := 2) nd rfl (Or.inl rfl))))))
    (pss_cons (ps_if (pt_cmpR (op_inTM (α := Str) (hu100 hr)) (pv 1) (pe_glob (v := .ref T.a_ALONE) rfl T.g_ALONE rfl) (by rfl)) (pss_one (ps_ret (pe_cmpR (op_eqD (hu100 hr)) (pv 2) (pe_lst pa_nil) (nomark _)))) pss_nil)
    (pss_cons (ps_if (PW.pt (pw_or (pt_cmpR (op_eqD (hu100 hr)) (pv 2) (pe_lst pa_nil) (nomark _)) (pw_or1 (pt_not (pt_val (pe_call (ok_is_name T) (hr.mono (by decide)) rfl T.g_is_name T.is_name.F.kp T.is_name.b .nil pass0 (pa_cons (pe_ix ix_list (pv 2) pe_int (fun _ _ => rfl)) pa_nil))))))) (pss_one (ps_ret pe_bl)) pss_nil)
    (pss_cons (ps_if (pt_cmpR (op_inTM (α := Str) (hu100 hr)) (pv 1) (pe_glob (v := .ref T.a_ROADS) rfl T.g_ROADS rfl) (by rfl)) (pss_one (ps_ret (pe_cmpR op_eq (pe_callB call_len_seq (by rfl) T.z_len PySem.boot_len (pa_cons (pv 2) pa_nil)) pe_int (nomark _)))) pss_nil)
    (pss_one (ps_ret (pe_and (pe_cmpR op_eq (pv 1) pe_str (nomark _)) (pe_and (pe_cmpR op_eq (pe_callB call_len_seq (by rfl) T.z_len PySem.boot_len (pa_cons (pv 2) pa_nil)) pe_int (nomark _)) (pe_one (pe_call (ok_is_letter T) (hr.mono (by decide)) rfl T.g_is_letter T.is_letter.F.kp T.is_letter.b .nil pass0 (pa_cons (pe_ix ix_list (pv 2) pe_int (fun _ _ => rfl)) pa_nil)))))))))))), ?_⟩
    obtain ⟨a, rest, rfl, sq, dr⟩ := what_sq d
    refine ⟨_, rfl, _, _, _, _, true, rfl, .ty "tuple", tyx_tup sq, kit_ty (by decide +kernel), true, rfl, ?_⟩
    refine iteF ⟨_, rfl, ln0, fun q hq => ?_⟩
    have n1 : New H (upd H q (.tup [])) := New.fresh hq
    refine ⟨_, .tuple [], d.tups n1.tup, Dp.tup (SqT.of upd_same) .nil, Datum.plain x, nilT_plain, what_depth x, false, congrArg V.bl (what_eq0 x), ?_⟩
    have sq1 := n1.tup.sqT sq
    refine iteF ⟨_, rfl, _, _, _, _, rfl, rfl, sq1, atI_nat (j := 0) rfl, _, _, _, _, true, rfl, .ty "str", .base (.str _), kit_ty (by decide +kernel), true, rfl, ?_⟩
    have hrl := rest_len dr
    have rl : (restD x).length ≤ 2 := by cases x <;> simp [restD]
    refine iteF ⟨_, rfl, a, _, rest, rfl, sq1, by omega, fun D hD => ?_⟩
    have n2 := n1.comp (New.fresh (o := .lst rest) hD)
    have dr2 : DpAll K (upd (upd H q (.tup [])) D (.lst rest)) rest (restD x) := Dp.tupsAll n2.tup _ _ (rest_flat x) dr
    have eD : (upd (upd H q (.tup [])) D (.lst rest)) D = some (.lst rest) := upd_same
    generalize upd (upd H q (.tup [])) D (.lst rest) = H2 at n2 dr2 eD ⊢
    refine ⟨_, _, rfl, _, _, rfl, rfl, ?_⟩
    refine ⟨_, rfl, T.a_ALONE, wordOf x, _, ["want", "forgo", "done"], Dm.str _, rfl, T.k_ALONE _, Dms.str ["want", "forgo", "done"], decide (wordOf x ∈ (["want", "forgo", "done"] : List Str)), rfl, ?_⟩
    cases x with
    | want =>
      rw [decide_eq_true (by decide +kernel)]
      cases dr2
      refine iteT ⟨_, rfl, ln0, fun q2 hq2 => ⟨.list [], .list [], Dp.lst (SqL.of ((New.fresh hq2).at eD)) .nil, Dp.lst (SqL.of upd_same) .nil, nil_plain, nil_plain, by decide +kernel, ?_⟩⟩
      rw [nil_eq]
      exact k _ (n2.comp (New.fresh hq2))
    | forgo =>
      rw [decide_eq_true (by decide +kernel)]
      cases dr2
      refine iteT ⟨_, rfl, ln0, fun q2 hq2 => ⟨.list [], .list [], Dp.lst (SqL.of ((New.fresh hq2).at eD)) .nil, Dp.lst (SqL.of upd_same) .nil, nil_plain, nil_plain, by decide +kernel, ?_⟩⟩
      rw [nil_eq]
      exact k _ (n2.comp (New.fresh hq2))
    | done =>
      rw [decide_eq_true (by decide +kernel)]
      cases dr2
      refine iteT ⟨_, rfl, ln0, fun q2 hq2 => ⟨.list [], .list [], Dp.lst (SqL.of ((New.fresh hq2).at eD)) .nil, Dp.lst (SqL.of upd_same) .nil, nil_plain, nil_plain, by decide +kernel, ?_⟩⟩
      rw [nil_eq]
      exact k _ (n2.comp (New.fresh hq2))
    | join n =>
      rw [decide_eq_false (by show ¬ ("join" : Str) ∈ (["want", "forgo", "done"] : List Str); decide +kernel)]
      cases dr2 with
      | cons a1 b1 =>
        cases a1
        cases b1
        refine iteF ⟨_, rfl, ln0, fun q2 hq2 => ?_⟩
        have n3 := n2.comp (New.fresh (o := .lst []) hq2)
        have eD3 := (New.fresh (o := .lst []) hq2).at eD
        refine ⟨.list [.str n], .list [], Dp.lst (SqL.of eD3) (.cons (.str _) .nil), Dp.lst (SqL.of upd_same) .nil, rest_plain (.join n), nil_plain, rest_depth (.join n), false, congrArg V.bl (cons_eq _ _), ?_⟩
        refine iteF ⟨_, rfl, _, _, _, _, rfl, rfl, SqL.of eD3, atI_nat (j := 0) rfl, n, rfl, nameB_len ok, fun H4 n4 => ?_⟩
        rw [show nameB n = true from ok]
        refine ⟨true, rfl, iteF ?_⟩
        refine ⟨_, rfl, T.a_ROADS, "join", _, ["join", "part"], Dm.str _, rfl, T.k_ROADS _, Dms.str ["join", "part"], true, rfl, ?_⟩
        exact iteT ⟨_, rfl, _, _, rfl, .inl (SqL.of (n4.at eD3)), rfl, k _ (n3.comp n4)⟩
    | part n =>
      rw [decide_eq_false (by show ¬ ("part" : Str) ∈ (["want", "forgo", "done"] : List Str); decide +kernel)]
      cases dr2 with
      | cons a1 b1 =>
        cases a1
        cases b1
        refine iteF ⟨_, rfl, ln0, fun q2 hq2 => ?_⟩
        have n3 := n2.comp (New.fresh (o := .lst []) hq2)
        have eD3 := (New.fresh (o := .lst []) hq2).at eD
        refine ⟨.list [.str n], .list [], Dp.lst (SqL.of eD3) (.cons (.str _) .nil), Dp.lst (SqL.of upd_same) .nil, rest_plain (.part n), nil_plain, rest_depth (.part n), false, congrArg V.bl (cons_eq _ _), ?_⟩
        refine iteF ⟨_, rfl, _, _, _, _, rfl, rfl, SqL.of eD3, atI_nat (j := 0) rfl, n, rfl, nameB_len ok, fun H4 n4 => ?_⟩
        rw [show nameB n = true from ok]
        refine ⟨true, rfl, iteF ?_⟩
        refine ⟨_, rfl, T.a_ROADS, "part", _, ["join", "part"], Dm.str _, rfl, T.k_ROADS _, Dms.str ["join", "part"], true, rfl, ?_⟩
        exact iteT ⟨_, rfl, _, _, rfl, .inl (SqL.of (n4.at eD3)), rfl, k _ (n3.comp n4)⟩
    | hear n l =>
      obtain ⟨okn, okl⟩ := ok
      rw [decide_eq_false (by show ¬ ("hear" : Str) ∈ (["want", "forgo", "done"] : List Str); decide +kernel)]
      cases dr2 with
      | cons a1 b1 =>
        cases a1
        cases b1 with
        | @cons lv _ _ _ a2 b2 =>
        cases b2
        have dl : Dm K H2 lv l := a2
        refine iteF ⟨_, rfl, ln0, fun q2 hq2 => ?_⟩
        have m3 := New.fresh (o := .lst []) hq2
        have n3 := n2.comp m3
        have eD3 := m3.at eD
        have dl3 := dl.tups m3.tup
        refine ⟨.list [.str n, l.toD], .list [], Dp.lst (SqL.of eD3) (.cons (.str _) (.cons dl3 .nil)), Dp.lst (SqL.of upd_same) .nil, rest_plain (.hear n l), nil_plain, rest_depth (.hear n l), false, congrArg V.bl (cons_eq _ _), ?_⟩
        refine iteF ⟨_, rfl, _, _, _, _, rfl, rfl, SqL.of eD3, atI_nat (j := 0) rfl, n, rfl, nameB_len okn, fun H4 n4 => ?_⟩
        rw [okn]
        refine ⟨true, rfl, iteF ?_⟩
        refine ⟨_, rfl, T.a_ROADS, "hear", _, ["join", "part"], Dm.str _, rfl, T.k_ROADS _, Dms.str ["join", "part"], false, rfl, ?_⟩
        refine iteF ⟨_, rfl, rfl, true, rfl, ?_⟩
        refine iteT ⟨_, rfl, _, _, rfl, .inl (SqL.of (n4.at eD3)), rfl, true, rfl, ?_⟩
        exact iteT ⟨_, rfl, _, _, _, _, rfl, rfl, SqL.of (n4.at eD3), atI_nat (j := 1) rfl, _, l, rfl, dl3.tups n4.tup, okTL.okL okl, fun H5 n5 => k _ ((n3.comp n4).comp n5)⟩
end
end N7
namespace N7
open PySem PySem.Spec PyProof.Rows L2
open PySem.W (Datum DatumOrd Holds HoldAll)
local macro_rules | `(tactic| l_intsW) => `(tactic| dsimp only [tSeq, tNext, tAsg, tDrop, tBM, tBM0, tCons, tNil, tRet, tRetN, tIfS, tTest, tOp, tC, tTup, tLst, tCB, tIf, tAndV, tOrV, tNotV, tDGet, tDIn, tDNotIn, sDPut, sDDel, tCall, tMeth, tMake, sFld, tSl, tPart, tNoPart, cxOf, Cx.nox, Cx.wish, List.map_cons, List.map_nil])
section
variable {P : Program} {w : World} {K : PySem.W.Frag} {mg : Str → Option Value} {base : Heap}
theorem what_ref {H : Hp} {v : V} {l : What} (d : Dt H v l) : ∃ a, v = .ref a := by
  cases l <;> cases d <;> exact ⟨_, rfl⟩
def spWhatIn (K : PySem.W.Frag) : Sp := fun vs H Q _ => ∃ p x, vs = [.ref p] ∧ SqL K H p ((whatW x).map V.str) ∧ okW x ∧ ∀ v H', New H H' → Dt H' v (x : What) → Q v H'
theorem ok_what_in (T : TX K mg) (nb : base.NoDigits) : FnOk P w K mg base CX0 5 T.what_in.f T.what_in.fd ["words"] (spWhatIn K) := by
  have nd := sc_what_in.nd
  refine T.what_in.F.ok sc_what_in (fun vs H Q E h => ?_) (fun cdv A outer s H vs Q E hr h => ?_)
  · obtain ⟨v, x, rfl, _⟩ := h
    rfl
  · obtain ⟨p, x, rfl, sq, ok, k⟩ := h
    refine ⟨_, (pss_cons (ps_set (i := 1) nd rfl (Or.inl rfl) (pe_tupleOf (by rfl) T.z_tuple (pv 0)))
    (pss_cons (ps_if (PW.pt (pw_and (pt_cmpR op_eq (pe_ix ix_list (pv 0) pe_int (fun _ _ => rfl)) pe_str (nomark _)) (pw_and1 (pt_cmpR op_gt (pe_callB call_len_seq (by rfl) T.z_len PySem.boot_len (pa_cons (pv 0) pa_nil)) pe_int (nomark _))))) (pss_one (ps_set (i := 1) nd rfl (Or.inl rfl) (pe_tup (pa_cons pe_str (pa_cons (pe_ix ix_list (pv 0) pe_int (fun _ _ => rfl)) (pa_cons (pe_call (ok_letter_in T nb) (hr.mono (by decide)) rfl T.g_letter_in T.letter_in.F.kp T.letter_in.b .nil pass0 (pa_cons (pe_slice sl_list (pv 0) (po_some pe_int) po_none) pa_nil)) pa_nil)))))) pss_nil)
    (pss_one (ps_ret (pe_ifExp (pt_val (pe_call (ok_is_what T) (hr.mono (by decide)) rfl T.g_is_what T.is_what.F.kp T.is_what.b .nil pass0 (pa_cons (pv 1) pa_nil))) (pv 1) pe_non))))), ?_⟩
    refine ⟨_, rfl, .inl ⟨p, _, rfl, sq, fun q hq => ?_⟩⟩
    have n1 : New H (upd H q (.tup ((whatW x).map V.str))) := New.fresh hq
    have sq1 := n1.same.seq sq
    cases x with
    | want =>
      have dq : Dt (upd H q (.tup ((whatW .want).map V.str))) (.ref q) What.want := newQ hq (.cons (.str _) .nil)
      refine ⟨_, rfl, _, _, _, _, rfl, rfl, sq1, atI_nat (j := 0) rfl, rfl, false, rfl, ?_⟩
      exact iteF (iteF ⟨_, rfl, _, _, rfl, dq.dm, ok, fun H2 n2 => ⟨true, rfl, iteT ⟨_, rfl, k _ _ (n1.comp n2) (dq.tups n2.tup)⟩⟩⟩)
    | forgo =>
      have dq : Dt (upd H q (.tup ((whatW .forgo).map V.str))) (.ref q) What.forgo := newQ hq (.cons (.str _) .nil)
      refine ⟨_, rfl, _, _, _, _, rfl, rfl, sq1, atI_nat (j := 0) rfl, rfl, false, rfl, ?_⟩
      exact iteF (iteF ⟨_, rfl, _, _, rfl, dq.dm, ok, fun H2 n2 => ⟨true, rfl, iteT ⟨_, rfl, k _ _ (n1.comp n2) (dq.tups n2.tup)⟩⟩⟩)
    | done =>
      have dq : Dt (upd H q (.tup ((whatW .done).map V.str))) (.ref q) What.done := newQ hq (.cons (.str _) .nil)
      refine ⟨_, rfl, _, _, _, _, rfl, rfl, sq1, atI_nat (j := 0) rfl, rfl, false, rfl, ?_⟩
      exact iteF (iteF ⟨_, rfl, _, _, rfl, dq.dm, ok, fun H2 n2 => ⟨true, rfl, iteT ⟨_, rfl, k _ _ (n1.comp n2) (dq.tups n2.tup)⟩⟩⟩)
    | join n =>
      have dq : Dt (upd H q (.tup ((whatW (.join n)).map V.str))) (.ref q) (What.join n) := newQ hq (.cons (.str _) (.cons (.str _) .nil))
      refine ⟨_, rfl, _, _, _, _, rfl, rfl, sq1, atI_nat (j := 0) rfl, rfl, false, rfl, ?_⟩
      exact iteF (iteF ⟨_, rfl, _, _, rfl, dq.dm, ok, fun H2 n2 => ⟨true, rfl, iteT ⟨_, rfl, k _ _ (n1.comp n2) (dq.tups n2.tup)⟩⟩⟩)
    | part n =>
      have dq : Dt (upd H q (.tup ((whatW (.part n)).map V.str))) (.ref q) (What.part n) := newQ hq (.cons (.str _) (.cons (.str _) .nil))
      refine ⟨_, rfl, _, _, _, _, rfl, rfl, sq1, atI_nat (j := 0) rfl, rfl, false, rfl, ?_⟩
      exact iteF (iteF ⟨_, rfl, _, _, rfl, dq.dm, ok, fun H2 n2 => ⟨true, rfl, iteT ⟨_, rfl, k _ _ (n1.comp n2) (dq.tups n2.tup)⟩⟩⟩)
    | hear n l =>
      obtain ⟨okn, okl⟩ := ok
      refine ⟨_, rfl, _, _, _, _, rfl, rfl, sq1, atI_nat (j := 0) rfl, rfl, true, rfl, ?_⟩
      refine iteT ⟨_, rfl, _, _, rfl, .inl sq1, _, _, rfl, rfl, true, congrArg V.bl ?_, ?_⟩
      · cases l <;> rfl
      · refine iteT ⟨_, rfl, _, _, _, _, rfl, rfl, sq1, atI_nat (j := 1) rfl, ?_⟩
        refine ⟨_, rfl, 2, rfl, _, _, rfl, sq1, fun q2 hq2 => ?_⟩
        have m2 : New (upd H q (.tup ((whatW (.hear n l)).map V.str))) (upd (upd H q (.tup ((whatW (.hear n l)).map V.str))) q2 (.lst (cutV ((whatW (.hear n l)).map V.str) (some 2) none))) := New.fresh hq2
        have ec : cutV ((whatW (.hear n l)).map V.str) (some 2) none = (letW l).map V.str := by cases l <;> rfl
        refine ⟨_, l, rfl, SqL.of (by rw [← ec]; exact upd_same), okl, fun v H3 n3 dl => ?_⟩
        refine ⟨ln3, fun q3 hq3 => ?_⟩
        have n4 := ((n1.comp m2).comp n3).comp (New.fresh (o := .tup [.str "hear", .str n, v]) hq3)
        have dq : Dt (upd H3 q3 (.tup [.str "hear", .str n, v])) (.ref q3) (What.hear n l) := newQ hq3 (.cons (.str _) (.cons (.str _) (.cons dl .nil)))
        exact ⟨_, rfl, _, _, rfl, dq.dm, ⟨okn, okl⟩, fun H5 n5 => ⟨true, rfl, iteT ⟨_, rfl, k _ _ (n4.comp n5) (dq.tups n5.tup)⟩⟩⟩
theorem what_sq3 {H : Hp} {v : V} {n : Str} {l : Letter} (d : Dm K H v (What.hear n l)) : ∃ a lv, v = .ref a ∧ SqT K H a [.str "hear", .str n, lv] ∧ Dm K H lv l := by
  cases d with
  | tup hs ha => cases ha with
    | cons a b => cases a; cases b with
      | cons c e => cases c; cases e with
        | cons f g => cases g; exact ⟨_, _, rfl, hs, f⟩
theorem l_sp : (" " : Str).length = 1 := by decide +kernel
theorem ok_show_what (T : TX K mg) (nb : base.NoDigits) : FnOk P w K mg base CX0 5 T.show_what.f T.show_what.fd ["what"] (spSh K okW whatT) := by
  have nd := sc_show_what.nd
  refine T.show_what.F.ok sc_show_what (fun vs H Q E h => ?_) (fun cdv A outer s H vs Q E hr h => ?_)
  · obtain ⟨v, x, rfl, _⟩ := h
    rfl
  · obtain ⟨v, x, rfl, d, ok, k⟩ := h
    refine ⟨_, (pss_cons (ps_expr (pe_call (ok_need_kind T) (hr.mono (by decide)) rfl T.g_need_kind T.need_kind.F.kp T.need_kind.b .nil pass0 (pa_cons (pe_call (ok_is_what T) (hr.mono (by decide)) rfl T.g_is_what T.is_what.F.kp T.is_what.b .nil pass0 (pa_cons (pv 0) pa_nil)) pa_nil)))
    (pss_cons (ps_if (pt_cmpR op_ne (pe_ix ix_tup (pv 0) pe_int (fun _ _ => rfl)) pe_str (nomark _)) (pss_one (ps_ret (pe_join (pe_glob (v := .str " ") rfl T.g_BLANK ⟨_, rfl⟩) (pv 0)))) pss_nil)
    (pss_one (ps_ret (pe_join (pe_glob (v := .str " ") rfl T.g_BLANK ⟨_, rfl⟩) (pe_lst (pa_cons (pe_ix ix_tup (pv 0) pe_int (fun _ _ => rfl)) (pa_cons (pe_ix ix_tup (pv 0) pe_int (fun _ _ => rfl)) (pa_cons (pe_call (ok_show_letter T nb) (hr.mono (by decide)) rfl T.g_show_letter T.show_letter.F.kp T.show_letter.b .nil pass0 (pa_cons (pe_ix ix_tup (pv 0) pe_int (fun _ _ => rfl)) pa_nil)) pa_nil))))))))), ?_⟩
    refine ⟨_, rfl, v, x, rfl, d, ok, fun H1 n1 => ⟨rfl, ?_⟩⟩
    have d1 := d.tups n1.tup
    obtain ⟨a, rest, rfl, sq, dr⟩ := what_sq d1
    cases x with
    | want =>
      cases dr
      refine ⟨_, rfl, _, _, _, _, rfl, rfl, sq, atI_nat (j := 0) rfl, rfl, true, rfl, ?_⟩
      exact iteT ⟨⟨_, rfl⟩, _, rfl, _, _, ["want"], rfl, rfl, .inr sq, by decide +kernel, k _ n1⟩
    | forgo =>
      cases dr
      refine ⟨_, rfl, _, _, _, _, rfl, rfl, sq, atI_nat (j := 0) rfl, rfl, true, rfl, ?_⟩
      exact iteT ⟨⟨_, rfl⟩, _, rfl, _, _, ["forgo"], rfl, rfl, .inr sq, by decide +kernel, k _ n1⟩
    | done =>
      cases dr
      refine ⟨_, rfl, _, _, _, _, rfl, rfl, sq, atI_nat (j := 0) rfl, rfl, true, rfl, ?_⟩
      exact iteT ⟨⟨_, rfl⟩, _, rfl, _, _, ["done"], rfl, rfl, .inr sq, by decide +kernel, k _ n1⟩
    | join n =>
      cases dr with
      | cons a1 b1 =>
        cases a1
        cases b1
        have hl := (name_len ok).2
        refine ⟨_, rfl, _, _, _, _, rfl, rfl, sq, atI_nat (j := 0) rfl, rfl, true, rfl, ?_⟩
        refine iteT ⟨⟨_, rfl⟩, _, rfl, _, _, ["join", n], rfl, rfl, .inr sq, ?_, k _ n1⟩
        show ("join" : Str).length + (n.length + 0) + 2 * (" " : Str).length ≤ 16777216
        rw [l_sp, show ("join" : Str).length = 4 by decide +kernel]
        omega
    | part n =>
      cases dr with
      | cons a1 b1 =>
        cases a1
        cases b1
        have hl := (name_len ok).2
        refine ⟨_, rfl, _, _, _, _, rfl, rfl, sq, atI_nat (j := 0) rfl, rfl, true, rfl, ?_⟩
        refine iteT ⟨⟨_, rfl⟩, _, rfl, _, _, ["part", n], rfl, rfl, .inr sq, ?_, k _ n1⟩
        show ("part" : Str).length + (n.length + 0) + 2 * (" " : Str).length ≤ 16777216
        rw [l_sp, show ("part" : Str).length = 4 by decide +kernel]
        omega
    | hear n l =>
      obtain ⟨okn, okl⟩ := ok
      obtain ⟨a', lv, ea, sq3, dl⟩ := what_sq3 d1
      cases ea
      have hl := (name_len okn).2
      have hl2 := let_len okl
      refine ⟨_, rfl, _, _, _, _, rfl, rfl, sq3, atI_nat (j := 0) rfl, rfl, false, rfl, ?_⟩
      refine iteF ⟨⟨_, rfl⟩, ?_⟩
      refine ⟨_, rfl, _, _, _, _, rfl, rfl, sq3, atI_nat (j := 0) rfl, _, rfl, _, _, _, _, rfl, rfl, sq3, atI_nat (j := 1) rfl, _, rfl, _, _, _, _, rfl, rfl, sq3, atI_nat (j := 2) rfl, lv, l, rfl, dl, okl, fun H2 n2 => ?_⟩
      refine ⟨ln3, fun p hp => ?_⟩
      refine ⟨_, _, ["hear", n, letT l], rfl, rfl, .inl (SqL.of upd_same), ?_, k _ ((n1.comp n2).comp (New.fresh hp))⟩
      show ("hear" : Str).length + (n.length + ((letT l).length + 0)) + 3 * (" " : Str).length ≤ 16777216
      rw [l_sp, show ("hear" : Str).length = 4 by decide +kernel]
      omega
theorem join_len2 (a b : Str) : (Txt.join " " [a, b]).length = a.length + 1 + b.length := by
  rw [TL.len_tl, TL.join_eq, TL.tl_join, tl_sp]
  show (TL.tl a ++ ([32] ++ TL.tl b)).length = _
  rw [List.length_append, List.length_append, TL.len_tl, TL.len_tl]
  show _ + (1 + _) = _
  omega
theorem join_len3 (a b c : Str) : (Txt.join " " [a, b, c]).length = a.length + 1 + (b.length + 1 + c.length) := by
  rw [TL.len_tl, TL.join_eq, TL.tl_join, tl_sp]
  show (TL.tl a ++ ([32] ++ (TL.tl b ++ ([32] ++ TL.tl c)))).length = _
  rw [List.length_append, List.length_append, List.length_append, List.length_append, TL.len_tl, TL.len_tl, TL.len_tl]
  show _ + (1 + (_ + (1 + _))) = _
  omega
theorem what_len {x : What} (h : okW x) : (whatT x).length ≤ 2100 := by
  cases x with
  | want => decide +kernel
  | forgo => decide +kernel
  | done => decide +kernel
  | join n =>
    have hl := (name_len h).2
    unfold whatT
    rw [join_len2, show ("join" : Str).length = 4 by decide +kernel]
    omega
  | part n =>
    have hl := (name_len h).2
    unfold whatT
    rw [join_len2, show ("part" : Str).length = 4 by decide +kernel]
    omega
  | hear n l =>
    have hl := (name_len h.1).2
    have hl2 := let_len h.2
    unfold whatT
    rw [join_len3, show ("hear" : Str).length = 4 by decide +kernel]
    omega
theorem ok_read_what (T : TX K mg) (nb : base.NoDigits) : FnOk P w K mg base CX0 6 T.read_what.f T.read_what.fd ["text"] (spRd okW whatT) := by
  have nd := sc_read_what.nd
  refine T.read_what.F.ok sc_read_what (fun vs H Q E h => ?_) (fun cdv A outer s H vs Q E hr h => ?_)
  · obtain ⟨n, rfl, _⟩ := h
    rfl
  · obtain ⟨x, rfl, ok, k⟩ := h
    have hz := what_len ok
    have es := what_split ok
    refine ⟨_, (pss_cons (ps_set (i := 1) nd rfl (Or.inl rfl) (pe_call (ok_what_in T nb) (hr.mono (by decide)) rfl T.g_what_in T.what_in.F.kp T.what_in.b .nil pass0 (pa_cons (pe_call (ok_words_of T) (hr.mono (by decide)) rfl T.g_words_of T.words_of.F.kp T.words_of.b .nil pass0 (pa_cons (pv 0) pa_nil)) pa_nil)))
    (pss_cons (ps_expr (pe_call (ok_need_kind T) (hr.mono (by decide)) rfl T.g_need_kind T.need_kind.F.kp T.need_kind.b .nil pass0 (pa_cons (pe_cmpR op_notN (pv 1) pe_non (nomark _)) pa_nil)))
    (pss_one (ps_ret (pv 1))))), ?_⟩
    refine ⟨_, rfl, _, rfl, by omega, fun p hp => ?_⟩
    rw [es]
    have n0 : New H (upd H p (.lst ((whatW x).map V.str))) := New.fresh hp
    refine ⟨p, x, rfl, SqL.of upd_same, ok, fun v H1 n1 d => ?_⟩
    obtain ⟨a, rfl⟩ := what_ref d
    exact ⟨_, rfl, rfl, rfl, _, rfl, k _ _ (n0.comp n1) d⟩
end
end N7
namespace N7
open PySem PySem.Spec PyProof.Rows L2
open PySem.W (Datum DatumOrd Holds HoldAll)
local macro_rules | `(tactic| l_intsW) => `(tactic| dsimp only [tSeq, tNext, tAsg, tDrop, tBM, tBM0, tCons, tNil, tRet, tRetN, tIfS, tTest, tOp, tC, tTup, tLst, tCB, tIf, tAndV, tOrV, tNotV, tDGet, tDIn, tDNotIn, sDPut, sDDel, tCall, tMeth, tMake, sFld, tSl, tPart, tNoPart, cxOf, Cx.nox, Cx.wish, List.map_cons, List.map_nil])
section
theorem bits_le {i : Int} {n : Nat} (h : i.natAbs < 2 ^ n) : Builtin.Int.intBits i ≤ n := PyProof.Rows.intBits_le h
def CPowX (i j : Int) : Prop := 0 ≤ j ∧ (Builtin.Int.intBits i : Int) * j ≤ 2 ^ 27
theorem op_powX {X : Cx} : OpR X (binaryOp .Pow) (rI CPowX fun i j => .int (i ^ j.toNat)) := opI fun _ _ _ _ _ _ _ hc q => pow_int hc.1 hc.2 q
theorem powX_ok {i : Int} {n : Nat} {j : Int} (h0 : 0 ≤ i) (h : i < 2 ^ n) (hj : 0 ≤ j) (hz : (n : Int) * j ≤ 100000000) : CPowX i j := by
  have e : i.natAbs < 2 ^ n := by
    have : ((2 : Int) ^ n) = ((2 ^ n : Nat) : Int) := by simp
    rw [this] at h
    omega
  have hb := bits_le e
  refine ⟨hj, Int.le_trans (Int.mul_le_mul_of_nonneg_right (show ((Builtin.Int.intBits i : Nat) : Int) ≤ (n : Int) by omega) hj) (Int.le_trans hz (by decide))⟩
variable {P : Program} {w : World} {K : PySem.W.Frag} {mg : Str → Option Value} {base : Heap}
/-- a pot at p, out of which at most k numbers were taken -/
def Pot (p : Addr) (k : Nat) (H : Hp) : Prop := ∃ a b c : Int, H p = some (.lst [.int a, .int b, .int c]) ∧ 0 ≤ b ∧ b < 2 ^ 160 ∧ 0 ≤ c ∧ c ≤ k
theorem Pot.mono {p : Addr} {k m : Nat} {H : Hp} (h : Pot p k H) (e : k ≤ m) : Pot p m H := by
  obtain ⟨a, b, c, h1, h2, h3, h4, h5⟩ := h
  exact ⟨a, b, c, h1, h2, h3, h4, by omega⟩
theorem Pot.new {p : Addr} {k : Nat} {H H' : Hp} (h : Pot p k H) (n : New H H') : Pot p k H' := by
  obtain ⟨a, b, c, h1, r⟩ := h
  exact ⟨a, b, c, n.at h1, r⟩
abbrev At (p : Addr) : Addr → Prop := fun b => b = p
theorem At.set {p : Addr} {H : Hp} {xs ys : List V} (h : H p = some (.lst xs)) : Ch (At p) H (At p) (upd H p (.lst ys)) := Ch.upd rfl (by rw [h]; exact id)
/-- a number below m is taken -/
def spDip : Sp := fun vs H Q _ => ∃ p k, ∃ m : Nat, vs = [.ref p, .int m] ∧ Pot p k H ∧ k ≤ 1000000 ∧ 1 ≤ m ∧ m ≤ 100000 ∧ ∀ (r : Nat) H', r < m → Ch (At p) H (At p) H' → Pot p (k + 1) H' → Q (.int r) H'
theorem ok_law_dip (T : TX K mg) : FnOk P w K mg base CX0 1 T.law_dip.f T.law_dip.fd ["_law_pot_here", "_law_many"] spDip := by
  have nd := sc_law_dip.nd
  refine T.law_dip.F.ok sc_law_dip (fun vs H Q E h => ?_) (fun cdv A outer s H vs Q E hr h => ?_)
  · obtain ⟨p, k, m, rfl, _⟩ := h
    rfl
  · obtain ⟨p, k, m, rfl, ⟨a, b, c, e, b0, b1, c0, c1⟩, kz, m1, m2, kk⟩ := h
    refine ⟨_, (pss_cons (ps_if (pt_cmpR op_gt (pe_ix ix_list (pv 0) pe_int (fun _ _ => rfl)) pe_int (nomark _)) (pss_cons (ps_set (i := 2) nd rfl (Or.inl rfl) (pe_op op_mod (pe_ix ix_list (pv 0) pe_int (fun _ _ => rfl)) (pv 1)))
    (pss_cons (ps_asg (pe_op op_fdiv (pe_ix ix_list (pv 0) pe_int (fun _ _ => rfl)) (pv 1)) (pg_sub (pv 0) pe_int set_list))
    (pss_one (ps_ret (pv 2))))) pss_nil)
    (pss_cons (ps_asg (pe_op op_add (pe_ix ix_list (pv 0) pe_int (fun _ _ => rfl)) pe_int) (pg_sub (pv 0) pe_int set_list))
    (pss_cons (ps_set (i := 3) nd rfl (Or.inl rfl) (pe_op op_mod (pe_op op_powX (pe_op op_add (pe_ix ix_list (pv 0) pe_int (fun _ _ => rfl)) (pe_op op_mul pe_int (pe_ix ix_list (pv 0) pe_int (fun _ _ => rfl)))) pe_int) (pe_op op_add (pe_op op_pow pe_int pe_int) pe_int)))
    (pss_cons (ps_set (i := 3) nd rfl (Or.inl rfl) (pe_op op_mod (pe_op op_powX (pe_op op_add (pv 3) (pe_op op_mul pe_int (pe_ix ix_list (pv 0) pe_int (fun _ _ => rfl)))) pe_int) (pe_op op_add (pe_op op_pow pe_int pe_int) pe_int)))
    (pss_one (ps_ret (pe_op op_mod (pe_op op_fdiv (pv 3) pe_int) (pv 1)))))))), ?_⟩
    have mp : (0 : Int) < m := by omega
    have back : ∀ x : Int, ∃ r : Nat, x % (m : Int) = r ∧ r < m := fun x => by
      have h0 := Int.emod_nonneg x (show (m : Int) ≠ 0 by omega)
      have h1 := Int.emod_lt_of_pos x mp
      exact ⟨(x % (m : Int)).toNat, by omega, by omega⟩
    refine ⟨_, rfl, _, _, _, _, rfl, rfl, SqL.of e, atI_nat (j := 0) rfl, _, _, rfl, rfl, decide (a > 0), rfl, ?_⟩
    by_cases ca : a > 0
    · rw [decide_eq_true ca]
      refine iteT ⟨_, rfl, _, _, _, _, rfl, rfl, SqL.of e, atI_nat (j := 0) rfl, _, rfl, _, _, rfl, rfl, mp, ?_⟩
      obtain ⟨r, er, hr2⟩ := back a
      refine ⟨_, rfl, _, _, _, _, rfl, rfl, SqL.of e, atI_nat (j := 0) rfl, _, rfl, _, _, rfl, rfl, ⟨mp, by omega⟩, ?_⟩
      refine ⟨_, rfl, _, _, _, _, rfl, rfl, e, rfl, ?_⟩
      refine ⟨_, rfl, ?_⟩
      show Q (.int (a % (m : Int))) _
      rw [er]
      exact kk r _ hr2 (At.set e) ⟨a / m, b, c, upd_same, b0, b1, c0, by omega⟩
    · rw [decide_eq_false ca]
      refine iteF ⟨_, rfl, _, _, _, _, rfl, rfl, SqL.of e, atI_nat (j := 2) rfl, _, _, rfl, rfl, ?_⟩
      refine ⟨_, rfl, _, _, _, _, rfl, rfl, e, rfl, ?_⟩
      have ch := At.set (ys := [.int a, .int b, .int (c + 1)]) e
      have e1 : (upd H p (.lst [.int a, .int b, .int (c + 1)])) p = some (.lst [.int a, .int b, .int (c + 1)]) := upd_same
      have pot : Pot p (k + 1) (upd H p (.lst [.int a, .int b, .int (c + 1)])) := ⟨a, b, c + 1, e1, b0, b1, by omega, by omega⟩
      have fin : ∀ x : Int, Q (.int (x % (m : Int))) (upd H p (.lst [.int a, .int b, .int (c + 1)])) := fun x => by
        obtain ⟨r, er, hr2⟩ := back x
        rw [er]
        exact kk r _ hr2 ch pot
      have u0 : (0 : Int) ≤ b + 472882027 * (c + 1) := by omega
      have u1 : b + 472882027 * (c + 1) < 2 ^ 161 := by
        have : (2 : Int) ^ 161 = 2 ^ 160 + 2 ^ 160 := by decide +kernel
        have h2 : (472882027 * 1000002 : Int) < 2 ^ 160 := by decide +kernel
        rw [this]
        omega
      refine ⟨_, rfl, _, _, _, _, rfl, rfl, SqL.of e1, atI_nat (j := 1) rfl, _, rfl, _, _, _, _, rfl, rfl, SqL.of e1, atI_nat (j := 2) rfl, _, _, rfl, rfl, .inl (by decide), _, _, rfl, rfl, _, _, rfl, rfl, powX_ok u0 u1 (by decide) (by decide), _, _, rfl, rfl, ⟨by decide, by decide, by decide⟩, _, _, rfl, rfl, _, _, rfl, rfl, (by show (0 : Int) < 10 ^ (41 : Int).toNat + 37; decide +kernel), ?_⟩
      have x0 : (0 : Int) ≤ (b + 472882027 * (c + 1)) ^ (3 : Int).toNat % ((10 : Int) ^ (41 : Int).toNat + 37) := Int.emod_nonneg _ (by decide +kernel)
      have x1 : (b + 472882027 * (c + 1)) ^ (3 : Int).toNat % ((10 : Int) ^ (41 : Int).toNat + 37) < (10 : Int) ^ (41 : Int).toNat + 37 := Int.emod_lt_of_pos _ (by decide +kernel)
      have mk : ∀ x : Int, 0 ≤ x → x < (10 : Int) ^ (41 : Int).toNat + 37 → (0 : Int) ≤ x + 715225739 * (c + 1) ∧ x + 715225739 * (c + 1) < 2 ^ 161 := fun x h0 h1 => by
        have h3 : (10 : Int) ^ (41 : Int).toNat + 37 < 2 ^ 160 := by decide +kernel
        have : (2 : Int) ^ 161 = 2 ^ 160 + 2 ^ 160 := by decide +kernel
        have h2 : (715225739 * 1000002 : Int) < 2 ^ 160 := by decide +kernel
        rw [this]
        omega
      obtain ⟨v0, v1⟩ := mk _ x0 x1
      refine ⟨_, rfl, _, rfl, _, _, _, _, rfl, rfl, SqL.of e1, atI_nat (j := 2) rfl, _, _, rfl, rfl, .inl (by decide), _, _, rfl, rfl, _, _, rfl, rfl, powX_ok v0 v1 (by decide) (by decide), _, _, rfl, rfl, ⟨by decide, by decide, by decide⟩, _, _, rfl, rfl, _, _, rfl, rfl, (by show (0 : Int) < 10 ^ (42 : Int).toNat + 63; decide +kernel), ?_⟩
      exact ⟨_, rfl, _, _, rfl, rfl, ⟨by decide, by decide⟩, _, rfl, _, _, rfl, rfl, mp, fin _⟩
def spPot (K : PySem.W.Frag) : Sp := fun vs H Q _ => ∃ a, ∃ ns : List Int, ∃ k : Nat, vs = [.ref a, .int k] ∧ SqL K H a (ns.map V.int) ∧ ns.length ≤ 63 ∧ k ≤ 100 ∧ ∀ p H', New H H' → H p = none → Pot p 0 H' → Q (.ref p) H'
theorem ok_law_pot (T : TX K mg) : FnOk P w K mg base CX0 1 T.law_pot.f T.law_pot.fd ["_law_script", "_law_k"] (spPot K) := by
  have nd := sc_law_pot.nd
  refine T.law_pot.F.ok sc_law_pot (fun vs H Q E h => ?_) (fun cdv A outer s H vs Q E hr h => ?_)
  · obtain ⟨p, k, m, rfl, _⟩ := h
    rfl
  · obtain ⟨a, ns, k, rfl, sq, hl, kz, kk⟩ := h
    refine ⟨_, (pss_cons (ps_set (i := 2) nd rfl (Or.inl rfl) pe_int)
    (pss_cons (ps_if (pt_cmpR op_lt (pv 1) (pe_callB call_len_seq (by rfl) T.z_len PySem.boot_len (pa_cons (pv 0) pa_nil)) (nomark _)) (pss_one (ps_set (i := 2) nd rfl (Or.inl rfl) (pe_ix ix_list (pv 0) (pv 1) (fun _ _ => rfl)))) pss_nil)
    (pss_one (ps_ret (pe_lst (pa_cons (pe_callB (call_max2 rfl) (by rfl) T.z_max (by decide +kernel) (pa_cons pe_int (pa_cons (pe_op op_sub (pv 2) (pe_op op_pow pe_int pe_int)) pa_nil))) (pa_cons (pe_op op_add (pe_op op_add (pe_op op_mul (pe_op op_mod (pv 2) (pe_op op_add (pe_op op_pow pe_int pe_int) pe_int)) pe_int) (pv 1)) pe_int) (pa_cons pe_int pa_nil)))))))), ?_⟩
    refine seq_cut (fun σ1 H1 => σ1 = [some (.ref a), some (.int k), some (.int 0)] ∧ H1 = H) ?_ (fun NX nxt => nxt _ _ ⟨rfl, rfl⟩)
    rintro σ1 H1 ⟨rfl, rfl⟩
    refine seq_cut (fun σ1 H2 => ∃ n : Int, σ1 = [some (.ref a), some (.int k), some (.int n)] ∧ H2 = H1) ?_ ?_
    · rintro σ1 H2 ⟨n, rfl, rfl⟩
      refine ⟨_, rfl, _, _, rfl, rfl, ⟨by decide, by decide, by decide⟩, _, _, rfl, rfl, _, _, rfl, ?_⟩
      refine ⟨_, rfl, _, _, rfl, rfl, ⟨by decide, by decide, by decide⟩, _, _, rfl, rfl, _, _, rfl, rfl, (by show (0 : Int) < 10 ^ (43 : Int).toNat + 63; decide +kernel), _, _, rfl, rfl, .inr (by decide), _, rfl, _, _, rfl, rfl, _, _, rfl, rfl, ?_⟩
      refine ⟨ln3, fun p hp => kk p _ (New.fresh hp) hp ⟨_, _, 0, upd_same, ?_, ?_, by omega, by omega⟩⟩
      · have := Int.emod_nonneg n (show (10 : Int) ^ (43 : Int).toNat + 63 ≠ 0 by decide +kernel)
        show (0 : Int) ≤ n % (10 ^ (43 : Int).toNat + 63) * 128 + k + 1
        omega
      · have h1 := Int.emod_lt_of_pos n (show (0 : Int) < (10 : Int) ^ (43 : Int).toNat + 63 by decide +kernel)
        have h2 : ((10 : Int) ^ (43 : Int).toNat + 63) * 128 + 200 < 2 ^ 160 := by decide +kernel
        show n % (10 ^ (43 : Int).toNat + 63) * 128 + k + 1 < 2 ^ 160
        omega
    · intro NX nxt
      refine ⟨_, rfl, _, rfl, _, _, rfl, .inl sq, _, _, rfl, rfl, decide ((k : Int) < ((ns.map V.int).length : Int)), rfl, ?_⟩
      by_cases c : (k : Int) < ((ns.map V.int).length : Int)
      · rw [decide_eq_true c]
        rw [List.length_map] at c
        have kl : k < ns.length := by omega
        refine iteT ⟨_, rfl, _, rfl, _, _, _, _, rfl, rfl, sq, atI_nat (j := k) (v := .int ns[k]) (by rw [List.getElem?_map, List.getElem?_eq_getElem kl]; rfl), nxt _ _ ⟨ns[k], rfl, rfl⟩⟩
      · rw [decide_eq_false c]
        exact iteF (nxt _ _ ⟨0, rfl, rfl⟩)
end
end N7
namespace N7
open PySem PySem.Spec PyProof.Rows L2
open PySem.W (Datum DatumOrd Holds HoldAll)
local macro_rules | `(tactic| l_intsW) => `(tactic| dsimp only [tSeq, tNext, tAsg, tDrop, tBM, tBM0, tCons, tNil, tRet, tRetN, tIfS, tTest, tOp, tC, tTup, tLst, tCB, tIf, tAndV, tOrV, tNotV, tDGet, tDIn, tDNotIn, sDPut, sDDel, tCall, tMeth, tMake, sFld, tSl, tPart, tNoPart, cxOf, Cx.nox, Cx.wish, List.map_cons, List.map_nil])
section
theorem ch_fresh {A : Addr → Prop} {H H' : Hp} {D : Addr} {o : HO} (c : Ch A H A H') (h : H D = none) : Ch A H A (upd H' D o) :=
  ⟨fun b u e n => by rw [upd_ne (ne_of_none e h)]; exact c.keep b u e n, fun a u t e => by rw [upd_ne (ne_of_none e h)]; exact c.tup a u t e, fun _ x => .inl x, fun b e => c.dom b (dom_upd b e)⟩
theorem abc_tl : TL.tl ("abcdefghijklmnopqrstuvwxyz" : Str) = [97, 98, 99, 100, 101, 102, 103, 104, 105, 106, 107, 108, 109, 110, 111, 112, 113, 114, 115, 116, 117, 118, 119, 120, 121, 122] := by decide +kernel
/-- one letter -/
def letterB (x : Str) : Prop := ∃ c, x = ⟨#[c]⟩ ∧ c ∈ TL.tl ("abcdefghijklmnopqrstuvwxyz" : Str)
theorem join_letters : ∀ l : List Str, (∀ x ∈ l, letterB x) → (TL.tl (Str.join "" l)).length = l.length ∧ ∀ c ∈ TL.tl (Str.join "" l), c ∈ TL.tl ("abcdefghijklmnopqrstuvwxyz" : Str) := by
  intro l h
  rw [TL.tl_join]
  have e0 : TL.tl ("" : Str) = [] := by decide +kernel
  rw [e0]
  induction l with
  | nil => exact ⟨rfl, fun c hc => nomatch hc⟩
  | cons x l ih =>
    obtain ⟨c, rfl, hc⟩ := h x (List.mem_cons_self ..)
    obtain ⟨i1, i2⟩ := ih fun y hy => h y (List.mem_cons_of_mem _ hy)
    cases l with
    | nil =>
      refine ⟨rfl, fun d hd => ?_⟩
      rw [List.mem_singleton.mp hd]
      exact hc
    | cons y r =>
      refine ⟨?_, fun d hd => ?_⟩
      · show ([c] ++ ([] ++ TL.joinL [] ((y :: r).map TL.tl))).length = _
        rw [List.nil_append, List.length_append, i1]
        show 1 + _ = _
        rw [List.length_cons, List.length_cons, List.length_cons]
        omega
      · rcases List.mem_append.mp (show d ∈ [c] ++ ([] ++ TL.joinL [] ((y :: r).map TL.tl)) from hd) with m | m
        · rw [List.mem_singleton.mp m]; exact hc
        · rw [List.nil_append] at m; exact i2 d m
theorem name_join {l : List Str} (h : ∀ x ∈ l, letterB x) (h1 : 1 ≤ l.length) (h8 : l.length ≤ 8) : nameB (Txt.join "" l) = true := by
  obtain ⟨e1, e2⟩ := join_letters l h
  rw [TL.join_eq]
  have e3 : (Str.join "" l).length = l.length := by rw [TL.len_tl]; exact e1
  unfold nameB
  rw [decide_eq_true (by omega), decide_eq_true (by omega), Bool.true_and, Bool.true_and, List.all_eq_true]
  exact fun c hc => decide_eq_true (e2 c hc)
variable {P : Program} {w : World} {K : PySem.W.Frag} {mg : Str → Option Value} {base : Heap}
def someNames : List Str := ["an", "bo", "stamp", "ask", "floor", "want", "hear", "join", "part", "done", "abcdefgh", "forgo"]
theorem some_ok : ∀ n ∈ someNames, nameB n = true := by decide +kernel
def spName : Sp := fun vs H Q _ => ∃ p k, vs = [.ref p] ∧ Pot p k H ∧ k ≤ 900000 ∧ ∀ n H', nameB n = true → Ch (At p) H (At p) H' → Pot p (k + 20) H' → Q (.str n) H'
theorem ok_law_name (T : TX K mg) : FnOk P w K mg base CX0 2 T.law_name.f T.law_name.fd ["_law_pot_here"] spName := by
  have nd := sc_law_name.nd
  refine T.law_name.F.ok sc_law_name (fun vs H Q E h => ?_) (fun cdv A outer s H vs Q E hr h => ?_)
  · obtain ⟨p, k, rfl, _⟩ := h
    rfl
  · obtain ⟨p, k, rfl, po, kz, kk⟩ := h
    refine ⟨_, (pss_cons (ps_set (i := 1) nd rfl (Or.inl rfl) (pe_lst (pa_cons pe_str (pa_cons pe_str (pa_cons pe_str (pa_cons pe_str (pa_cons pe_str (pa_cons pe_str (pa_cons pe_str (pa_cons pe_str (pa_cons pe_str (pa_cons pe_str (pa_cons pe_str (pa_cons pe_str pa_nil))))))))))))))
    (pss_cons (ps_if (pt_cmpR op_gt (pe_call (ok_law_dip T) (hr.mono (by decide)) rfl T.g_law_dip T.law_dip.F.kp T.law_dip.b .nil pass0 (pa_cons (pv 0) (pa_cons pe_int pa_nil))) pe_int (nomark _)) (pss_one (ps_ret (pe_ix ix_list (pv 1) (pe_call (ok_law_dip T) (hr.mono (by decide)) rfl T.g_law_dip T.law_dip.F.kp T.law_dip.b .nil pass0 (pa_cons (pv 0) (pa_cons pe_int pa_nil))) (fun _ _ => rfl)))) pss_nil)
    (pss_one (ps_ret (pe_join pe_str (pe_lc (own := [("_law_k", 2)]) (g := gName 2) (tt := tYes) rfl nd (pi_range1 rfl T.z_range (pa_cons (pe_op op_add pe_int (pe_call (ok_law_dip T) (hr.mono (by decide)) rfl T.g_law_dip T.law_dip.F.kp T.law_dip.b .nil pass0 (pa_cons (pv 0) (pa_cons pe_int pa_nil)))) pa_nil)) (blkOk_by (N := ["_law_pot_here", "_law_some", "_law_k"]) (sc := defScope s_law_name) (by decide +kernel)) (fun _ _ _ _ _ => (pg_name (i := 2) nd rfl (Or.inl rfl))) (fun _ _ _ _ _ => pts_nil) (fun _ _ _ _ _ => (pe_ix (r := rIxS) ix_str pe_str (pe_call (ok_law_dip T) (hr.mono (by decide)) rfl T.g_law_dip T.law_dip.F.kp T.law_dip.b .nil pass0 (pa_cons (pv 0) (pa_cons pe_int pa_nil))) (fun _ _ => rfl))))))))), ?_⟩
    refine ⟨sz_le (by decide), fun q hq => ?_⟩
    have n1 : New H (upd H q (.lst (someNames.map V.str))) := New.fresh hq
    have po1 := po.new n1
    have pq : q ≠ p := fun z => by
      obtain ⟨_, _, _, e, _⟩ := po
      rw [z] at hq
      rw [hq] at e
      cases e
    have eq1 : (upd H q (.lst (someNames.map V.str))) q = some (.lst (someNames.map V.str)) := upd_same
    refine ⟨_, rfl, p, k, 3, rfl, po1, by omega, by omega, by omega, fun r H2 hr2 c2 po2 => ?_⟩
    refine ⟨_, _, rfl, rfl, decide ((r : Int) > 0), rfl, ?_⟩
    have c1 : Ch (At p) H (At p) H2 := Ch.trans n1.to c2
    by_cases cr : (r : Int) > 0
    · rw [decide_eq_true cr]
      refine iteT ⟨_, rfl, _, rfl, p, k + 1, 12, rfl, po2, by omega, by omega, by omega, fun r2 H3 hr3 c3 po3 => ?_⟩
      have eq3 : H3 q = some (.lst (someNames.map V.str)) := c3.keep _ _ (c2.keep _ _ eq1 pq) pq
      have hl : r2 < someNames.length := hr3
      refine ⟨_, _, _, _, rfl, rfl, SqL.of eq3, atI_nat (j := r2) (v := .str someNames[r2]) (by rw [List.getElem?_map, List.getElem?_eq_getElem hl]; rfl), ?_⟩
      exact kk _ _ (some_ok _ (List.getElem_mem hl)) (c1.trans c3) (po3.mono (by omega))
    · rw [decide_eq_false cr]
      refine iteF ⟨⟨_, rfl⟩, ?_⟩
      dsimp only [tLc]
      refine ⟨_, rfl, p, k + 1, 8, rfl, po2, by omega, by omega, by omega, fun r2 H3 hr3 c3 po3 => ⟨_, _, rfl, rfl, _, rfl, ?_, ?_, fun D hD => ?_⟩⟩
      · show -(2 ^ 62) ≤ 1 + (r2 : Int)
        omega
      · show 1 + (r2 : Int) < _
        omega
      have c13 := c1.trans c3
      have en : (1 + (r2 : Int)).toNat = r2 + 1 := by omega
      have pD : p ≠ D := fun z => by
        obtain ⟨_, _, _, e, _⟩ := po3
        rw [z, hD] at e
        cases e
      refine lc_it walk_range (fun i H' => Ch (At p) H3 (At p) H' ∧ Pot p (k + 2 + i) H' ∧ i ≤ 8 ∧ ∃ l : List Str, H' D = some (.lst (l.map V.str)) ∧ l.length = i ∧ ∀ x ∈ l, letterB x) ?_ (fun _ _ _ _ => trivial) ?_ ?_
      · refine ⟨ch_fresh (Ch.refl _ _) hD, ?_, by omega, [], upd_same, rfl, fun x hx => nomatch hx⟩
        exact po3.new (New.fresh hD)
      · rintro i x H4 H5 hi ⟨c4, po4, hi8, l, el, ll, hl⟩ y
        have hi' : i < r2 + 1 := by rw [← en]; exact hi
        obtain ⟨ey, ex⟩ := y
        subst ey
        refine ⟨rfl, yes_go ?_⟩
        refine ⟨_, rfl, p, _, 26, rfl, po4, by omega, by omega, by omega, fun r3 H6 hr3' c6 po6 => ?_⟩
        have lt : r3 < (TL.tl ("abcdefghijklmnopqrstuvwxyz" : Str)).length := by rw [abc_tl]; exact hr3'
        refine ⟨_, _, (TL.tl ("abcdefghijklmnopqrstuvwxyz" : Str))[r3], rfl, rfl, sz_le (by decide +kernel), atI_nat (j := r3) (List.getElem?_eq_getElem lt), ?_⟩
        have eD : H6 D = some (.lst (l.map V.str)) := c6.keep _ _ el (Ne.symm pD)
        refine ⟨_, eD, by rw [List.length_map, ll, sizeLine_eq]; omega, ch_fresh (c4.trans c6) hD, ?_, by omega, l ++ [⟨#[(TL.tl ("abcdefghijklmnopqrstuvwxyz" : Str))[r3]]⟩], ?_, by rw [List.length_append, ll]; rfl, ?_⟩
        · obtain ⟨a, b, c, e, rr⟩ := po6
          exact ⟨a, b, c, by rw [upd_ne pD]; exact e, by have := rr; omega⟩
        · rw [List.map_append]; exact upd_same
        · intro x hx
          rcases List.mem_append.mp hx with hx | hx
          · exact hl x hx
          · rw [List.mem_singleton.mp hx]; exact ⟨_, rfl, List.getElem_mem lt⟩
      · rintro H4 ⟨c4, po4, hi8, l, el, ll, hl⟩
        rw [en] at ll
        refine ⟨_, D, l, rfl, rfl, .inl (SqL.of el), ?_, kk _ _ (name_join hl (by omega) (by omega)) (c13.trans c4) (po4.mono (by omega))⟩
        have : (l.map (·.length)).sum = l.length := by
          clear el ll po4 c4 hi8
          induction l with
          | nil => rfl
          | cons x l ih =>
            obtain ⟨c, rfl, _⟩ := hl x (List.mem_cons_self ..)
            rw [List.map_cons, List.sum_cons, ih fun y hy => hl y (List.mem_cons_of_mem _ hy)]
            show 1 + _ = _
            rw [List.length_cons]; omega
        rw [this, show ("" : Str).length = 0 by decide +kernel]
        omega
end
end N7
namespace N7
open PySem PySem.Spec PyProof.Rows L2
open PySem.W (Datum DatumOrd Holds HoldAll)
local macro_rules | `(tactic| l_intsW) => `(tactic| dsimp only [tSeq, tNext, tAsg, tDrop, tBM, tBM0, tCons, tNil, tRet, tRetN, tIfS, tTest, tOp, tC, tTup, tLst, tCB, tIf, tAndV, tOrV, tNotV, tDGet, tDIn, tDNotIn, sDPut, sDDel, tCall, tMeth, tMake, sFld, tSl, tPart, tNoPart, cxOf, Cx.nox, Cx.wish, List.map_cons, List.map_nil])
section
/-- what the law itself draws: numbers of nine figures at most -/
def smS (s : Stp) : Prop := (∃ n : Nat, s.1 = n ∧ n < 10 ^ 9) ∧ nameB s.2 = true
def smL : Letter → Prop
  | .stamp s => smS s
  | _ => True
def smW : What → Prop
  | .join n => nameB n = true
  | .part n => nameB n = true
  | .hear n l => nameB n = true ∧ smL l
  | _ => True
theorem smS.ok {s : Stp} (h : smS s) : okT s := by
  obtain ⟨⟨n, e, hn⟩, h2⟩ := h
  exact ⟨⟨n, e, Nat.lt_of_lt_of_le hn (Nat.pow_le_pow_right (by decide) (by decide))⟩, h2⟩
theorem smL.ok {l : Letter} (h : smL l) : okTL l := by
  cases l with
  | stamp s => exact smS.ok h
  | ask => trivial
  | floor => trivial
theorem smW.ok {w : What} (h : smW w) : okW w := by
  cases w with
  | hear n l => exact ⟨h.1, smL.ok h.2⟩
  | join n => exact h
  | part n => exact h
  | want => trivial
  | forgo => trivial
  | done => trivial
variable {P : Program} {w : World} {K : PySem.W.Frag} {mg : Str → Option Value} {base : Heap}
def spDraw {α : Type} [DecidableEq α] [Datum α] (ok : α → Prop) (d z : Nat) : Sp := fun vs H Q _ => ∃ p k, vs = [.ref p] ∧ Pot p k H ∧ k ≤ z ∧ ∀ v (x : α) H', ok x → Dt H' v x → Ch (At p) H (At p) H' → Pot p (k + d) H' → Q v H'
theorem ok_law_letter (T : TX K mg) : FnOk P w K mg base CX0 3 T.law_letter.f T.law_letter.fd ["_law_pot_here"] (spDraw smL 30 800000) := by
  have nd := sc_law_letter.nd
  refine T.law_letter.F.ok sc_law_letter (fun vs H Q E h => ?_) (fun cdv A outer s H vs Q E hr h => ?_)
  · obtain ⟨p, k, rfl, _⟩ := h
    rfl
  · obtain ⟨p, k, rfl, po, kz, kk⟩ := h
    refine ⟨_, (pss_cons (ps_set (i := 1) nd rfl (Or.inl rfl) (pe_ix ix_list (pe_lst (pa_cons pe_int (pa_cons (pe_call (ok_law_dip T) (hr.mono (by decide)) rfl T.g_law_dip T.law_dip.F.kp T.law_dip.b .nil pass0 (pa_cons (pv 0) (pa_cons pe_int pa_nil))) (pa_cons (pe_call (ok_law_dip T) (hr.mono (by decide)) rfl T.g_law_dip T.law_dip.F.kp T.law_dip.b .nil pass0 (pa_cons (pv 0) (pa_cons pe_int pa_nil))) (pa_cons pe_int pa_nil))))) (pe_call (ok_law_dip T) (hr.mono (by decide)) rfl T.g_law_dip T.law_dip.F.kp T.law_dip.b .nil pass0 (pa_cons (pv 0) (pa_cons pe_int pa_nil))) (fun _ _ => rfl)))
    (pss_one (ps_ret (pe_ix ix_list (pe_lst (pa_cons (pe_tup (pa_cons pe_str (pa_cons (pv 1) (pa_cons (pe_call (ok_law_name T) (hr.mono (by decide)) rfl T.g_law_name T.law_name.F.kp T.law_name.b .nil pass0 (pa_cons (pv 0) pa_nil)) pa_nil)))) (pa_cons (pe_tup (pa_cons pe_str pa_nil)) (pa_cons (pe_tup (pa_cons pe_str pa_nil)) pa_nil)))) (pe_op op_mod (pe_call (ok_law_dip T) (hr.mono (by decide)) rfl T.g_law_dip T.law_dip.F.kp T.law_dip.b .nil pass0 (pa_cons (pv 0) (pa_cons pe_int pa_nil))) pe_int) (fun _ _ => rfl))))), ?_⟩
    refine ⟨_, rfl, p, k, 9, rfl, po, by omega, by omega, by omega, fun r1 H1 h1 c1 po1 => ?_⟩
    refine ⟨_, rfl, p, k + 1, 999, rfl, po1, by omega, by omega, by omega, fun r2 H2 h2 c2 po2 => ?_⟩
    refine ⟨ln4, fun q hq => ?_⟩
    have n3 : New H2 (upd H2 q (.lst [.int 0, .int r1, .int r2, .int 999999999])) := New.fresh hq
    have po3 := po2.new n3
    have pq : q ≠ p := fun z => by
      obtain ⟨_, _, _, e, _⟩ := po2
      rw [z] at hq
      rw [hq] at e
      cases e
    refine ⟨_, rfl, p, k + 2, 4, rfl, po3, by omega, by omega, by omega, fun r3 H4 h3 c4 po4 => ?_⟩
    have e4 : H4 q = some (.lst [.int 0, .int r1, .int r2, .int 999999999]) := c4.keep _ _ upd_same pq
    have hn : ∃ n : Nat, ([.int 0, .int r1, .int r2, .int 999999999] : List V)[r3]? = some (.int n) ∧ n < 10 ^ 9 := by
      match r3, h3 with
      | 0, _ => exact ⟨0, rfl, by decide⟩
      | 1, _ => exact ⟨r1, rfl, by omega⟩
      | 2, _ => exact ⟨r2, rfl, by omega⟩
      | 3, _ => exact ⟨999999999, rfl, by decide⟩
    obtain ⟨n, en, nz⟩ := hn
    refine ⟨_, _, _, _, rfl, rfl, SqL.of e4, atI_nat (j := r3) en, ?_⟩
    have c14 := ((c1.trans c2).trans n3.to).trans c4
    refine ⟨_, rfl, _, rfl, p, k + 3, rfl, po4, by omega, fun a H5 oa c5 po5 => ?_⟩
    refine ⟨ln3, fun q1 hq1 => ?_⟩
    have d1 : Dt (upd H5 q1 (.tup [.str "stamp", .int n, .str a])) (.ref q1) (Letter.stamp ((n : Int), a)) := newQ hq1 (.cons (.str _) (.cons (.int _) (.cons (.str _) .nil)))
    have m1 := New.fresh (o := .tup [.str "stamp", .int n, .str a]) hq1
    refine ⟨ln1, fun q2 hq2 => ?_⟩
    have d2 : Dt (upd (upd H5 q1 (.tup [.str "stamp", .int n, .str a])) q2 (.tup [.str "ask"])) (.ref q2) Letter.ask := newQ hq2 (.cons (.str _) .nil)
    have m2 := New.fresh (o := .tup [.str "ask"]) hq2
    refine ⟨ln1, fun q3 hq3 => ?_⟩
    have d3 : Dt (upd (upd (upd H5 q1 (.tup [.str "stamp", .int n, .str a])) q2 (.tup [.str "ask"])) q3 (.tup [.str "floor"])) (.ref q3) Letter.floor := newQ hq3 (.cons (.str _) .nil)
    have m3 := New.fresh (o := .tup [.str "floor"]) hq3
    refine ⟨ln3, fun q4 hq4 => ?_⟩
    have m4 := New.fresh (o := .lst [.ref q1, .ref q2, .ref q3]) hq4
    have m := ((m1.comp m2).comp m3).comp m4
    have po6 := po5.new m
    have pq4 : q4 ≠ p := fun z => by
      obtain ⟨_, _, _, e, _⟩ := (po5.new m1).new (m2.comp m3)
      rw [z] at hq4
      rw [hq4] at e
      cases e
    refine ⟨_, rfl, p, _, 5, rfl, po6, by omega, by omega, by omega, fun r4 H7 h4 c7 po7 => ?_⟩
    have e7 := c7.keep _ _ upd_same pq4
    have c17 := ((c14.trans c5).trans m.to).trans c7
    have t34 := m4.tup.trans c7.tup
    refine ⟨_, _, rfl, rfl, (by show (0 : Int) < 3; decide), ?_⟩
    have er : ∃ r5 : Nat, (r4 : Int) % 3 = (r5 : Nat) ∧ r5 < 3 := ⟨r4 % 3, by omega, Nat.mod_lt _ (by decide)⟩
    obtain ⟨r5, e5, h5⟩ := er
    have po8 := po7.mono (show _ ≤ k + 30 by omega)
    have go : ∀ j : Nat, j < 3 → Dt H7 (.ref q1) (Letter.stamp ((n : Int), a)) → ∃ v, ([.ref q1, .ref q2, .ref q3] : List V)[j]? = some v ∧ Q v H7 := fun j hj dd => by
      match j, hj with
      | 0, _ => exact ⟨_, rfl, kk _ (Letter.stamp ((n : Int), a)) _ ⟨⟨n, rfl, nz⟩, oa⟩ dd c17 po8⟩
      | 1, _ => exact ⟨_, rfl, kk _ Letter.ask _ trivial (d2.tups (m3.tup.trans t34)) c17 po8⟩
      | 2, _ => exact ⟨_, rfl, kk _ Letter.floor _ trivial (d3.tups t34) c17 po8⟩
    obtain ⟨v, ev, qv⟩ := go r5 h5 (d1.tups ((m2.tup.trans m3.tup).trans t34))
    exact ⟨_, _, _, _, rfl, congrArg V.int e5, SqL.of e7, atI_nat (j := r5) ev, qv⟩
theorem ok_law_what (T : TX K mg) : FnOk P w K mg base CX0 4 T.law_what.f T.law_what.fd ["_law_pot_here"] (spDraw smW 60 700000) := by
  have nd := sc_law_what.nd
  refine T.law_what.F.ok sc_law_what (fun vs H Q E h => ?_) (fun cdv A outer s H vs Q E hr h => ?_)
  · obtain ⟨p, k, rfl, _⟩ := h
    rfl
  · obtain ⟨p, k, rfl, po, kz, kk⟩ := h
    refine ⟨_, (pss_cons (ps_set (i := 1) nd rfl (Or.inl rfl) (pe_call (ok_law_name T) (hr.mono (by decide)) rfl T.g_law_name T.law_name.F.kp T.law_name.b .nil pass0 (pa_cons (pv 0) pa_nil)))
    (pss_cons (ps_set (i := 2) nd rfl (Or.inl rfl) (pe_lst (pa_cons (pe_tup (pa_cons pe_str pa_nil)) (pa_cons (pe_tup (pa_cons pe_str pa_nil)) (pa_cons (pe_tup (pa_cons pe_str pa_nil)) (pa_cons (pe_tup (pa_cons pe_str (pa_cons (pv 1) pa_nil))) (pa_cons (pe_tup (pa_cons pe_str (pa_cons (pv 1) pa_nil))) pa_nil)))))))
    (pss_one (ps_ret (pe_ix ix_list (pe_op op_cat (pv 2) (pe_op op_rep (pe_lst (pa_cons (pe_tup (pa_cons pe_str (pa_cons (pv 1) (pa_cons (pe_call (ok_law_letter T) (hr.mono (by decide)) rfl T.g_law_letter T.law_letter.F.kp T.law_letter.b .nil pass0 (pa_cons (pv 0) pa_nil)) pa_nil)))) pa_nil)) pe_int)) (pe_call (ok_law_dip T) (hr.mono (by decide)) rfl T.g_law_dip T.law_dip.F.kp T.law_dip.b .nil pass0 (pa_cons (pv 0) (pa_cons pe_int pa_nil))) (fun _ _ => rfl)))))), ?_⟩
    refine ⟨_, rfl, p, k, rfl, po, by omega, fun a H1 oa c1 po1 => ?_⟩
    refine ⟨ln1, fun q1 hq1 => ?_⟩
    have m1 := New.fresh (o := .tup [.str "want"]) hq1
    have d1 : Dt (upd H1 q1 (.tup [.str "want"])) (.ref q1) What.want := newQ hq1 (.cons (.str _) .nil)
    generalize upd H1 q1 (.tup [.str "want"]) = H2 at m1 d1 ⊢
    refine ⟨ln1, fun q2 hq2 => ?_⟩
    have m2 := New.fresh (o := .tup [.str "forgo"]) hq2
    have d2 : Dt (upd H2 q2 (.tup [.str "forgo"])) (.ref q2) What.forgo := newQ hq2 (.cons (.str _) .nil)
    generalize upd H2 q2 (.tup [.str "forgo"]) = H3 at m2 d2 ⊢
    refine ⟨ln1, fun q3 hq3 => ?_⟩
    have m3 := New.fresh (o := .tup [.str "done"]) hq3
    have d3 : Dt (upd H3 q3 (.tup [.str "done"])) (.ref q3) What.done := newQ hq3 (.cons (.str _) .nil)
    generalize upd H3 q3 (.tup [.str "done"]) = H4 at m3 d3 ⊢
    refine ⟨_, rfl, ln2, fun q4 hq4 => ?_⟩
    have m4 := New.fresh (o := .tup [.str "join", .str a]) hq4
    have d4 : Dt (upd H4 q4 (.tup [.str "join", .str a])) (.ref q4) (What.join a) := newQ hq4 (.cons (.str _) (.cons (.str _) .nil))
    generalize upd H4 q4 (.tup [.str "join", .str a]) = H5 at m4 d4 ⊢
    refine ⟨_, rfl, ln2, fun q5 hq5 => ?_⟩
    have m5 := New.fresh (o := .tup [.str "part", .str a]) hq5
    have d5 : Dt (upd H5 q5 (.tup [.str "part", .str a])) (.ref q5) (What.part a) := newQ hq5 (.cons (.str _) (.cons (.str _) .nil))
    generalize upd H5 q5 (.tup [.str "part", .str a]) = H6 at m5 d5 ⊢
    refine ⟨sz_le (by show 5 ≤ 1000000; decide), fun q6 hq6 => ?_⟩
    have m6 := New.fresh (o := .lst [.ref q1, .ref q2, .ref q3, .ref q4, .ref q5]) hq6
    have e6 : (upd H6 q6 (.lst [.ref q1, .ref q2, .ref q3, .ref q4, .ref q5])) q6 = some (.lst [.ref q1, .ref q2, .ref q3, .ref q4, .ref q5]) := upd_same
    have m16 := ((((m1.comp m2).comp m3).comp m4).comp m5)
    have po6 := (po1.new m16).new m6
    have pq6 : q6 ≠ p := fun z => by
      obtain ⟨_, _, _, e, _⟩ := po1.new m16
      rw [z] at hq6
      rw [hq6] at e
      cases e
    have t1 := (m2.tup.trans m3.tup).trans (m4.tup.trans m5.tup)
    have t2 := m3.tup.trans (m4.tup.trans m5.tup)
    have t3 := m4.tup.trans m5.tup
    have d1' := d1.tups (t1.trans m6.tup)
    have d2' := d2.tups (t2.trans m6.tup)
    have d3' := d3.tups (t3.trans m6.tup)
    have d4' := d4.tups (m5.tup.trans m6.tup)
    have d5' := d5.tups m6.tup
    have c6 : Ch (At p) H (At p) (upd H6 q6 (.lst [.ref q1, .ref q2, .ref q3, .ref q4, .ref q5])) := c1.trans (m16.comp m6).to
    clear d1 d2 d3 d4 d5 t1 t2 t3 m1 m2 m3 m4 m5 m16
    generalize upd H6 q6 (.lst [.ref q1, .ref q2, .ref q3, .ref q4, .ref q5]) = H7 at *
    refine ⟨_, rfl, ?_⟩
    refine ⟨_, rfl, _, rfl, p, _, rfl, po6, by omega, fun lv l H8 ol dl c8 po8 => ?_⟩
    refine ⟨ln3, fun q7 hq7 => ?_⟩
    have m7 := New.fresh (o := .tup [.str "hear", .str a, lv]) hq7
    have d6 : Dt (upd H8 q7 (.tup [.str "hear", .str a, lv])) (.ref q7) (What.hear a l) := newQ hq7 (.cons (.str _) (.cons (.str _) (.cons dl .nil)))
    have po9 := po8.new m7
    have e9 := m7.at (c8.keep _ _ e6 pq6)
    have c9 := (c6.trans c8).trans m7.to
    have tt := c8.tup.trans m7.tup
    have d1 := d1'.tups tt
    have d2 := d2'.tups tt
    have d3 := d3'.tups tt
    have d4 := d4'.tups tt
    have d5 := d5'.tups tt
    clear d1' d2' d3' d4' d5' tt c8 m7
    generalize upd H8 q7 (.tup [.str "hear", .str a, lv]) = H9 at *
    refine ⟨ln1, fun q8 hq8 => ?_⟩
    have m8 := New.fresh (o := .lst [.ref q7]) hq8
    refine ⟨_, _, [.ref q7], rfl, rfl, upd_same, by decide, by decide, sz_le (by show 1 * 3 ≤ 1000000; decide), fun q9 hq9 => ?_⟩
    have m9 := m8.comp (New.fresh (o := .lst [.ref q7, .ref q7, .ref q7]) hq9)
    refine ⟨_, _, _, [.ref q7, .ref q7, .ref q7], rfl, rfl, m9.at e9, upd_same, sz_le (by show 8 ≤ 1000000; decide), fun q10 hq10 => ?_⟩
    have m10 := m9.comp (New.fresh (o := .lst [.ref q1, .ref q2, .ref q3, .ref q4, .ref q5, .ref q7, .ref q7, .ref q7]) hq10)
    have po10 := po9.new m10
    have pq10 : q10 ≠ p := fun z => by
      obtain ⟨_, _, _, e, _⟩ := po9.new m9
      rw [z] at hq10
      exact absurd (hq10.symm.trans e) (by intro y; cases y)
    refine ⟨_, rfl, p, _, 8, rfl, po10, by omega, by omega, by omega, fun r H10 hr10 c10 po11 => ?_⟩
    have e10 := c10.keep _ _ upd_same pq10
    have cc := (c9.trans m10.to).trans c10
    have tt := m10.tup.trans c10.tup
    have po12 := po11.mono (show _ ≤ k + 60 by omega)
    have go : ∃ v, ([.ref q1, .ref q2, .ref q3, .ref q4, .ref q5, .ref q7, .ref q7, .ref q7] : List V)[r]? = some v ∧ Q v H10 := by
      match r, hr10 with
      | 0, _ => exact ⟨_, rfl, kk _ What.want _ trivial (d1.tups tt) cc po12⟩
      | 1, _ => exact ⟨_, rfl, kk _ What.forgo _ trivial (d2.tups tt) cc po12⟩
      | 2, _ => exact ⟨_, rfl, kk _ What.done _ trivial (d3.tups tt) cc po12⟩
      | 3, _ => exact ⟨_, rfl, kk _ (What.join a) _ oa (d4.tups tt) cc po12⟩
      | 4, _ => exact ⟨_, rfl, kk _ (What.part a) _ oa (d5.tups tt) cc po12⟩
      | 5, _ => exact ⟨_, rfl, kk _ (What.hear a l) _ ⟨oa, ol⟩ (d6.tups tt) cc po12⟩
      | 6, _ => exact ⟨_, rfl, kk _ (What.hear a l) _ ⟨oa, ol⟩ (d6.tups tt) cc po12⟩
      | 7, _ => exact ⟨_, rfl, kk _ (What.hear a l) _ ⟨oa, ol⟩ (d6.tups tt) cc po12⟩
    obtain ⟨v, ev, qv⟩ := go
    exact ⟨_, _, _, _, rfl, rfl, SqL.of e10, atI_nat (j := r) ev, qv⟩
end
end N7
namespace N7
open PySem PySem.Spec PyProof.Rows L2
open PySem.W (Datum DatumOrd Holds HoldAll)
local macro_rules | `(tactic| l_intsW) => `(tactic| dsimp only [tSeq, tNext, tAsg, tDrop, tBM, tBM0, tCons, tNil, tRet, tRetN, tIfS, tTest, tOp, tC, tTup, tLst, tCB, tIf, tAndV, tOrV, tNotV, tDGet, tDIn, tDNotIn, sDPut, sDDel, tCall, tMeth, tMake, sFld, tSl, tPart, tNoPart, cxOf, Cx.nox, Cx.wish, List.map_cons, List.map_nil])
section
variable {P : Program} {w : World} {K : PySem.W.Frag} {mg : Str → Option Value} {base : Heap}
theorem e_stamp : ("stamp " : Str) = "stamp" ++ " " := by decide +kernel
theorem app_assoc (a b c : Str) : a ++ b ++ c = a ++ (b ++ c) := TL.ext_tl (by rw [TL.tl_append, TL.tl_append, TL.tl_append, TL.tl_append, List.append_assoc])
theorem big_ok {n : Nat} (hn : n < 10 ^ 2000) : n < 10 ^ 4300 := Nat.lt_of_lt_of_le hn (Nat.pow_le_pow_right (by decide) (by decide))
theorem ok_law_shown (T : TX K mg) (nb : base.NoDigits) : FnOk P w K mg base CX0 1 T.law_shown.f T.law_shown.fd ["_law_letter_here"] (spSh K okTL letT) := by
  have nd := sc_law_shown.nd
  refine T.law_shown.F.ok sc_law_shown (fun vs H Q E h => ?_) (fun cdv A outer s H vs Q E hr h => ?_)
  · obtain ⟨v, x, rfl, _⟩ := h
    rfl
  · obtain ⟨v, l, rfl, d, ok, k⟩ := h
    refine ⟨_, (pss_one (ps_ret (pe_ifExp (pt_cmpR op_eq (pe_callB call_len_seq (by rfl) T.z_len PySem.boot_len (pa_cons (pv 0) pa_nil)) pe_int (nomark _)) (pe_op op_add_str (pe_op op_add_str (pe_op op_add_str pe_str (pe_callTy (cr_strD nb rfl) (by rfl) T.z_str (by decide +kernel) (pa_cons (pe_ix ix_tup (pv 0) pe_int (fun _ _ => rfl)) pa_nil))) pe_str) (pe_ix ix_tup (pv 0) pe_int (fun _ _ => rfl))) (pe_ix ix_tup (pv 0) pe_int (fun _ _ => rfl))))), ?_⟩
    obtain ⟨a, rfl, c⟩ := let_sq d
    rcases c with ⟨rfl, sq⟩ | ⟨rfl, sq⟩ | ⟨st, rfl, sq⟩
    · refine ⟨_, rfl, _, _, rfl, .inr sq, rfl, false, rfl, ?_⟩
      exact iteF ⟨_, rfl, _, _, _, _, rfl, rfl, sq, atI_nat (j := 0) rfl, k _ (New.refl _)⟩
    · refine ⟨_, rfl, _, _, rfl, .inr sq, rfl, false, rfl, ?_⟩
      exact iteF ⟨_, rfl, _, _, _, _, rfl, rfl, sq, atI_nat (j := 0) rfl, k _ (New.refl _)⟩
    · have hz := st_len ok
      obtain ⟨⟨n, en, hn⟩, ho⟩ := ok
      obtain ⟨i, b⟩ := st
      dsimp only at en ho
      subst en
      have hl := (name_len ho).2
      have hnl := num_len hn
      have l6 : ("stamp " : Str).length = 6 := by decide +kernel
      have l1 : ("." : Str).length = 1 := by decide +kernel
      refine ⟨_, rfl, _, _, rfl, .inr sq, rfl, true, rfl, ?_⟩
      refine iteT ⟨_, rfl, _, _, _, _, rfl, rfl, sq, atI_nat (j := 1) rfl, _, rfl, big_ok hn, _, _, rfl, rfl, sz_le ?_, _, _, rfl, rfl, sz_le ?_, _, rfl, _, _, _, _, rfl, rfl, sq, atI_nat (j := 2) rfl, _, _, rfl, rfl, sz_le ?_, ?_⟩
      · show ("stamp " : Str).length + (numT n).length ≤ 1000000
        omega
      · show ("stamp " ++ numT n : Str).length + ("." : Str).length ≤ 1000000
        rw [len_app]; omega
      · show ("stamp " ++ numT n ++ "." : Str).length + b.length ≤ 1000000
        rw [len_app, len_app]; omega
      · have e : ("stamp " ++ numT n ++ "." ++ b : Str) = letT (.stamp ((n : Int), b)) := by
          show _ = "stamp" ++ " " ++ (numT n ++ "." ++ b)
          rw [e_stamp, app_assoc, app_assoc, app_assoc, app_assoc, app_assoc]
        show Q (.str ("stamp " ++ numT n ++ "." ++ b)) H
        rw [e]
        exact k _ (New.refl _)
theorem e_hear : ("hear " : Str) = "hear" ++ " " := by decide +kernel
theorem join3 (a b c : Str) : Txt.join " " [a, b, c] = a ++ " " ++ b ++ " " ++ c := by
  refine TL.ext_tl ?_
  rw [TL.join_eq, TL.tl_join, TL.tl_append, TL.tl_append, TL.tl_append, TL.tl_append, List.append_assoc, List.append_assoc, List.append_assoc]
  rfl
theorem ok_law_what_shown (T : TX K mg) (nb : base.NoDigits) : FnOk P w K mg base CX0 2 T.law_what_shown.f T.law_what_shown.fd ["_law_what_here"] (spSh K okW whatT) := by
  have nd := sc_law_what_shown.nd
  refine T.law_what_shown.F.ok sc_law_what_shown (fun vs H Q E h => ?_) (fun cdv A outer s H vs Q E hr h => ?_)
  · obtain ⟨v, x, rfl, _⟩ := h
    rfl
  · obtain ⟨v, x, rfl, d, ok, k⟩ := h
    refine ⟨_, (pss_cons (ps_if (pt_cmpR op_eq (pe_ix ix_tup (pv 0) pe_int (fun _ _ => rfl)) pe_str (nomark _)) (pss_one (ps_ret (pe_op op_add_str (pe_op op_add_str (pe_op op_add_str pe_str (pe_ix ix_tup (pv 0) pe_int (fun _ _ => rfl))) pe_str) (pe_call (ok_law_shown T nb) (hr.mono (by decide)) rfl T.g_law_shown T.law_shown.F.kp T.law_shown.b .nil pass0 (pa_cons (pe_ix ix_tup (pv 0) pe_int (fun _ _ => rfl)) pa_nil))))) pss_nil)
    (pss_one (ps_ret (pe_join pe_str (pe_lc (own := [("_law_word", 1)]) (g := gName 1) (tt := tYes) rfl nd (pi_tup (pv 0)) (blkOk_by (N := ["_law_what_here", "_law_word"]) (sc := defScope s_law_what_shown) (by decide +kernel)) (fun _ _ _ _ _ => (pg_name (i := 1) nd rfl (Or.inl rfl))) (fun _ _ _ _ _ => pts_nil) (fun _ _ _ _ _ => (pv 1))))))), ?_⟩
    obtain ⟨a, rest, rfl, sq, dr⟩ := what_sq d
    cases x with
    | hear n l =>
      obtain ⟨okn, okl⟩ := ok
      obtain ⟨a', lv, ea, sq3, dl⟩ := what_sq3 d
      cases ea
      have hl := (name_len okn).2
      have hl2 := let_len okl
      have l5 : ("hear " : Str).length = 5 := by decide +kernel
      refine ⟨_, rfl, _, _, _, _, rfl, rfl, sq3, atI_nat (j := 0) rfl, rfl, true, rfl, ?_⟩
      refine iteT ⟨_, rfl, _, _, _, _, rfl, rfl, sq3, atI_nat (j := 1) rfl, _, _, rfl, rfl, sz_le (by show ("hear " : Str).length + n.length ≤ 1000000; omega), _, _, rfl, rfl, sz_le ?_, _, rfl, _, _, _, _, rfl, rfl, sq3, atI_nat (j := 2) rfl, _, l, rfl, dl, okl, fun H2 n2 => ⟨_, _, rfl, rfl, sz_le ?_, ?_⟩⟩
      · show ("hear " ++ n : Str).length + (" " : Str).length ≤ 1000000
        rw [len_app, l_sp]; omega
      · show ("hear " ++ n ++ " " : Str).length + (letT l).length ≤ 1000000
        rw [len_app, len_app, l_sp]; omega
      · have e : ("hear " ++ n ++ " " ++ letT l : Str) = whatT (.hear n l) := by
          show _ = Txt.join " " ["hear", n, letT l]
          rw [join3, e_hear]
        show Q (.str ("hear " ++ n ++ " " ++ letT l)) H2
        rw [e]
        exact k _ n2
    | want =>
      cases dr
      refine ⟨_, rfl, _, _, _, _, rfl, rfl, sq, atI_nat (j := 0) rfl, rfl, false, rfl, ?_⟩
      refine iteF ⟨⟨_, rfl⟩, ?_⟩
      have sq' : SqT K H a ((["want"] : List Str).map V.str) := sq
      refine lcT (K := K) (walk_tup (K := K) (a := a) (xs := (["want"] : List Str).map V.str)) (fun R q => ⟨_, rfl, _, rfl, ⟨_, sq'⟩, q⟩) (fun i => (["want"] : List Str).take i) (fun H' n' => n'.tup.sqT sq') rfl (fun i _ => ?_) ?_ ?_
      · rw [List.length_take]
        show min i 1 ≤ 1000000
        omega
      · rintro i y H1 H1' NX SK hi n1 ⟨rfl, ey⟩ f1 f2
        refine ⟨rfl, yes_go ?_⟩
        rw [List.getElem?_map] at ey
        cases ez : (["want"] : List Str)[i]? with
        | none => rw [ez] at ey; cases ey
        | some z =>
          rw [ez] at ey
          cases ey
          exact ⟨_, rfl, f1 _ _ _ (New.refl _) (Dm.str z) (by rw [List.take_add_one, ez]; rfl)⟩
      · intro D H1 vs hD n1 e dd
        have ev : vs = (["want"] : List Str).map V.str := dd.toStr
        subst ev
        refine ⟨_, D, ["want"], rfl, rfl, .inl (SqL.of e), ?_, k _ n1⟩
        decide +kernel
    | forgo =>
      cases dr
      refine ⟨_, rfl, _, _, _, _, rfl, rfl, sq, atI_nat (j := 0) rfl, rfl, false, rfl, ?_⟩
      refine iteF ⟨⟨_, rfl⟩, ?_⟩
      have sq' : SqT K H a ((["forgo"] : List Str).map V.str) := sq
      refine lcT (K := K) (walk_tup (K := K) (a := a) (xs := (["forgo"] : List Str).map V.str)) (fun R q => ⟨_, rfl, _, rfl, ⟨_, sq'⟩, q⟩) (fun i => (["forgo"] : List Str).take i) (fun H' n' => n'.tup.sqT sq') rfl (fun i _ => ?_) ?_ ?_
      · rw [List.length_take]
        show min i 1 ≤ 1000000
        omega
      · rintro i y H1 H1' NX SK hi n1 ⟨rfl, ey⟩ f1 f2
        refine ⟨rfl, yes_go ?_⟩
        rw [List.getElem?_map] at ey
        cases ez : (["forgo"] : List Str)[i]? with
        | none => rw [ez] at ey; cases ey
        | some z =>
          rw [ez] at ey
          cases ey
          exact ⟨_, rfl, f1 _ _ _ (New.refl _) (Dm.str z) (by rw [List.take_add_one, ez]; rfl)⟩
      · intro D H1 vs hD n1 e dd
        have ev : vs = (["forgo"] : List Str).map V.str := dd.toStr
        subst ev
        refine ⟨_, D, ["forgo"], rfl, rfl, .inl (SqL.of e), ?_, k _ n1⟩
        decide +kernel
    | done =>
      cases dr
      refine ⟨_, rfl, _, _, _, _, rfl, rfl, sq, atI_nat (j := 0) rfl, rfl, false, rfl, ?_⟩
      refine iteF ⟨⟨_, rfl⟩, ?_⟩
      have sq' : SqT K H a ((["done"] : List Str).map V.str) := sq
      refine lcT (K := K) (walk_tup (K := K) (a := a) (xs := (["done"] : List Str).map V.str)) (fun R q => ⟨_, rfl, _, rfl, ⟨_, sq'⟩, q⟩) (fun i => (["done"] : List Str).take i) (fun H' n' => n'.tup.sqT sq') rfl (fun i _ => ?_) ?_ ?_
      · rw [List.length_take]
        show min i 1 ≤ 1000000
        omega
      · rintro i y H1 H1' NX SK hi n1 ⟨rfl, ey⟩ f1 f2
        refine ⟨rfl, yes_go ?_⟩
        rw [List.getElem?_map] at ey
        cases ez : (["done"] : List Str)[i]? with
        | none => rw [ez] at ey; cases ey
        | some z =>
          rw [ez] at ey
          cases ey
          exact ⟨_, rfl, f1 _ _ _ (New.refl _) (Dm.str z) (by rw [List.take_add_one, ez]; rfl)⟩
      · intro D H1 vs hD n1 e dd
        have ev : vs = (["done"] : List Str).map V.str := dd.toStr
        subst ev
        refine ⟨_, D, ["done"], rfl, rfl, .inl (SqL.of e), ?_, k _ n1⟩
        decide +kernel
    | join n =>
      cases dr with
      | cons a1 b1 =>
      cases a1
      cases b1
      have hl := (name_len ok).2
      refine ⟨_, rfl, _, _, _, _, rfl, rfl, sq, atI_nat (j := 0) rfl, rfl, false, rfl, ?_⟩
      refine iteF ⟨⟨_, rfl⟩, ?_⟩
      have sq' : SqT K H a ((["join", n] : List Str).map V.str) := sq
      refine lcT (K := K) (walk_tup (K := K) (a := a) (xs := (["join", n] : List Str).map V.str)) (fun R q => ⟨_, rfl, _, rfl, ⟨_, sq'⟩, q⟩) (fun i => (["join", n] : List Str).take i) (fun H' n' => n'.tup.sqT sq') rfl (fun i _ => ?_) ?_ ?_
      · rw [List.length_take]
        show min i 2 ≤ 1000000
        omega
      · rintro i y H1 H1' NX SK hi n1 ⟨rfl, ey⟩ f1 f2
        refine ⟨rfl, yes_go ?_⟩
        rw [List.getElem?_map] at ey
        cases ez : (["join", n] : List Str)[i]? with
        | none => rw [ez] at ey; cases ey
        | some z =>
          rw [ez] at ey
          cases ey
          exact ⟨_, rfl, f1 _ _ _ (New.refl _) (Dm.str z) (by rw [List.take_add_one, ez]; rfl)⟩
      · intro D H1 vs hD n1 e dd
        have ev : vs = (["join", n] : List Str).map V.str := dd.toStr
        subst ev
        refine ⟨_, D, ["join", n], rfl, rfl, .inl (SqL.of e), ?_, k _ n1⟩
        show ("join" : Str).length + (n.length + 0) + 2 * (" " : Str).length ≤ 16777216
        rw [l_sp, show ("join" : Str).length = 4 by decide +kernel]
        omega
    | part n =>
      cases dr with
      | cons a1 b1 =>
      cases a1
      cases b1
      have hl := (name_len ok).2
      refine ⟨_, rfl, _, _, _, _, rfl, rfl, sq, atI_nat (j := 0) rfl, rfl, false, rfl, ?_⟩
      refine iteF ⟨⟨_, rfl⟩, ?_⟩
      have sq' : SqT K H a ((["part", n] : List Str).map V.str) := sq
      refine lcT (K := K) (walk_tup (K := K) (a := a) (xs := (["part", n] : List Str).map V.str)) (fun R q => ⟨_, rfl, _, rfl, ⟨_, sq'⟩, q⟩) (fun i => (["part", n] : List Str).take i) (fun H' n' => n'.tup.sqT sq') rfl (fun i _ => ?_) ?_ ?_
      · rw [List.length_take]
        show min i 2 ≤ 1000000
        omega
      · rintro i y H1 H1' NX SK hi n1 ⟨rfl, ey⟩ f1 f2
        refine ⟨rfl, yes_go ?_⟩
        rw [List.getElem?_map] at ey
        cases ez : (["part", n] : List Str)[i]? with
        | none => rw [ez] at ey; cases ey
        | some z =>
          rw [ez] at ey
          cases ey
          exact ⟨_, rfl, f1 _ _ _ (New.refl _) (Dm.str z) (by rw [List.take_add_one, ez]; rfl)⟩
      · intro D H1 vs hD n1 e dd
        have ev : vs = (["part", n] : List Str).map V.str := dd.toStr
        subst ev
        refine ⟨_, D, ["part", n], rfl, rfl, .inl (SqL.of e), ?_, k _ n1⟩
        show ("part" : Str).length + (n.length + 0) + 2 * (" " : Str).length ≤ 16777216
        rw [l_sp, show ("part" : Str).length = 4 by decide +kernel]
        omega
end
end N7
namespace N7
open PySem PySem.Spec PyProof.Rows L2
open PySem.W (Datum DatumOrd Holds HoldAll)
/-! ### figures -/
section
theorem op_repStr {X : Cx} : OpR X (binaryOp .Mult) (fun x y H Q => ∃ (z : Str) (n : Int), x = .str z ∧ y = .int n ∧ MulOk z n ∧ Q (.str (Txt.mul z n)) H) := by
  intro pins s σ H x y v u Q I rx ry h
  obtain ⟨z, n, rfl, rfl, ho, q⟩ := h
  obtain ⟨t, rfl⟩ := rx
  obtain ⟨t', rfl⟩ := ry
  exact SB.mul ho fun t2 k => ⟨.str _, H, I.tok k, ⟨t2, rfl⟩, q⟩
theorem seven_ok : ∀ m : Nat, m < 2000 → MulOk "7" (m : Int) := by
  unfold MulOk
  decide +kernel
theorem fold_rep (c : Nat) : ∀ (m : Nat) (acc : Array Nat), ((List.replicate m (#[c] : Array Nat)).foldl (· ++ ·) acc).toList = acc.toList ++ List.replicate m c
  | 0, acc => by simp
  | m + 1, acc => by
    rw [List.replicate_succ, List.foldl_cons, fold_rep c m]
    simp [List.replicate_succ]
theorem sevens {m : Nat} (h : 2 ≤ m) : TL.tl (Txt.mul "7" (m : Int)) = List.replicate m 55 := by
  unfold Txt.mul
  have l1 : ("7" : Str).length = 1 := by decide +kernel
  rw [if_neg (by omega), if_neg (by rw [l1]; simp; omega)]
  have ec : ("7" : Str).cps = #[55] := by decide +kernel
  show ((List.replicate (m : Int).toNat ("7" : Str).cps).foldl (· ++ ·) #[]).toList = _
  rw [ec, fold_rep]
  rfl
/-- a text of figures, no 0 ahead -/
def fig (x : Str) : Prop := ∃ n : Nat, x = numT n ∧ 1 ≤ n ∧ n < 10 ^ x.length
theorem fig_one {d : Nat} (h : 1 ≤ d) (h9 : d ≤ 9) : fig (numT d) := by
  refine ⟨d, rfl, h, ?_⟩
  have e : (numT d).length = 1 := by
    rw [TL.len_tl]
    unfold numT
    rw [TL.tl_num, TL.numL_lt (by omega)]
    rfl
  rw [e]
  omega
theorem fig_step {x y : Str} {d : Nat} (h : fig x) (hd : d < 10) (e : TL.tl y = TL.tl x ++ [48 + d]) : fig y ∧ y.length = x.length + 1 := by
  obtain ⟨n, rfl, h1, h2⟩ := h
  have ly : y.length = (numT n).length + 1 := by
    rw [TL.len_tl, e, List.length_append, TL.len_tl]
    rfl
  refine ⟨⟨10 * n + d, ?_, by omega, ?_⟩, ly⟩
  · refine TL.ext_tl ?_
    rw [e]
    unfold numT
    rw [TL.tl_num, TL.tl_num, TL.numL_step (show 10 ≤ 10 * n + d by omega)]
    have e1 : (10 * n + d) / 10 = n := by omega
    have e2 : (10 * n + d) % 10 = d := by omega
    rw [e1, e2]
  · rw [ly, Nat.pow_succ]
    omega
theorem fig_num {x : Str} {d : Nat} (h : fig x) (hd : d < 10) : fig (x ++ numT d) ∧ (x ++ numT d).length = x.length + 1 := by
  refine fig_step h hd ?_
  rw [TL.tl_append]
  unfold numT
  rw [TL.tl_num, TL.numL_lt hd]
theorem fig_rep : ∀ (m : Nat) {x y : Str}, fig x → TL.tl y = TL.tl x ++ List.replicate m 55 → fig y ∧ y.length = x.length + m
  | 0, x, y, h, e => by
    have : y = x := TL.ext_tl (by rw [e]; simp)
    rw [this]
    exact ⟨h, rfl⟩
  | m + 1, x, y, h, e => by
    have e1 : TL.tl (⟨(TL.tl x ++ [55]).toArray⟩ : Str) = TL.tl x ++ [48 + 7] := TL.tl_mk _
    obtain ⟨h1, l1⟩ := fig_step (d := 7) h (by decide) e1
    obtain ⟨h2, l2⟩ := fig_rep m (y := y) h1 (by rw [e, e1, List.replicate_succ]; simp)
    exact ⟨h2, by rw [l2, l1]; omega⟩
theorem nine_at {r : Nat} (h : r < 9) : ∃ c, (TL.tl ("123456789" : Str))[r]? = some c ∧ (⟨#[c]⟩ : Str) = numT (r + 1) := by
  match r, h with
  | 0, _ => exact ⟨49, by decide +kernel, by decide +kernel⟩
  | 1, _ => exact ⟨50, by decide +kernel, by decide +kernel⟩
  | 2, _ => exact ⟨51, by decide +kernel, by decide +kernel⟩
  | 3, _ => exact ⟨52, by decide +kernel, by decide +kernel⟩
  | 4, _ => exact ⟨53, by decide +kernel, by decide +kernel⟩
  | 5, _ => exact ⟨54, by decide +kernel, by decide +kernel⟩
  | 6, _ => exact ⟨55, by decide +kernel, by decide +kernel⟩
  | 7, _ => exact ⟨56, by decide +kernel, by decide +kernel⟩
  | 8, _ => exact ⟨57, by decide +kernel, by decide +kernel⟩
end
end N7
namespace N7
open PySem PySem.Spec PyProof.Rows L2
open PySem.W (Datum DatumOrd Holds HoldAll)
local macro_rules | `(tactic| l_intsW) => `(tactic| dsimp only [tSeq, tNext, tAsg, tDrop, tBM, tBM0, tCons, tNil, tRet, tRetN, tIfS, tTest, tOp, tC, tTup, tLst, tCB, tIf, tAndV, tOrV, tNotV, tDGet, tDIn, tDNotIn, sDPut, sDDel, tCall, tMeth, tMake, sFld, tSl, tPart, tNoPart, cxOf, Cx.nox, Cx.wish, List.map_cons, List.map_nil])
section
variable {P : Program} {w : World} {K : PySem.W.Frag} {mg : Str → Option Value} {base : Heap}
theorem whatT_hear (s : Stp) : ("hear stamp stamp " : Str) ++ stT s = whatT (.hear "stamp" (.stamp s)) := by
  show _ = Txt.join " " ["hear", "stamp", "stamp" ++ " " ++ stT s]
  rw [join3, ← app_assoc ("hear" ++ " " ++ "stamp" ++ " " : Str) ("stamp" ++ " ") (stT s)]
  have : ("hear stamp stamp " : Str) = "hear" ++ " " ++ "stamp" ++ " " ++ ("stamp" ++ " ") := by decide +kernel
  rw [this]
def spLong : Sp := fun vs H Q _ => ∃ p k, vs = [.ref p] ∧ Pot p k H ∧ k ≤ 600000 ∧ ∀ H', Ch (At p) H (At p) H' → Pot p (k + 100) H' → Q (.bl true) H'
theorem ok_law_long_right (T : TX K mg) (nb : base.NoDigits) : FnOk P w K mg base CX0 7 T.law_long_right.f T.law_long_right.fd ["_law_pot_here"] spLong := by
  have nd := sc_law_long_right.nd
  refine T.law_long_right.F.ok sc_law_long_right (fun vs H Q E h => ?_) (fun cdv A outer s H vs Q E hr h => ?_)
  · obtain ⟨p, k, rfl, _⟩ := h
    rfl
  · obtain ⟨p, k, rfl, po, kz, kk⟩ := h
    refine ⟨_, (pss_cons (ps_set (i := 1) nd rfl (Or.inl rfl) (pe_ix ix_str pe_str (pe_call (ok_law_dip T) (hr.mono (by decide)) rfl T.g_law_dip T.law_dip.F.kp T.law_dip.b .nil pass0 (pa_cons (pv 0) (pa_cons pe_int pa_nil))) (fun _ _ => rfl)))
    (pss_cons (ps_for PassesOwn.never rfl (pi_range1 rfl T.z_range (pa_cons (pe_call (ok_law_dip T) (hr.mono (by decide)) rfl T.g_law_dip T.law_dip.F.kp T.law_dip.b .nil pass0 (pa_cons (pv 0) (pa_cons pe_int pa_nil))) pa_nil)) (pg_name (i := 2) nd rfl (Or.inl rfl)) (pss_one (ps_set (i := 1) nd rfl (Or.inl rfl) (pe_op op_add_str (pv 1) (pe_callTy (cr_strD nb rfl) (by rfl) T.z_str (by decide +kernel) (pa_cons (pe_call (ok_law_dip T) (hr.mono (by decide)) rfl T.g_law_dip T.law_dip.F.kp T.law_dip.b .nil pass0 (pa_cons (pv 0) (pa_cons pe_int pa_nil))) pa_nil))))))
    (pss_cons (ps_if (pt_cmpR op_eq (pe_call (ok_law_dip T) (hr.mono (by decide)) rfl T.g_law_dip T.law_dip.F.kp T.law_dip.b .nil pass0 (pa_cons (pv 0) (pa_cons pe_int pa_nil))) pe_int (nomark _)) (pss_one (ps_set (i := 1) nd rfl (Or.inl rfl) (pe_op op_add_str (pv 1) (pe_op op_repStr pe_str (pe_op op_sub pe_int (pe_callB call_len_str (by rfl) T.z_len PySem.boot_len (pa_cons (pv 1) pa_nil))))))) pss_nil)
    (pss_cons (ps_set (i := 3) nd rfl (Or.inl rfl) (pe_call (ok_law_name T) (hr.mono (by decide)) rfl T.g_law_name T.law_name.F.kp T.law_name.b .nil pass0 (pa_cons (pv 0) pa_nil)))
    (pss_cons (ps_set (i := 4) nd rfl (Or.inl rfl) (pe_op op_add_str (pe_op op_add_str (pv 1) pe_str) (pv 3)))
    (pss_cons (ps_if (PW.pt (pw_or (pt_cmpR (op_neM (α := Stp) (hu100 hr)) (pe_call (ok_read_stamp T nb) (hr.mono (by decide)) rfl T.g_read_stamp T.read_stamp.F.kp T.read_stamp.b .nil pass0 (pa_cons (pv 4) pa_nil)) (pe_tup (pa_cons (pe_callTy (cr_intD nb) (by rfl) T.z_int (by decide +kernel) (pa_cons (pv 1) pa_nil)) (pa_cons (pv 3) pa_nil))) (nomark _)) (pw_or1 (pt_cmpR op_ne (pe_call (ok_show_stamp T nb) (hr.mono (by decide)) rfl T.g_show_stamp T.show_stamp.F.kp T.show_stamp.b .nil pass0 (pa_cons (pe_call (ok_read_stamp T nb) (hr.mono (by decide)) rfl T.g_read_stamp T.read_stamp.F.kp T.read_stamp.b .nil pass0 (pa_cons (pv 4) pa_nil)) pa_nil)) (pv 4) (nomark _))))) (pss_one (ps_ret pe_bl)) pss_nil)
    (pss_cons (ps_if (pt_cmpR op_ne (pe_call (ok_show_letter T nb) (hr.mono (by decide)) rfl T.g_show_letter T.show_letter.F.kp T.show_letter.b .nil pass0 (pa_cons (pe_call (ok_read_letter T nb) (hr.mono (by decide)) rfl T.g_read_letter T.read_letter.F.kp T.read_letter.b .nil pass0 (pa_cons (pe_op op_add_str pe_str (pv 4)) pa_nil)) pa_nil)) (pe_op op_add_str pe_str (pv 4)) (nomark _)) (pss_one (ps_ret pe_bl)) pss_nil)
    (pss_cons (ps_set (i := 4) nd rfl (Or.inl rfl) (pe_op op_add_str pe_str (pv 4)))
    (pss_one (ps_ret (pe_and (pe_cmpR op_eq (pe_ix ix_tup (pe_ix ix_tup (pe_call (ok_read_what T nb) (hr.mono (by decide)) rfl T.g_read_what T.read_what.F.kp T.read_what.b .nil pass0 (pa_cons (pv 4) pa_nil)) pe_int (fun _ _ => rfl)) pe_int (fun _ _ => rfl)) (pe_callTy (cr_intD nb) (by rfl) T.z_int (by decide +kernel) (pa_cons (pv 1) pa_nil)) (nomark _)) (pe_one (pe_cmpR op_eq (pe_call (ok_show_what T nb) (hr.mono (by decide)) rfl T.g_show_what T.show_what.F.kp T.show_what.b .nil pass0 (pa_cons (pe_call (ok_read_what T nb) (hr.mono (by decide)) rfl T.g_read_what T.read_what.F.kp T.read_what.b .nil pass0 (pa_cons (pv 4) pa_nil)) pa_nil)) (pv 4) (nomark _)))))))))))))), ?_⟩
    refine seq_cut (fun σ1 H1 => ∃ x v2, σ1 = [some (.ref p), some (.str x), v2, none, none] ∧ fig x ∧ x.length ≤ 1 ∧ Ch (At p) H (At p) H1 ∧ Pot p (k + 1) H1) ?_ ?_
    · rintro σ1 H1 ⟨x1, v1, rfl, f1, l1, c1, po1⟩
      refine seq_cut (fun σ2 H2 => ∃ x v2, σ2 = [some (.ref p), some (.str x), v2, none, none] ∧ fig x ∧ x.length ≤ 50 ∧ Ch (At p) H (At p) H2 ∧ Pot p (k + 50) H2) ?_ ?_
      · rintro σ2 H2 ⟨x2, v2, rfl, f2, l2, c2, po2⟩
        refine seq_cut (fun σ3 H3 => ∃ x v2, σ3 = [some (.ref p), some (.str x), v2, none, none] ∧ fig x ∧ x.length ≤ 1900 ∧ Ch (At p) H (At p) H3 ∧ Pot p (k + 51) H3) ?_ ?_
        · rintro σ3 H3 ⟨x, v3, rfl, f3, l3, c3, po3⟩
          obtain ⟨n, rfl, n1, n2⟩ := f3
          have nz : n < 10 ^ 2000 := Nat.lt_of_lt_of_le n2 (Nat.pow_le_pow_right (by decide) (by omega))
          have hi := num_int nz
          refine seq_cut (fun σ4 H4 => ∃ a, σ4 = [some (.ref p), some (.str (numT n)), v3, some (.str a), none] ∧ nameB a = true ∧ Ch (At p) H (At p) H4 ∧ Pot p (k + 71) H4) ?_ (fun NX nxt => ⟨_, rfl, p, k + 51, rfl, po3, by omega, fun a H4 oa c4 po4 => nxt _ _ ⟨a, rfl, oa, c3.trans c4, po4⟩⟩)
          rintro σ4 H4 ⟨a, rfl, oa, c4, po4⟩
          have okt : okT ((n : Int), a) := ⟨⟨n, rfl, nz⟩, oa⟩
          have zt := st_len okt
          have zn := num_len nz
          have za := (name_len oa).2
          have l1 : ("." : Str).length = 1 := by decide +kernel
          have l6 : ("stamp " : Str).length = 6 := by decide +kernel
          have l17 : ("hear stamp stamp " : Str).length = 17 := by decide +kernel
          refine seq_cut (fun σ5 H5 => σ5 = [some (.ref p), some (.str (numT n)), v3, some (.str a), some (.str (stT ((n : Int), a)))] ∧ H5 = H4) ?_ (fun NX nxt => ⟨_, rfl, _, _, rfl, rfl, sz_le (by show (numT n).length + ("." : Str).length ≤ 1000000; omega), _, rfl, _, _, rfl, rfl, sz_le (by show (numT n ++ "." : Str).length + a.length ≤ 1000000; rw [len_app]; omega), nxt _ _ ⟨rfl, rfl⟩⟩)
          rintro σ5 H5 ⟨rfl, rfl⟩
          have es : letT (.stamp ((n : Int), a)) = ("stamp " : Str) ++ stT ((n : Int), a) := by
            show ("stamp" ++ " " ++ stT ((n : Int), a) : Str) = _
            rw [e_stamp]
          have ew := whatT_hear ((n : Int), a)
          generalize ez : stT ((n : Int), a) = z at *
          refine seq_cut (fun σ6 H6 => σ6 = [some (.ref p), some (.str (numT n)), v3, some (.str a), some (.str z)] ∧ New H5 H6) ?_ ?_
          · rintro σ6 H6 ⟨rfl, n6⟩
            refine seq_cut (fun σ7 H7 => σ7 = [some (.ref p), some (.str (numT n)), v3, some (.str a), some (.str z)] ∧ New H6 H7) ?_ ?_
            · rintro σ7 H7 ⟨rfl, n7⟩
              refine seq_cut (fun σ8 H8 => σ8 = [some (.ref p), some (.str (numT n)), v3, some (.str a), some (.str (("hear stamp stamp " : Str) ++ z))] ∧ H8 = H7) ?_ (fun NX nxt => ⟨_, rfl, _, _, rfl, rfl, sz_le (by show ("hear stamp stamp " : Str).length + z.length ≤ 1000000; omega), nxt _ _ ⟨rfl, rfl⟩⟩)
              rintro σ8 H8 ⟨rfl, rfl⟩
              rw [ew]
              have okw : okW (.hear "stamp" (.stamp ((n : Int), a))) := ⟨by decide +kernel, okt⟩
              refine ⟨_, rfl, _, rfl, okw, fun v H9 n9 d9 => ?_⟩
              obtain ⟨b, lv, rfl, sq3, dl⟩ := what_sq3 (K := K) d9.dm
              obtain ⟨b2, rfl, cc⟩ := let_sq dl
              have sq4 : SqT K H9 b2 [.str "stamp", .int n, .str a] := by
                rcases cc with ⟨z, _⟩ | ⟨z, _⟩ | ⟨s, z, q⟩
                · cases z
                · cases z
                · cases z; exact q
              refine ⟨_, _, _, _, rfl, rfl, sq3, atI_nat (j := 2) rfl, _, _, _, _, rfl, rfl, sq4, atI_nat (j := 1) rfl, _, rfl, _, _, rfl, hi, by omega, rfl, true, by rw [decide_eq_true rfl], ?_⟩
              refine iteT ⟨_, rfl, _, rfl, okw, fun v H10 n10 d10 => ⟨_, _, rfl, d10.dm, okw, fun H11 n11 => ⟨_, rfl, rfl, ?_⟩⟩⟩
              rw [decide_eq_true rfl]
              have nn := ((((n6.comp n7).comp n9).comp n10).comp n11)
              exact kk _ (c4.trans nn.to) ((po4.new nn).mono (by omega))
            · intro NX nxt
              refine ⟨_, rfl, _, _, rfl, rfl, sz_le (by show ("stamp " : Str).length + z.length ≤ 1000000; omega), .stamp ((n : Int), a), by rw [es]; rfl, okt, fun v H7 n7 d7 => ⟨_, _, rfl, d7.dm, okt, fun H8 n8 => ⟨_, rfl, _, _, rfl, rfl, sz_le (by show ("stamp " : Str).length + z.length ≤ 1000000; omega), rfl, false, ?_, iteF (nxt _ _ ⟨rfl, n7.comp n8⟩)⟩⟩⟩
              rw [es, decide_eq_true rfl]
              rfl
          · intro NX nxt
            refine ⟨_, rfl, ((n : Int), a), by rw [ez]; rfl, okt, fun v H6 n6 d6 => ⟨_, rfl, _, _, rfl, hi, by omega, _, rfl, ln2, fun q hq => ?_⟩⟩
            have m6 := New.fresh (o := .tup [.int n, .str a]) hq
            refine ⟨((n : Int), a), ((n : Int), a), (d6.tups m6.tup).dm, (t_stp hq).dm, false, by simp, ?_⟩
            refine iteF ⟨_, rfl, ((n : Int), a), by rw [ez]; rfl, okt, fun v H7 n7 d7 => ⟨_, _, rfl, d7.dm, okt, fun H8 n8 => ⟨_, rfl, rfl, false, ?_, iteF (nxt _ _ ⟨rfl, ((n6.comp m6).comp n7).comp n8⟩)⟩⟩⟩
            rw [ez, decide_eq_true rfl]
            rfl
        · intro NX nxt
          refine ⟨_, rfl, p, k + 50, 9, rfl, po2, by omega, by omega, by omega, fun r H3 hr3 c3 po3 => ⟨rfl, decide (V.int (r : Int) = V.int 8), rfl, ?_⟩⟩
          refine ite2 (fun _ => ?_) (fun _ => nxt _ _ ⟨x2, v2, rfl, f2, by omega, c2.trans c3, po3⟩)
          have em : (1900 : Int) - (x2.length : Int) = ((1900 - x2.length : Nat) : Int) := by omega
          refine ⟨_, rfl, _, rfl, x2, rfl, sz_le (by omega), _, _, rfl, rfl, _, _, rfl, rfl, ?_, _, _, rfl, rfl, ?_, ?_⟩
          · show MulOk "7" ((1900 : Int) - (x2.length : Int))
            rw [em]
            exact seven_ok _ (by omega)
          · show x2.length + (Txt.mul "7" ((1900 : Int) - (x2.length : Int))).length ≤ sizeLine
            rw [em, TL.len_tl (Txt.mul _ _), sevens (by omega), List.length_replicate]
            exact sz_le (by omega)
          · obtain ⟨g1, g2⟩ := fig_rep (1900 - x2.length) (y := x2 ++ Txt.mul "7" ((1900 : Int) - (x2.length : Int))) f2 (by rw [TL.tl_append, em, sevens (by omega)])
            exact nxt _ _ ⟨_, v2, rfl, g1, by rw [g2]; omega, c2.trans c3, po3⟩
      · intro NX nxt
        refine ⟨_, rfl, p, k + 1, 40, rfl, po1, by omega, by omega, by omega, fun r H2 hr2 c2 po2 => ⟨_, rfl, ?_, ?_, ?_⟩⟩
        · show -(2 ^ 62) ≤ (r : Int)
          omega
        · show (r : Int) < 2 ^ 62
          omega
        refine for_it walk_range (fun i σ' H' => ∃ x v2, σ' = [some (.ref p), some (.str x), v2, none, none] ∧ fig x ∧ x.length ≤ 1 + i ∧ i ≤ 40 ∧ Ch (At p) H (At p) H' ∧ Pot p (k + 2 + i) H') ⟨x1, v1, rfl, f1, by omega, by omega, c1.trans c2, po2⟩ (fun _ _ _ _ _ => trivial) ?_ ?_
        · rintro i y σ' H3 H4 hi ⟨x, v, rfl, fx, lx, i40, c3, po3⟩ ⟨rfl, rfl⟩
          have hi' : i < r := by have : ((r : Int)).toNat = r := by omega
                                 rw [← this]; exact hi
          refine ⟨_, rfl, _, rfl, p, _, 10, rfl, po3, by omega, by omega, by omega, fun d H5 hd c5 po5 => ⟨_, rfl, ?_, _, _, rfl, rfl, ?_, ?_⟩⟩
          · show d < 10 ^ 4300
            exact Nat.lt_of_lt_of_le hd (Nat.le_self_pow (by decide) 10)
          · have := (fig_num fx hd).2
            rw [len_app] at this
            show x.length + (numT d).length ≤ sizeLine
            exact sz_le (by omega)
          · obtain ⟨g1, g2⟩ := fig_num fx hd
            exact ⟨_, _, rfl, g1, by show (x ++ numT d).length ≤ _; rw [g2]; omega, by omega, c3.trans c5, po5⟩
        · rintro σ' H3 ⟨x, v, rfl, fx, lx, i40, c3, po3⟩
          exact nxt _ _ ⟨x, v, rfl, fx, by omega, c3, po3.mono (by omega)⟩
    · intro NX nxt
      refine ⟨_, rfl, p, k, 9, rfl, po, by omega, by omega, by omega, fun r H1 hr1 c1 po1 => ?_⟩
      obtain ⟨c, ec, en⟩ := nine_at hr1
      refine ⟨_, _, c, rfl, rfl, sz_le (by decide +kernel), atI_nat (j := r) ec, nxt _ _ ⟨_, none, rfl, ?_, (by show 1 ≤ 1; omega), c1, po1⟩⟩
      rw [en]
      exact fig_one (by omega) (by omega)
end
end N7
namespace N7
open PySem PySem.Spec PyProof.Rows L2
open PySem.W (Datum DatumOrd Holds HoldAll)
/-! ### how long what repr shows may be -/
section
def sumL (ts : List Str) : Nat := (ts.map fun t => t.length + 2).sum
theorem sep_len (k : Nat) : ((if k > 0 then ", " else "" : String) : Str).length ≤ 2 := by
  by_cases h : k > 0
  · rw [if_pos h]; decide +kernel
  · rw [if_neg h]; decide +kernel
theorem from_len : ∀ (ts : List Str) (k : Nat) (acc : Str), (textFrom k acc ts).length ≤ acc.length + sumL ts
  | [], k, acc => Nat.le_add_right _ _
  | t :: r, k, acc => by
    have h := from_len r (k + 1) (acc ++ (if k > 0 then ", " else "" : String) ++ t)
    rw [len_app, len_app] at h
    have h2 := sep_len k
    have e : sumL (t :: r) = t.length + 2 + sumL r := rfl
    rw [e]
    exact Nat.le_trans h (by omega)
theorem list_len (ts : List Str) : (listText ts).length ≤ 2 + sumL ts := by
  unfold listText
  rw [len_app]
  have h := from_len ts 0 "["
  have a : ("[" : Str).length = 1 := by decide +kernel
  have b : ("]" : Str).length = 1 := by decide +kernel
  omega
theorem join_le : ∀ ts : List Str, (Str.join ", " ts).length ≤ sumL ts
  | [] => by decide +kernel
  | [x] => by
    rw [TL.len_tl, TL.tl_join]
    show (TL.tl x).length ≤ x.length + 2 + 0
    rw [TL.len_tl]; omega
  | x :: y :: r => by
    have h := join_le (y :: r)
    rw [TL.len_tl, TL.tl_join] at h ⊢
    have e : sumL (x :: y :: r) = x.length + 2 + sumL (y :: r) := rfl
    rw [e]
    show (TL.tl x ++ (TL.tl (", " : Str) ++ TL.joinL (TL.tl (", " : Str)) ((y :: r).map TL.tl))).length ≤ _
    rw [List.length_append, List.length_append, show (TL.tl (", " : Str)).length = 2 by decide +kernel, TL.len_tl x]
    omega
theorem tup_len (ts : List Str) : (tupleText ts).length ≤ 3 + sumL ts := by
  unfold tupleText
  rw [len_app, len_app]
  have h := join_le ts
  have a : ("(" : Str).length = 1 := by decide +kernel
  have b : ((if (ts.length == 1) = true then ",)" else ")" : String) : Str).length ≤ 2 := by
    by_cases c : (ts.length == 1) = true
    · rw [if_pos c]; decide +kernel
    · rw [if_neg c]; decide +kernel
  omega
/-- signs of the first 128 -/
def low (x : Str) : Prop := ∀ c ∈ TL.tl x, c < 128
theorem low.app {x y : Str} (h : low x) (g : low y) : low (x ++ y) := fun c hc => by
  rw [TL.tl_append, List.mem_append] at hc
  exact hc.elim (h c) (g c)
theorem low.repr {x : Str} (h : low x) : (reprText x).length ≤ 10 * x.length + 2 := PySem.StrLaws.reprText_len x fun c hc => Nat.lt_trans (h c hc) (by decide)
theorem low_name {n : Str} (h : nameB n = true) : low n := fun c hc => by
  have := name_low h c hc
  omega
theorem low_num (n : Nat) : low (numT n) := fun c hc => by
  unfold numT at hc
  rw [TL.tl_num] at hc
  have := TL.numL_digits n c hc
  omega
theorem low_st {s : Stp} (h : nameB s.2 = true) : low (stT s) := ((low_num _).app (by unfold low; decide +kernel)).app (low_name h)
theorem low_let {l : Letter} (h : okTL l) : low (letT l) := by
  cases l with
  | stamp s => exact (show low ("stamp" ++ " " : Str) by unfold low; decide +kernel).app (low_st h.2)
  | ask => unfold low; decide +kernel
  | floor => unfold low; decide +kernel
theorem join2 (a b : Str) : Txt.join " " [a, b] = a ++ " " ++ b := by
  refine TL.ext_tl ?_
  rw [TL.join_eq, TL.tl_join, TL.tl_append, TL.tl_append, List.append_assoc]
  rfl
theorem low_what {w : What} (h : okW w) : low (whatT w) := by
  have ls : low " " := by unfold low; decide +kernel
  cases w with
  | want => unfold low; decide +kernel
  | forgo => unfold low; decide +kernel
  | done => unfold low; decide +kernel
  | join n =>
    show low (Txt.join " " ["join", n])
    rw [join2]
    exact ((show low "join" by unfold low; decide +kernel).app ls).app (low_name h)
  | part n =>
    show low (Txt.join " " ["part", n])
    rw [join2]
    exact ((show low "part" by unfold low; decide +kernel).app ls).app (low_name h)
  | hear n l =>
    show low (Txt.join " " ["hear", n, letT l])
    rw [join3]
    exact ((((show low "hear" by unfold low; decide +kernel).app ls).app (low_name h.1)).app ls).app (low_let h.2)
/-- three texts as data -/
def dTexts (a b c : Str) : PyData := .list [.str a, .str b, .str c]
theorem shown_texts {a b c : Str} (h1 : low a) (h2 : low b) (h3 : low c) (z1 : a.length ≤ 2100) (z2 : b.length ≤ 2100) (z3 : c.length ≤ 2100) : (dTexts a b c).shown.length ≤ 1000000 := by
  have e : (dTexts a b c).shown = listText [reprText a, reprText b, reprText c] := by simp only [dTexts, PyData.shown, PyData.shownAll]
  rw [e]
  have h := list_len [reprText a, reprText b, reprText c]
  have s : sumL [reprText a, reprText b, reprText c] = (reprText a).length + 2 + ((reprText b).length + 2 + ((reprText c).length + 2 + 0)) := rfl
  have r1 := h1.repr
  have r2 := h2.repr
  have r3 := h3.repr
  omega
/-- a stamp, a letter, a what as data -/
def dBack (s : Stp) (l : Letter) (w : What) : PyData := .list [Datum.toD s, l.toD, w.toD]
theorem word_repr (x : Str) (h : low x) (z : x.length ≤ 8) : (reprText x).length ≤ 82 := by
  have := h.repr
  omega
theorem nm_repr {n : Str} (h : nameB n = true) : (reprText n).length ≤ 82 := word_repr n (low_name h) (name_len h).2
theorem st_shown {s : Stp} (h : smS s) : (Datum.toD s).shown.length ≤ 200 := by
  obtain ⟨⟨n, e, hn⟩, h2⟩ := h
  obtain ⟨i, a⟩ := s
  dsimp only at e h2
  subst e
  have e : (Datum.toD (((n : Int), a) : Stp)).shown = tupleText [numT n, reprText a] := by
    show (PyData.tuple [.int n, .str a]).shown = _
    simp only [PyData.shown, PyData.shownAll, numT]
  rw [e]
  have t := tup_len [numT n, reprText a]
  have s : sumL [numT n, reprText a] = (numT n).length + 2 + ((reprText a).length + 2 + 0) := rfl
  have r1 := nm_repr h2
  have r2 : (numT n).length ≤ 9 := by
    have := TL.numL_len (k := 9) (by decide) hn
    rw [← TL.tl_num] at this
    rw [TL.len_tl]
    exact this
  omega
theorem let_shown {l : Letter} (h : smL l) : l.toD.shown.length ≤ 300 := by
  cases l with
  | ask => decide +kernel
  | floor => decide +kernel
  | stamp s =>
    obtain ⟨⟨n, e, hn⟩, h2⟩ := h
    obtain ⟨i, a⟩ := s
    dsimp only at e h2
    subst e
    have e : (Letter.toD (.stamp ((n : Int), a))).shown = tupleText [reprText "stamp", numT n, reprText a] := by
      show (PyData.tuple [.str "stamp", .int n, .str a]).shown = _
      simp only [PyData.shown, PyData.shownAll, numT]
    rw [e]
    have t := tup_len [reprText "stamp", numT n, reprText a]
    have s : sumL [reprText "stamp", numT n, reprText a] = (reprText "stamp").length + 2 + ((numT n).length + 2 + ((reprText a).length + 2 + 0)) := rfl
    have r0 := word_repr "stamp" (by unfold low; decide +kernel) (by decide +kernel)
    have r1 := nm_repr h2
    have r2 : (numT n).length ≤ 9 := by
      have := TL.numL_len (k := 9) (by decide) hn
      rw [← TL.tl_num] at this
      rw [TL.len_tl]
      exact this
    omega
theorem what_shown {w : What} (h : smW w) : w.toD.shown.length ≤ 600 := by
  cases w with
  | want => decide +kernel
  | forgo => decide +kernel
  | done => decide +kernel
  | join n =>
    have e : (What.toD (.join n)).shown = tupleText [reprText "join", reprText n] := by
      show (PyData.tuple [.str "join", .str n]).shown = _
      simp only [PyData.shown, PyData.shownAll]
    rw [e]
    have t := tup_len [reprText "join", reprText n]
    have s : sumL [reprText "join", reprText n] = (reprText "join").length + 2 + ((reprText n).length + 2 + 0) := rfl
    have r0 := word_repr "join" (by unfold low; decide +kernel) (by decide +kernel)
    have r1 := nm_repr h
    omega
  | part n =>
    have e : (What.toD (.part n)).shown = tupleText [reprText "part", reprText n] := by
      show (PyData.tuple [.str "part", .str n]).shown = _
      simp only [PyData.shown, PyData.shownAll]
    rw [e]
    have t := tup_len [reprText "part", reprText n]
    have s : sumL [reprText "part", reprText n] = (reprText "part").length + 2 + ((reprText n).length + 2 + 0) := rfl
    have r0 := word_repr "part" (by unfold low; decide +kernel) (by decide +kernel)
    have r1 := nm_repr h
    omega
  | hear n l =>
    have e : (What.toD (.hear n l)).shown = tupleText [reprText "hear", reprText n, l.toD.shown] := by
      show (PyData.tuple [.str "hear", .str n, l.toD]).shown = _
      simp only [PyData.shown, PyData.shownAll]
    rw [e]
    have t := tup_len [reprText "hear", reprText n, l.toD.shown]
    have s : sumL [reprText "hear", reprText n, l.toD.shown] = (reprText "hear").length + 2 + ((reprText n).length + 2 + (l.toD.shown.length + 2 + 0)) := rfl
    have r0 := word_repr "hear" (by unfold low; decide +kernel) (by decide +kernel)
    have r1 := nm_repr h.1
    have r2 := let_shown h.2
    omega
theorem shown_back {s : Stp} {l : Letter} {w : What} (h1 : smS s) (h2 : smL l) (h3 : smW w) : (dBack s l w).shown.length ≤ 1000000 := by
  have e : (dBack s l w).shown = listText [(Datum.toD s).shown, l.toD.shown, w.toD.shown] := by simp only [dBack, PyData.shown, PyData.shownAll]
  rw [e]
  have h := list_len [(Datum.toD s).shown, l.toD.shown, w.toD.shown]
  have s : sumL [(Datum.toD s).shown, l.toD.shown, w.toD.shown] = (Datum.toD s).shown.length + 2 + (l.toD.shown.length + 2 + (w.toD.shown.length + 2 + 0)) := rfl
  have r1 := st_shown h1
  have r2 := let_shown h2
  have r3 := what_shown h3
  omega
end
end N7
namespace N7
open PySem PySem.Spec PyProof.Rows L2
open PySem.W (Datum DatumOrd Holds HoldAll)
local macro_rules | `(tactic| l_intsW) => `(tactic| dsimp only [tSeq, tNext, tAsg, tDrop, tBM, tBM0, tCons, tNil, tRet, tRetN, tIfS, tTest, tOp, tC, tTup, tLst, tCB, tIf, tAndV, tOrV, tNotV, tDGet, tDIn, tDNotIn, sDPut, sDDel, tCall, tMeth, tMake, sFld, tSl, tPart, tNoPart, cxOf, Cx.nox, Cx.wish, List.map_cons, List.map_nil])
section
variable {P : Program} {w : World} {K : PySem.W.Frag} {mg : Str → Option Value} {base : Heap}
theorem same_at {H H1 H2 : Hp} {p : Addr} (s : Same H H1) (c : Ch (At p) H1 (At p) H2) (n : H p = none) : Same H H2 := fun b o e => c.keep b o (s b o e) (ne_of_none e n)
theorem same_new {H H1 H2 : Hp} (s : Same H H1) (c : New H1 H2) : Same H H2 := fun b o e => c.at (s b o e)
theorem dp_texts {H : Hp} {q : Addr} {a b c : Str} (e : H q = some (.lst [.str a, .str b, .str c])) : Dp K H (.ref q) (dTexts a b c) := Dp.lst (SqL.of e) (.cons (.str _) (.cons (.str _) (.cons (.str _) .nil)))
theorem dp_back {H : Hp} {q : Addr} {v1 v2 v3 : V} {s : Stp} {l : Letter} {x : What} (e : H q = some (.lst [v1, v2, v3])) (d1 : Dt H v1 s) (d2 : Dt H v2 l) (d3 : Dt H v3 x) : Dp K H (.ref q) (dBack s l x) :=
  Dp.lst (SqL.of e) (.cons d1.dm (.cons d2.dm (.cons d3.dm .nil)))
theorem nat_small {n : Nat} (h : n < 10 ^ 9) : (decide ((n : Int).natAbs.log2 < 1920)) = true := by
  refine decide_eq_true ?_
  show n.log2 < 1920
  by_cases z : n = 0
  · rw [z]; decide
  · exact Nat.lt_of_lt_of_le ((Nat.log2_lt z).mpr (Nat.lt_of_lt_of_le h (show 10 ^ 9 ≤ 2 ^ 30 by decide))) (by decide)
theorem show_st {s : Stp} (h : smS s) : (Datum.toD s).showable = true := by
  obtain ⟨⟨n, e, hn⟩, _⟩ := h
  obtain ⟨i, a⟩ := s
  dsimp only at e
  subst e
  show (PyData.tuple [.int n, .str a]).showable = true
  simp only [PyData.showable, PyData.showableAll, nat_small hn, Bool.and_self]
theorem show_let {l : Letter} (h : smL l) : l.toD.showable = true := by
  cases l with
  | ask => decide +kernel
  | floor => decide +kernel
  | stamp s =>
    obtain ⟨⟨n, e, hn⟩, _⟩ := h
    obtain ⟨i, a⟩ := s
    dsimp only at e
    subst e
    show (PyData.tuple [.str "stamp", .int n, .str a]).showable = true
    simp only [PyData.showable, PyData.showableAll, nat_small hn, Bool.and_self]
theorem show_wh {x : What} (h : smW x) : x.toD.showable = true := by
  cases x with
  | hear n l =>
    show (PyData.tuple [.str "hear", .str n, l.toD]).showable = true
    simp only [PyData.showable, PyData.showableAll, show_let h.2, Bool.and_self]
  | join n => show (PyData.tuple [.str "join", .str n]).showable = true; simp only [PyData.showable, PyData.showableAll, Bool.and_self]
  | part n => show (PyData.tuple [.str "part", .str n]).showable = true; simp only [PyData.showable, PyData.showableAll, Bool.and_self]
  | want => decide +kernel
  | forgo => decide +kernel
  | done => decide +kernel
theorem show_back {s : Stp} {l : Letter} {x : What} (h1 : smS s) (h2 : smL l) (h3 : smW x) : (dBack s l x).showable = true := by
  simp only [dBack, PyData.showable, PyData.showableAll, show_st h1, show_let h2, show_wh h3, Bool.and_self]
theorem nodict_let (l : Letter) : l.toD.hasDict = false := by cases l <;> simp [Letter.toD, PyData.hasDict, PyData.hasDictAll]
theorem nodict_wh (x : What) : x.toD.hasDict = false := by cases x <;> simp [What.toD, PyData.hasDict, PyData.hasDictAll, nodict_let]
theorem nodict_back (s : Stp) (l : Letter) (x : What) : (dBack s l x).hasDict = false := by
  have e : (Datum.toD s : PyData).hasDict = false := by
    show (PyData.tuple [.int s.1, .str s.2]).hasDict = false
    simp [PyData.hasDict, PyData.hasDictAll]
  simp only [dBack, PyData.hasDict, PyData.hasDictAll, e, nodict_let, nodict_wh, Bool.or_self]
theorem depth_back (s : Stp) (l : Letter) (x : What) : (dBack s l x).depth ≤ 20 := by
  have h1 : (Datum.toD s : PyData).depth ≤ 2 := Nat.le_trans (Datum.depth_le s) (by decide)
  have h2 : l.toD.depth ≤ 1 := let_depth l
  have h3 : x.toD.depth ≤ 2 := Datum.depth_le x
  simp only [dBack, PyData.depth, PyData.depthAll]
  omega
theorem show_texts (a b c : Str) : (dTexts a b c).showable = true := by simp only [dTexts, PyData.showable, PyData.showableAll, Bool.and_self]
theorem nodict_texts (a b c : Str) : (dTexts a b c).hasDict = false := by simp only [dTexts, PyData.hasDict, PyData.hasDictAll, Bool.or_self]
theorem depth_texts (a b c : Str) : (dTexts a b c).depth ≤ 20 := by simp [dTexts, PyData.depth, PyData.depthAll]
theorem pot_ne {p q : Addr} {k : Nat} {H : Hp} (h : Pot p k H) (n : H q = none) : q ≠ p := fun z => by
  obtain ⟨_, _, _, e, _⟩ := h
  rw [z] at n
  exact absurd (n.symm.trans e) (by intro y; cases y)
def turnsN (L : Int) : Int := if (if L + 1 < 15 then L + 1 else 15) > 1 then (if L + 1 < 15 then L + 1 else 15) else 1
theorem turns_le {L : Int} (h : 0 ≤ L) : 1 ≤ turnsN L ∧ turnsN L ≤ 15 := by
  unfold turnsN
  by_cases c : L + 1 < 15
  · rw [if_pos c]
    by_cases d : L + 1 > 1
    · rw [if_pos d]; omega
    · rw [if_neg d]; omega
  · rw [if_neg c, if_pos (by decide)]; omega
theorem law_body (T : TX K mg) (nb : base.NoDigits) {A : Around} (hgA : A.guards = some []) (cdv : Value) (outer : List Env) (s : Shared) (H : Hp) (E : XK) (Q : VK) (hr : Room 8 (A.deeper (envOfC "law" (defScope s_law) s.heap.objs.size T.law.f cdv)))
    (a : Addr) (ns : List Int) (sq : SqL K H a (ns.map V.int)) (hl : ns.length ≤ 63) (k : ∀ H', Q (.bl true) H') :
    ∃ t, PSs (cxOf CX0 P w K mg base ["_law_script", "_law_k", "_law_pot_here", "_law_turn", "_law_stamp", "_law_letter_here", "_law_what_here", "_law_texts", "_law_due", "_law_back"] "law" (defScope s_law) T.law.f cdv A outer s H E).nox (defBody s_law) t ∧
      t { nx := fun _ H' => Q .non H', rt := Q } (L2.start ["_law_script", "_law_k", "_law_pot_here", "_law_turn", "_law_stamp", "_law_letter_here", "_law_what_here", "_law_texts", "_law_due", "_law_back"] [.ref a]) H := by
  have nd := sc_law.nd
  have hg : (A.deeper (envOfC "law" (defScope s_law) s.heap.objs.size T.law.f cdv)).guards = some [] := hgA
  refine ⟨_, (pss_cons (ps_for PassesOwn.never rfl (pi_range1 rfl T.z_range (pa_cons (pe_callB (call_max2 rfl) (by rfl) T.z_max (by decide +kernel) (pa_cons pe_int (pa_cons (pe_callB (call_min2 rfl) (by rfl) T.z_min (by decide +kernel) (pa_cons pe_int (pa_cons (pe_op op_add (pe_callB call_len_seq (by rfl) T.z_len PySem.boot_len (pa_cons (pv 0) pa_nil)) pe_int) pa_nil))) pa_nil))) pa_nil)) (pg_name (i := 1) nd rfl (Or.inl rfl)) (pss_cons (ps_set (i := 2) nd rfl (Or.inl rfl) (pe_call (ok_law_pot T) (hr.mono (by decide)) rfl T.g_law_pot T.law_pot.F.kp T.law_pot.b .nil pass0 (pa_cons (pv 0) (pa_cons (pv 1) pa_nil))))
    (pss_cons (ps_for PassesOwn.never rfl (pi_range1 rfl T.z_range (pa_cons pe_int pa_nil)) (pg_name (i := 3) nd rfl (Or.inl rfl)) (pss_cons (ps_set (i := 4) nd rfl (Or.inl rfl) (pe_tup (pa_cons (pe_ix ix_list (pe_lst (pa_cons pe_int (pa_cons (pe_call (ok_law_dip T) (hr.mono (by decide)) rfl T.g_law_dip T.law_dip.F.kp T.law_dip.b .nil pass0 (pa_cons (pv 2) (pa_cons pe_int pa_nil))) (pa_cons pe_int (pa_cons pe_int pa_nil))))) (pe_call (ok_law_dip T) (hr.mono (by decide)) rfl T.g_law_dip T.law_dip.F.kp T.law_dip.b .nil pass0 (pa_cons (pv 2) (pa_cons pe_int pa_nil))) (fun _ _ => rfl)) (pa_cons (pe_call (ok_law_name T) (hr.mono (by decide)) rfl T.g_law_name T.law_name.F.kp T.law_name.b .nil pass0 (pa_cons (pv 2) pa_nil)) pa_nil))))
    (pss_cons (ps_set (i := 5) nd rfl (Or.inl rfl) (pe_call (ok_law_letter T) (hr.mono (by decide)) rfl T.g_law_letter T.law_letter.F.kp T.law_letter.b .nil pass0 (pa_cons (pv 2) pa_nil)))
    (pss_cons (ps_set (i := 6) nd rfl (Or.inl rfl) (pe_call (ok_law_what T) (hr.mono (by decide)) rfl T.g_law_what T.law_what.F.kp T.law_what.b .nil pass0 (pa_cons (pv 2) pa_nil)))
    (pss_cons (ps_set (i := 7) nd rfl (Or.inl rfl) (pe_lst (pa_cons (pe_call (ok_show_stamp T nb) (hr.mono (by decide)) rfl T.g_show_stamp T.show_stamp.F.kp T.show_stamp.b .nil pass0 (pa_cons (pv 4) pa_nil)) (pa_cons (pe_call (ok_show_letter T nb) (hr.mono (by decide)) rfl T.g_show_letter T.show_letter.F.kp T.show_letter.b .nil pass0 (pa_cons (pv 5) pa_nil)) (pa_cons (pe_call (ok_show_what T nb) (hr.mono (by decide)) rfl T.g_show_what T.show_what.F.kp T.show_what.b .nil pass0 (pa_cons (pv 6) pa_nil)) pa_nil)))))
    (pss_cons (ps_set (i := 8) nd rfl (Or.inl rfl) (pe_lst (pa_cons (pe_op op_add_str (pe_op op_add_str (pe_callTy (cr_strD nb rfl) (by rfl) T.z_str (by decide +kernel) (pa_cons (pe_ix ix_tup (pv 4) pe_int (fun _ _ => rfl)) pa_nil)) pe_str) (pe_ix ix_tup (pv 4) pe_int (fun _ _ => rfl))) (pa_cons (pe_call (ok_law_shown T nb) (hr.mono (by decide)) rfl T.g_law_shown T.law_shown.F.kp T.law_shown.b .nil pass0 (pa_cons (pv 5) pa_nil)) pa_nil))))
    (pss_cons (ps_if (pt_cmpR op_ne (pe_callB (cr_reprD hg (hu100 hr)) (by rfl) T.z_repr (by decide +kernel) (pa_cons (pv 7) pa_nil)) (pe_callB (cr_reprD hg (hu100 hr)) (by rfl) T.z_repr (by decide +kernel) (pa_cons (pe_op op_cat (pv 8) (pe_lst (pa_cons (pe_call (ok_law_what_shown T nb) (hr.mono (by decide)) rfl T.g_law_what_shown T.law_what_shown.F.kp T.law_what_shown.b .nil pass0 (pa_cons (pv 6) pa_nil)) pa_nil))) pa_nil)) (nomark _)) (pss_one (ps_ret pe_bl)) pss_nil)
    (pss_cons (ps_set (i := 9) nd rfl (Or.inl rfl) (pe_lst (pa_cons (pe_call (ok_read_stamp T nb) (hr.mono (by decide)) rfl T.g_read_stamp T.read_stamp.F.kp T.read_stamp.b .nil pass0 (pa_cons (pe_ix ix_list (pv 7) pe_int (fun _ _ => rfl)) pa_nil)) (pa_cons (pe_call (ok_read_letter T nb) (hr.mono (by decide)) rfl T.g_read_letter T.read_letter.F.kp T.read_letter.b .nil pass0 (pa_cons (pe_ix ix_list (pv 7) pe_int (fun _ _ => rfl)) pa_nil)) (pa_cons (pe_call (ok_read_what T nb) (hr.mono (by decide)) rfl T.g_read_what T.read_what.F.kp T.read_what.b .nil pass0 (pa_cons (pe_ix ix_list (pv 7) pe_int (fun _ _ => rfl)) pa_nil)) pa_nil)))))
    (pss_one (ps_if (pt_cmpR op_ne (pe_callB (cr_reprD hg (hu100 hr)) (by rfl) T.z_repr (by decide +kernel) (pa_cons (pv 9) pa_nil)) (pe_callB (cr_reprD hg (hu100 hr)) (by rfl) T.z_repr (by decide +kernel) (pa_cons (pe_lst (pa_cons (pv 4) (pa_cons (pv 5) (pa_cons (pv 6) pa_nil)))) pa_nil)) (nomark _)) (pss_one (ps_ret pe_bl)) pss_nil))))))))))
    (pss_one (ps_if (pt_not (pt_val (pe_call (ok_law_long_right T nb) (hr.mono (by decide)) rfl T.g_law_long_right T.law_long_right.F.kp T.law_long_right.b .nil pass0 (pa_cons (pv 2) pa_nil)))) (pss_one (ps_ret pe_bl)) pss_nil)))))
    (pss_one (ps_ret pe_bl))), ?_⟩
  refine seq_cut (fun σ1 H1 => True) (fun σ1 H1 _ => k H1) (fun NX nxt => ?_)
  refine ⟨_, rfl, _, _, rfl, .inl sq, _, _, rfl, rfl, _, _, rfl, _, _, rfl, _, rfl, ?_, ?_, ?_⟩
  · have := (turns_le (L := ((ns.map V.int).length : Nat)) (by omega)).1
    show -(2 ^ 62) ≤ turnsN ((ns.map V.int).length : Nat)
    omega
  · have := (turns_le (L := ((ns.map V.int).length : Nat)) (by omega)).2
    show turnsN ((ns.map V.int).length : Nat) < 2 ^ 62
    omega
  refine for_it walk_range (fun i σ' H' => ∃ v1 v2 v3 v4 v5 v6 v7 v8 v9, σ' = [some (.ref a), v1, v2, v3, v4, v5, v6, v7, v8, v9] ∧ Same H H') ⟨_, _, _, _, _, _, _, _, _, rfl, fun _ _ e => e⟩ (fun _ _ _ _ _ => trivial) ?_ (fun _ _ _ => nxt _ _ trivial)
  rintro i y σ' H1 H1' hi ⟨v1, v2, v3, v4, v5, v6, v7, v8, v9, rfl, sm⟩ ⟨rfl, rfl⟩
  have i15 : i ≤ 15 := by
    have h := (turns_le (L := ((ns.map V.int).length : Nat)) (by omega)).2
    have hi' : i < (turnsN ((ns.map V.int).length : Nat)).toNat := hi
    omega
  refine ⟨_, rfl, _, rfl, a, ns, i, by show [V.ref a, V.int (0 + (i : Int))] = _; rw [Int.zero_add], sm.seq sq, hl, by omega, fun p H2 n2 hp po => ?_⟩
  have hp0 : H p = none := by
    cases e : H p with
    | none => rfl
    | some o => have := sm _ _ e; rw [hp] at this; cases this
  have sm2 := same_new sm n2
  dsimp only
  refine seq_cut (fun σ3 H3 => ∃ v1 v3 v4 v5 v6 v7 v8 v9, σ3 = [some (.ref a), v1, some (.ref p), v3, v4, v5, v6, v7, v8, v9] ∧ Same H H3 ∧ Pot p 2000 H3) ?_ ?_
  · rintro σ3 H3 ⟨v1, v3, v4, v5, v6, v7, v8, v9, rfl, sm3, po3⟩
    refine ⟨_, rfl, p, 2000, rfl, po3, by omega, fun H4 c4 _ => ⟨true, rfl, iteF ?_⟩⟩
    exact ⟨_, _, _, _, _, _, _, _, _, rfl, same_at sm3 c4 hp0⟩
  · intro NX2 nxt2
    refine ⟨_, rfl, by decide, by decide, ?_⟩
    refine for_it walk_range (fun j σ' H' => ∃ v1 v3 v4 v5 v6 v7 v8 v9, σ' = [some (.ref a), v1, some (.ref p), v3, v4, v5, v6, v7, v8, v9] ∧ Same H H' ∧ Pot p (200 * j) H') ⟨_, _, _, _, _, _, _, _, rfl, sm2, po.mono (by omega)⟩ (fun _ _ _ _ _ => trivial) ?_ ?_
    · rintro j y σ' H3 H3' hj ⟨v1, v3, v4, v5, v6, v7, v8, v9, rfl, sm3, po3⟩ ⟨rfl, rfl⟩
      have j6 : j < 6 := hj
      refine ⟨_, rfl, p, _, 99, rfl, po3, by omega, by omega, by omega, fun r1 H4 h1 c4 po4 => ⟨ln4, fun q hq => ?_⟩⟩
      have m4 := New.fresh (o := .lst [.int 0, .int r1, .int 999999999, .int 10]) hq
      have e4 : (upd H4 q (.lst [.int 0, .int r1, .int 999999999, .int 10])) q = some (.lst [.int 0, .int r1, .int 999999999, .int 10]) := upd_same
      refine ⟨_, rfl, p, _, 4, rfl, po4.new m4, by omega, by omega, by omega, fun r2 H5 h2 c5 po5 => ?_⟩
      have e5 := c5.keep _ _ e4 (pot_ne po4 hq)
      have hn : ∃ n : Nat, ([.int 0, .int r1, .int 999999999, .int 10] : List V)[r2]? = some (.int n) ∧ n < 10 ^ 9 := by
        match r2, h2 with
        | 0, _ => exact ⟨0, rfl, by decide⟩
        | 1, _ => exact ⟨r1, rfl, by omega⟩
        | 2, _ => exact ⟨999999999, rfl, by decide⟩
        | 3, _ => exact ⟨10, rfl, by decide⟩
      obtain ⟨n, en, nz⟩ := hn
      refine ⟨_, _, _, _, rfl, rfl, SqL.of e5, atI_nat (j := r2) en, ?_⟩
      refine ⟨_, rfl, p, _, rfl, po5, by omega, fun nm H6 on c6 po6 => ⟨ln2, fun q2 hq2 => ?_⟩⟩
      have dst : Dt (upd H6 q2 (.tup [.int n, .str nm])) (.ref q2) (((n : Int), nm) : Stp) := t_stp hq2
      have m6 := New.fresh (o := .tup [.int n, .str nm]) hq2
      have sm6 : Same H (upd H6 q2 (.tup [.int n, .str nm])) := same_new (same_at (same_at (same_new (same_at sm3 c4 hp0) m4) c5 hp0) c6 hp0) m6
      have po7 := po6.new m6
      clear m4 e4 e5 c4 c5 c6 po4 po5 po6 m6
      generalize upd H6 q2 (.tup [.int n, .str nm]) = G0 at *
      have oks : smS ((n : Int), nm) := ⟨⟨n, rfl, nz⟩, on⟩
      refine ⟨_, rfl, p, _, rfl, po7, by omega, fun lv l G1 ol dl c1 po8 => ?_⟩
      refine ⟨_, rfl, p, _, rfl, po8, by omega, fun wv x G2 ow dw c2 po9 => ?_⟩
      have sm8 := same_at (same_at sm6 c1 hp0) c2 hp0
      have d1 := dst.tups (c1.tup.trans c2.tup)
      have d2 := dl.tups c2.tup
      have d3 := dw
      have po10 : Pot p (200 * (j + 1)) G2 := po9.mono (by omega)
      clear dst dl dw c1 c2 po7 po8 po9 sm6
      -- the texts
      refine ⟨_, rfl, _, _, rfl, d1.dm, smS.ok oks, fun G3 n3 => ⟨_, rfl, _, l, rfl, (d2.tups n3.tup).dm, smL.ok ol, fun G4 n4 => ⟨_, rfl, _, x, rfl, (d3.tups (n3.tup.trans n4.tup)).dm, smW.ok ow, fun G5 n5 => ⟨ln3, fun q7 hq7 => ?_⟩⟩⟩⟩
      have okt := smS.ok oks
      have zt := st_len okt
      have zl := let_len (smL.ok ol)
      have zw := what_len (smW.ok ow)
      have zn := num_len (n := n) (Nat.lt_of_lt_of_le nz (Nat.pow_le_pow_right (by decide) (by decide)))
      have za := (name_len on).2
      have l1 : ("." : Str).length = 1 := by decide +kernel
      have m5 := New.fresh (o := .lst [.str (stT ((n : Int), nm)), .str (letT l), .str (whatT x)]) hq7
      have e7 : (upd G5 q7 (.lst [.str (stT ((n : Int), nm)), .str (letT l), .str (whatT x)])) q7 = some (.lst [.str (stT ((n : Int), nm)), .str (letT l), .str (whatT x)]) := upd_same
      have nn := ((n3.comp n4).comp n5).comp m5
      have d1' := d1.tups nn.tup
      have d2' := d2.tups nn.tup
      have d3' := d3.tups nn.tup
      clear d1 d2 d3 n3 n4 n5 m5
      generalize upd G5 q7 (.lst [.str (stT ((n : Int), nm)), .str (letT l), .str (whatT x)]) = G6 at *
      obtain ⟨q2', eq2, est⟩ := stp_dir d1'
      cases eq2
      have sqst : SqT K G6 q2 [.int n, .str nm] := SqT.of est
      refine ⟨_, rfl, _, _, _, _, rfl, rfl, sqst, atI_nat (j := 0) rfl, _, rfl, big_ok (Nat.lt_of_lt_of_le nz (Nat.pow_le_pow_right (by decide) (by decide))), _, _, rfl, rfl, sz_le (by show (numT n).length + ("." : Str).length ≤ 1000000; omega), _, rfl, _, _, _, _, rfl, rfl, sqst, atI_nat (j := 1) rfl, _, _, rfl, rfl, sz_le (by show (numT n ++ "." : Str).length + nm.length ≤ 1000000; rw [len_app]; omega), _, rfl, _, l, rfl, d2'.dm, smL.ok ol, fun G7 n7 => ⟨ln2, fun q8 hq8 => ?_⟩⟩
      have m8 := New.fresh (o := .lst [.str (stT ((n : Int), nm)), .str (letT l)]) hq8
      have e8 : (upd G7 q8 (.lst [.str (stT ((n : Int), nm)), .str (letT l)])) q8 = some (.lst [.str (stT ((n : Int), nm)), .str (letT l)]) := upd_same
      have n8 := n7.comp m8
      -- repr(texts) != repr(due + [..])
      have lt := low_st (s := ((n : Int), nm)) on
      have lt2 := low_let (smL.ok ol)
      have lt3 := low_what (smW.ok ow)
      have zsh := shown_texts lt lt2 lt3 (by omega) (by omega) zw
      refine ⟨_, rfl, q7, dTexts _ _ _, rfl, dp_texts (n8.at e7), show_texts _ _ _, nodict_texts _ _ _, depth_texts _ _ _, zsh, ?_⟩
      refine ⟨_, rfl, _, rfl, _, x, rfl, (d3'.tups n8.tup).dm, smW.ok ow, fun G8 n9 => ⟨ln1, fun q9 hq9 => ?_⟩⟩
      have m9 := New.fresh (o := .lst [.str (whatT x)]) hq9
      refine ⟨_, _, _, _, rfl, rfl, m9.at (n9.at e8), upd_same, sz_le (by show 3 ≤ 1000000; decide), fun q10 hq10 => ?_⟩
      have m10 := New.fresh (o := .lst [.str (stT ((n : Int), nm)), .str (letT l), .str (whatT x)]) hq10
      refine ⟨q10, dTexts _ _ _, rfl, dp_texts upd_same, show_texts _ _ _, nodict_texts _ _ _, depth_texts _ _ _, zsh, rfl, false, by rw [decide_eq_true rfl]; rfl, iteF ?_⟩
      have n10 := ((n8.comp n9).comp m9).comp m10
      have e7' := n10.at e7
      have d1'' := d1'.tups n10.tup
      have d2'' := d2'.tups n10.tup
      have d3'' := d3'.tups n10.tup
      have sm10 := same_new (same_new sm8 nn) n10
      have po11 := (po10.new nn).new n10
      clear e8 m9 m10 n9 m8 n7 hq10 hq9 hq8
      refine ⟨_, rfl, _, _, _, _, rfl, rfl, SqL.of e7', atI_nat (j := 0) rfl, ((n : Int), nm), rfl, okt, fun w1 K1 k1 f1 => ?_⟩
      refine ⟨_, rfl, _, _, _, _, rfl, rfl, SqL.of (k1.at e7'), atI_nat (j := 1) rfl, l, rfl, smL.ok ol, fun w2 K2 k2 f2 => ?_⟩
      refine ⟨_, rfl, _, _, _, _, rfl, rfl, SqL.of (k2.at (k1.at e7')), atI_nat (j := 2) rfl, x, rfl, smW.ok ow, fun w3 K3 k3 f3 => ⟨ln3, fun q11 hq11 => ?_⟩⟩
      have k4 := New.fresh (o := .lst [w1, w2, w3]) hq11
      have f1' := f1.tups ((k2.tup.trans k3.tup).trans k4.tup)
      have f2' := f2.tups (k3.tup.trans k4.tup)
      have f3' := f3.tups k4.tup
      have kk4 := ((k1.comp k2).comp k3).comp k4
      have zb := shown_back oks ol ow
      refine ⟨_, rfl, q11, dBack _ _ _, rfl, dp_back upd_same f1' f2' f3', show_back oks ol ow, nodict_back _ _ _, depth_back _ _ _, zb, ?_⟩
      refine ⟨_, rfl, _, rfl, _, rfl, ln3, fun q12 hq12 => ?_⟩
      have k5 := New.fresh (o := .lst [.ref q2, lv, wv]) hq12
      have tt := kk4.tup.trans k5.tup
      refine ⟨q12, dBack _ _ _, rfl, dp_back upd_same (d1''.tups tt) (d2''.tups tt) (d3''.tups tt), show_back oks ol ow, nodict_back _ _ _, depth_back _ _ _, zb, rfl, false, by rw [decide_eq_true rfl]; rfl, iteF ?_⟩
      exact ⟨_, _, _, _, _, _, _, _, rfl, same_new (same_new sm10 kk4) k5, (po11.new kk4).new k5⟩
    · rintro σ' H3 ⟨v1, v3, v4, v5, v6, v7, v8, v9, rfl, sm3, po3⟩
      exact nxt2 _ _ ⟨v1, v3, v4, v5, v6, v7, v8, v9, rfl, sm3, po3.mono (by decide)⟩
end
end N7
namespace N7
open PySem PySem.Spec PyProof.Rows L2
open PySem.W (Datum DatumOrd Holds HoldAll)
/-! ### the law called, by the caller's own frame: no repr is on its way there, and the limit of figures stands -/
section
variable {P : Program} {w : World} {K : PySem.W.Frag} {mg : Str → Option Value} {base : Heap}
def TrueOf : VK := fun v _ => v = .bl true
theorem law_run (T : TX K mg) (nb : base.NoDigits) {s : Shared} {H : Hp} {a : Addr} {ns : List Int} (ev : Env0 P w K mg base callerA [] s H) (bi : BindsTo s T.law.fd ⟨[.ref a], []⟩ [("_law_script", .ref a)]) (sq : SqL K H a (ns.map V.int)) (hl : ns.length ≤ 63) :
    codeAny (model P w) callerA (.call (.ref T.law.f) ⟨[.ref a], []⟩) (CR CX0 [] P w H s TrueOf fun _ _ _ => False) s := by
  obtain ⟨oc, od, kV, doc, pm, an, cdv, ct, osl, efd, lk, hcd⟩ := T.law.F.ex
  rw [efd] at lk bi
  refine LamX.run_ofS (k := 8) (us := [.ref a]) (vs := [.ref a]) lk hcd sc_law ⟨rfl, by decide, by decide⟩ ev bi (.cons rfl .nil) rfl fun hr => ?_
  obtain ⟨t, ht, hq⟩ := law_body (P := P) (w := w) T nb (A := callerA) rfl cdv [] s H (fun _ _ _ => False) TrueOf hr a ns sq hl fun _ => rfl
  exact ⟨t, ht.nox, hq⟩
/-- from a tracked heap in which the script alone may stand -/
theorem law_from {mb : Str → Option Value} {s : Shared} {H : Hp} {a : Addr} {vs : List Value} {ns : List Int} (T : TX K mg) (inK : K.In s.heap) (gl : s.heap.Ns mainGlobals mg) (bl : s.heap.Ns builtinsNs mb) (bb : ∀ x : Str, x ≠ "__name__" → mb x = bootBuiltins x)
    (lim : s.heap.NoLimit) (dig : s.heap.NoDigits) (gn : s.gens = #[]) (ea : s.heap.get? a = some { cls := .type "list", data := .seq vs.toArray }) (bi : ∀ (s : Shared) (u : Value), BindsTo s T.law.fd ⟨[u], []⟩ [("_law_script", u)]) (hl : ns.length ≤ 63)
    (only : Only H) (sq : SqL K H a (ns.map V.int)) (ok : HOk P w H s.heap) (one : ∀ b, H b ≠ none → b = a) (apart : H a ≠ none → K.lookup a = none) :
    codeAny (model P w) callerA (.call (.ref T.law.f) ⟨[.ref a], []⟩) (fun r s' => r = .ok (.ret (.bool true)) ∧ OldK s.heap s'.heap ∧ s'.os = s.os ∧ AllBare s'.gens) s := by
  have hid : ∀ {b : Addr} {o : Obj}, s.heap.get? b = some o → H b = none → (hidT s.heap H).get? b = some o := fun e n => hidT_get e n
  have nod : ∀ {b : Addr} {o : Obj} {es : Array DictEntry} {ep : Nat}, s.heap.get? b = some o → o.data = .dict es ep → H b = none := by
    intro b o es ep e d
    cases q : H b with
    | none => rfl
    | some u =>
      obtain rfl : b = a := one b (by rw [q]; exact fun z => nomatch z)
      rw [ea] at e
      cases e
      exact nomatch (show Data.seq vs.toArray _ = Data.dict es ep from d)
  have nsOf : ∀ {b : Addr} {m : Str → Option Value}, s.heap.Ns b m → (hidT s.heap H).Ns b m := by
    rintro b m ⟨o, es, ep, e, d, r⟩
    exact ⟨o, es, ep, hid e (nod e d), d, r⟩
  have inB : K.In (hidT s.heap H) := by
    intro b o e
    refine hid (inK b o e) ?_
    cases q : H b with
    | none => rfl
    | some u =>
      have nn : H b ≠ none := by rw [q]; exact fun z => nomatch z
      obtain rfl : b = a := one b nn
      rw [apart nn] at e
      cases e
  have md : L2.Mod K mg (hidT s.heap H) := by
    obtain ⟨mc, h1, h2⟩ := lim
    exact ⟨inB, nsOf gl, ⟨mb, nsOf bl, bb⟩, mc, nsOf h1, h2⟩
  have nb : (hidT s.heap H).NoDigits := by
    obtain ⟨mc, h1, h2⟩ := dig
    exact ⟨mc, nsOf h1, h2⟩
  have ev : Env0 P w K mg (hidT s.heap H) callerA [] s H :=
    ⟨rfl, md, fun _ _ e => of_hidT e, Nat.le_of_eq (hidT_size _ _), trivial, fun b hb => (nomatch (show b ∈ ([] : List Addr) from hb)), ok, .of_eq gn⟩
  refine codeAny_mono (law_run T nb ev (bi s (.ref a)) sq hl) fun r s' h => ?_
  cases r with
  | error e => exact (show False from h).elim
  | ok fl =>
    cases fl with
    | next => exact (show False from h).elim
    | brk => exact (show False from h).elim
    | cont => exact (show False from h).elim
    | ret u =>
      obtain ⟨v, H', os, bare, un, ok', rv, q⟩ := h
      obtain rfl : v = .bl true := q
      obtain rfl : u = Value.bool true := rv
      refine ⟨rfl, OldK.of_keep ?_, os, bare⟩
      intro b o e
      cases q : H b with
      | none => exact un.keep b o e q (fun z => nomatch (show b ∈ ([] : List Addr) from z)) (by simp)
      | some u =>
        rcases only b with z | ⟨ob, xs, z⟩
        · rw [q] at z; cases z
        · obtain ⟨a1, _⟩ := ok b _ z
          obtain ⟨a2, _⟩ := ok' b _ (un.frzs b ob _ z)
          rw [e] at a1
          cases a1
          exact a2
theorem law_called {mb : Str → Option Value} {s : Shared} {a : Addr} {vs : List Value} {ns : List Int} (T : TX K mg) (inK : K.In s.heap) (gl : s.heap.Ns mainGlobals mg) (bl : s.heap.Ns builtinsNs mb) (bb : ∀ x : Str, x ≠ "__name__" → mb x = bootBuiltins x)
    (lim : s.heap.NoLimit) (dig : s.heap.NoDigits) (gn : s.gens = #[]) (ea : s.heap.get? a = some { cls := .type "list", data := .seq vs.toArray }) (it : IntsAre vs ns) (bi : ∀ (s : Shared) (u : Value), BindsTo s T.law.fd ⟨[u], []⟩ [("_law_script", u)]) (hl : ns.length ≤ 63) :
    codeAny (model P w) callerA (.call (.ref T.law.f) ⟨[.ref a], []⟩) (fun r s' => r = .ok (.ret (.bool true)) ∧ OldK s.heap s'.heap ∧ s'.os = s.os ∧ AllBare s'.gens) s := by
  have rv := vals_ints it
  have lv := it.length
  have go := fun H => law_from (P := P) (w := w) (H := H) T inK gl bl bb lim dig gn ea bi hl
  cases hk : K.lookup a with
  | some o =>
    have e := inK a o hk
    rw [ea] at e
    cases e
    exact go (fun _ => none) (fun _ => .inl rfl) (.inr ⟨_, vs.toArray, _, hk, rfl, rfl, rfl, by rw [List.size_toArray, lv]; exact sz_le (by omega), by simpa using rv⟩) (fun b u z => nomatch (show (none : Option HO) = some u from z)) (fun b z => absurd rfl z) fun z => absurd rfl z
  | none =>
    have at_ : ∀ {b : Addr} {u : HO}, (if b = a then some (HO.frz { cls := .type "list", data := .seq vs.toArray } (.lst (ns.map V.int))) else none) = some u → b = a ∧ u = .frz { cls := .type "list", data := .seq vs.toArray } (.lst (ns.map V.int)) := by
      intro b u z
      by_cases c : b = a
      · rw [if_pos c] at z
        exact ⟨c, (Option.some.inj z).symm⟩
      · rw [if_neg c] at z
        cases z
    refine go (fun b => if b = a then some (HO.frz { cls := .type "list", data := .seq vs.toArray } (.lst (ns.map V.int))) else none) (fun b => ?_) (.inl (.inr ⟨_, if_pos rfl⟩)) (fun b u z => ?_) (fun b z => ?_) fun _ => hk
    · by_cases c : b = a
      · exact .inr ⟨_, _, if_pos c⟩
      · exact .inl (if_neg c)
    · obtain ⟨rfl, rfl⟩ := at_ z
      exact ⟨ea, by rw [List.length_map]; exact sz_le (by omega), vs, _, rv, ea⟩
    · by_cases c : b = a
      · exact c
      · exact absurd (if_neg c) z
theorem law_walk {l : PySem.W.OpenLaw} {q : Program} {loose : List Str} {XP : (Str → Option Value) → Heap → Prop} {YP : World → Heap → Prop} {d : DefRec} {KP : Params → PySem.W.Frag} (hn : l.most = some 63) (hdf : d.params.defaults = [])
    (hY : ∀ (w : World) (h : Heap), YP w h → (KP w.params).In h)
    (F : ∀ (w : World) (mg : Str → Option Value) (fa : Addr) (h : Heap), (KP w.params).In h → h.Ns mainGlobals mg → mg d.name = some (.ref fa) →
      ∃ T : TX (KP w.params) mg, T.law.f = fa ∧ ∀ (s : Shared) (u : Value), BindsTo s T.law.fd ⟨[u], []⟩ [("_law_script", u)]) :
    PySem.W.WalkO q loose XP YP l.row.toRowW d [] (fun f vs => PySem.call f vs) := by
  refine Att.attach_call hn hdf fun w s₀ s₁ mg mb fa o pm cd doc a vs ns G Y ho hd hcd hmg hobj hints hlen hg => ?_
  obtain ⟨T, ef, bi⟩ := F w mg fa _ (hY w _ Y) G.T.g hmg
  subst ef
  exact law_called T (hY w _ Y) G.T.g G.T.b G.T.builtins G.T.nolimit G.T.nodigits hg hobj hints bi hlen
end
end N7
namespace N7
open PySem PySem.Spec PyProof.Rows L2
/-! ### what the top has written -/
theorem all_mk {K : PySem.W.Frag} {h : Heap} {mg : Str → Option Value} {fa f0 f1 f2 f3 f4 f5 f6 f7 f8 f9 f10 f11 f12 f13 f14 f15 f16 f17 f18 f19 f20 f21 f22 f23 f24 f25 f26 ta0 ta1 ta2 ta3 : Addr} (X : K.In h) (G : h.Ns mainGlobals mg) (hfa : mg "law" = some (.ref fa))
    {od0 an0 od1 an1 od2 an2 od3 an3 od4 an4 od5 an5 od6 an6 od7 an7 od8 an8 od9 an9 od10 an10 od11 an11 od12 an12 od13 an13 od14 an14 od15 an15 od16 an16 od17 an17 od18 an18 od19 an19 od20 an20 od21 an21 od22 an22 od23 an23 od24 an24 od25 an25 od26 an26 tod0 tod1 tod2 tod3 : Option Addr} {sl0 sl1 sl2 sl3 sl4 sl5 sl6 sl7 sl8 sl9 sl10 sl11 sl12 sl13 sl14 sl15 sl16 sl17 sl18 sl19 sl20 sl21 sl22 sl23 sl24 sl25 sl26 tsl0 tsl1 tsl2 tsl3 : Array (Option Value)} {oc0 kV0 dc0 pm0 cd0 ct0 oc1 kV1 dc1 pm1 cd1 ct1 oc2 kV2 dc2 pm2 cd2 ct2 oc3 kV3 dc3 pm3 cd3 ct3 oc4 kV4 dc4 pm4 cd4 ct4 oc5 kV5 dc5 pm5 cd5 ct5 oc6 kV6 dc6 pm6 cd6 ct6 oc7 kV7 dc7 pm7 cd7 ct7 oc8 kV8 dc8 pm8 cd8 ct8 oc9 kV9 dc9 pm9 cd9 ct9 oc10 kV10 dc10 pm10 cd10 ct10 oc11 kV11 dc11 pm11 cd11 ct11 oc12 kV12 dc12 pm12 cd12 ct12 oc13 kV13 dc13 pm13 cd13 ct13 oc14 kV14 dc14 pm14 cd14 ct14 oc15 kV15 dc15 pm15 cd15 ct15 oc16 kV16 dc16 pm16 cd16 ct16 oc17 kV17 dc17 pm17 cd17 ct17 oc18 kV18 dc18 pm18 cd18 ct18 oc19 kV19 dc19 pm19 cd19 ct19 oc20 kV20 dc20 pm20 cd20 ct20 oc21 kV21 dc21 pm21 cd21 ct21 oc22 kV22 dc22 pm22 cd22 ct22 oc23 kV23 dc23 pm23 cd23 ct23 oc24 kV24 dc24 pm24 cd24 ct24 oc25 kV25 dc25 pm25 cd25 ct25 oc26 kV26 dc26 pm26 cd26 ct26 : Value} {ts0 ts1 ts2 ts3 ts4 ti0 tt0_0 tt1_0 tt2_0 tt2_1 tt2_2 tt3_0 tt3_1 : Tok} {tn0 tn1 tn2 tn3 : Nat}
    (na0 : PySem.W.nsIn K mainGlobals "is_count" = some (some (.ref f0)))
    (lk0 : K.lookup f0 = some ⟨oc0, od0, .func (PySem.W.fnOf "is_count" "is_count" (defArgs s_is_count) (defBody s_is_count) (defScope s_is_count) .none kV0 dc0 pm0 an0 cd0 ct0), sl0⟩)
    (co0 : PySem.W.codeIn K cd0 "is_count" = true)
    (ke0 : PySem.W.keepIn K (.ref f0) = true)
    (na1 : PySem.W.nsIn K mainGlobals "is_name" = some (some (.ref f1)))
    (lk1 : K.lookup f1 = some ⟨oc1, od1, .func (PySem.W.fnOf "is_name" "is_name" (defArgs s_is_name) (defBody s_is_name) (defScope s_is_name) .none kV1 dc1 pm1 an1 cd1 ct1), sl1⟩)
    (co1 : PySem.W.codeIn K cd1 "is_name" = true)
    (ke1 : PySem.W.keepIn K (.ref f1) = true)
    (na2 : PySem.W.nsIn K mainGlobals "is_pair" = some (some (.ref f2)))
    (lk2 : K.lookup f2 = some ⟨oc2, od2, .func (PySem.W.fnOf "is_pair" "is_pair" (defArgs s_is_pair) (defBody s_is_pair) (defScope s_is_pair) .none kV2 dc2 pm2 an2 cd2 ct2), sl2⟩)
    (co2 : PySem.W.codeIn K cd2 "is_pair" = true)
    (ke2 : PySem.W.keepIn K (.ref f2) = true)
    (na3 : PySem.W.nsIn K mainGlobals "is_stamp" = some (some (.ref f3)))
    (lk3 : K.lookup f3 = some ⟨oc3, od3, .func (PySem.W.fnOf "is_stamp" "is_stamp" (defArgs s_is_stamp) (defBody s_is_stamp) (defScope s_is_stamp) .none kV3 dc3 pm3 an3 cd3 ct3), sl3⟩)
    (co3 : PySem.W.codeIn K cd3 "is_stamp" = true)
    (ke3 : PySem.W.keepIn K (.ref f3) = true)
    (na4 : PySem.W.nsIn K mainGlobals "is_letter" = some (some (.ref f4)))
    (lk4 : K.lookup f4 = some ⟨oc4, od4, .func (PySem.W.fnOf "is_letter" "is_letter" (defArgs s_is_letter) (defBody s_is_letter) (defScope s_is_letter) .none kV4 dc4 pm4 an4 cd4 ct4), sl4⟩)
    (co4 : PySem.W.codeIn K cd4 "is_letter" = true)
    (ke4 : PySem.W.keepIn K (.ref f4) = true)
    (na5 : PySem.W.nsIn K mainGlobals "is_what" = some (some (.ref f5)))
    (lk5 : K.lookup f5 = some ⟨oc5, od5, .func (PySem.W.fnOf "is_what" "is_what" (defArgs s_is_what) (defBody s_is_what) (defScope s_is_what) .none kV5 dc5 pm5 an5 cd5 ct5), sl5⟩)
    (co5 : PySem.W.codeIn K cd5 "is_what" = true)
    (ke5 : PySem.W.keepIn K (.ref f5) = true)
    (na6 : PySem.W.nsIn K mainGlobals "need_kind" = some (some (.ref f6)))
    (lk6 : K.lookup f6 = some ⟨oc6, od6, .func (PySem.W.fnOf "need_kind" "need_kind" (defArgs s_need_kind) (defBody s_need_kind) (defScope s_need_kind) .none kV6 dc6 pm6 an6 cd6 ct6), sl6⟩)
    (co6 : PySem.W.codeIn K cd6 "need_kind" = true)
    (ke6 : PySem.W.keepIn K (.ref f6) = true)
    (na7 : PySem.W.nsIn K mainGlobals "number_in" = some (some (.ref f7)))
    (lk7 : K.lookup f7 = some ⟨oc7, od7, .func (PySem.W.fnOf "number_in" "number_in" (defArgs s_number_in) (defBody s_number_in) (defScope s_number_in) .none kV7 dc7 pm7 an7 cd7 ct7), sl7⟩)
    (co7 : PySem.W.codeIn K cd7 "number_in" = true)
    (ke7 : PySem.W.keepIn K (.ref f7) = true)
    (na8 : PySem.W.nsIn K mainGlobals "stamp_in" = some (some (.ref f8)))
    (lk8 : K.lookup f8 = some ⟨oc8, od8, .func (PySem.W.fnOf "stamp_in" "stamp_in" (defArgs s_stamp_in) (defBody s_stamp_in) (defScope s_stamp_in) .none kV8 dc8 pm8 an8 cd8 ct8), sl8⟩)
    (co8 : PySem.W.codeIn K cd8 "stamp_in" = true)
    (ke8 : PySem.W.keepIn K (.ref f8) = true)
    (na9 : PySem.W.nsIn K mainGlobals "letter_in" = some (some (.ref f9)))
    (lk9 : K.lookup f9 = some ⟨oc9, od9, .func (PySem.W.fnOf "letter_in" "letter_in" (defArgs s_letter_in) (defBody s_letter_in) (defScope s_letter_in) .none kV9 dc9 pm9 an9 cd9 ct9), sl9⟩)
    (co9 : PySem.W.codeIn K cd9 "letter_in" = true)
    (ke9 : PySem.W.keepIn K (.ref f9) = true)
    (na10 : PySem.W.nsIn K mainGlobals "what_in" = some (some (.ref f10)))
    (lk10 : K.lookup f10 = some ⟨oc10, od10, .func (PySem.W.fnOf "what_in" "what_in" (defArgs s_what_in) (defBody s_what_in) (defScope s_what_in) .none kV10 dc10 pm10 an10 cd10 ct10), sl10⟩)
    (co10 : PySem.W.codeIn K cd10 "what_in" = true)
    (ke10 : PySem.W.keepIn K (.ref f10) = true)
    (na11 : PySem.W.nsIn K mainGlobals "words_of" = some (some (.ref f11)))
    (lk11 : K.lookup f11 = some ⟨oc11, od11, .func (PySem.W.fnOf "words_of" "words_of" (defArgs s_words_of) (defBody s_words_of) (defScope s_words_of) .none kV11 dc11 pm11 an11 cd11 ct11), sl11⟩)
    (co11 : PySem.W.codeIn K cd11 "words_of" = true)
    (ke11 : PySem.W.keepIn K (.ref f11) = true)
    (na12 : PySem.W.nsIn K mainGlobals "show_stamp" = some (some (.ref f12)))
    (lk12 : K.lookup f12 = some ⟨oc12, od12, .func (PySem.W.fnOf "show_stamp" "show_stamp" (defArgs s_show_stamp) (defBody s_show_stamp) (defScope s_show_stamp) .none kV12 dc12 pm12 an12 cd12 ct12), sl12⟩)
    (co12 : PySem.W.codeIn K cd12 "show_stamp" = true)
    (ke12 : PySem.W.keepIn K (.ref f12) = true)
    (na13 : PySem.W.nsIn K mainGlobals "read_stamp" = some (some (.ref f13)))
    (lk13 : K.lookup f13 = some ⟨oc13, od13, .func (PySem.W.fnOf "read_stamp" "read_stamp" (defArgs s_read_stamp) (defBody s_read_stamp) (defScope s_read_stamp) .none kV13 dc13 pm13 an13 cd13 ct13), sl13⟩)
    (co13 : PySem.W.codeIn K cd13 "read_stamp" = true)
    (ke13 : PySem.W.keepIn K (.ref f13) = true)
    (na14 : PySem.W.nsIn K mainGlobals "show_letter" = some (some (.ref f14)))
    (lk14 : K.lookup f14 = some ⟨oc14, od14, .func (PySem.W.fnOf "show_letter" "show_letter" (defArgs s_show_letter) (defBody s_show_letter) (defScope s_show_letter) .none kV14 dc14 pm14 an14 cd14 ct14), sl14⟩)
    (co14 : PySem.W.codeIn K cd14 "show_letter" = true)
    (ke14 : PySem.W.keepIn K (.ref f14) = true)
    (na15 : PySem.W.nsIn K mainGlobals "read_letter" = some (some (.ref f15)))
    (lk15 : K.lookup f15 = some ⟨oc15, od15, .func (PySem.W.fnOf "read_letter" "read_letter" (defArgs s_read_letter) (defBody s_read_letter) (defScope s_read_letter) .none kV15 dc15 pm15 an15 cd15 ct15), sl15⟩)
    (co15 : PySem.W.codeIn K cd15 "read_letter" = true)
    (ke15 : PySem.W.keepIn K (.ref f15) = true)
    (na16 : PySem.W.nsIn K mainGlobals "show_what" = some (some (.ref f16)))
    (lk16 : K.lookup f16 = some ⟨oc16, od16, .func (PySem.W.fnOf "show_what" "show_what" (defArgs s_show_what) (defBody s_show_what) (defScope s_show_what) .none kV16 dc16 pm16 an16 cd16 ct16), sl16⟩)
    (co16 : PySem.W.codeIn K cd16 "show_what" = true)
    (ke16 : PySem.W.keepIn K (.ref f16) = true)
    (na17 : PySem.W.nsIn K mainGlobals "read_what" = some (some (.ref f17)))
    (lk17 : K.lookup f17 = some ⟨oc17, od17, .func (PySem.W.fnOf "read_what" "read_what" (defArgs s_read_what) (defBody s_read_what) (defScope s_read_what) .none kV17 dc17 pm17 an17 cd17 ct17), sl17⟩)
    (co17 : PySem.W.codeIn K cd17 "read_what" = true)
    (ke17 : PySem.W.keepIn K (.ref f17) = true)
    (na18 : PySem.W.nsIn K mainGlobals "_law_pot" = some (some (.ref f18)))
    (lk18 : K.lookup f18 = some ⟨oc18, od18, .func (PySem.W.fnOf "_law_pot" "_law_pot" (defArgs s_law_pot) (defBody s_law_pot) (defScope s_law_pot) .none kV18 dc18 pm18 an18 cd18 ct18), sl18⟩)
    (co18 : PySem.W.codeIn K cd18 "_law_pot" = true)
    (ke18 : PySem.W.keepIn K (.ref f18) = true)
    (na19 : PySem.W.nsIn K mainGlobals "_law_dip" = some (some (.ref f19)))
    (lk19 : K.lookup f19 = some ⟨oc19, od19, .func (PySem.W.fnOf "_law_dip" "_law_dip" (defArgs s_law_dip) (defBody s_law_dip) (defScope s_law_dip) .none kV19 dc19 pm19 an19 cd19 ct19), sl19⟩)
    (co19 : PySem.W.codeIn K cd19 "_law_dip" = true)
    (ke19 : PySem.W.keepIn K (.ref f19) = true)
    (na20 : PySem.W.nsIn K mainGlobals "_law_name" = some (some (.ref f20)))
    (lk20 : K.lookup f20 = some ⟨oc20, od20, .func (PySem.W.fnOf "_law_name" "_law_name" (defArgs s_law_name) (defBody s_law_name) (defScope s_law_name) .none kV20 dc20 pm20 an20 cd20 ct20), sl20⟩)
    (co20 : PySem.W.codeIn K cd20 "_law_name" = true)
    (ke20 : PySem.W.keepIn K (.ref f20) = true)
    (na21 : PySem.W.nsIn K mainGlobals "_law_letter" = some (some (.ref f21)))
    (lk21 : K.lookup f21 = some ⟨oc21, od21, .func (PySem.W.fnOf "_law_letter" "_law_letter" (defArgs s_law_letter) (defBody s_law_letter) (defScope s_law_letter) .none kV21 dc21 pm21 an21 cd21 ct21), sl21⟩)
    (co21 : PySem.W.codeIn K cd21 "_law_letter" = true)
    (ke21 : PySem.W.keepIn K (.ref f21) = true)
    (na22 : PySem.W.nsIn K mainGlobals "_law_what" = some (some (.ref f22)))
    (lk22 : K.lookup f22 = some ⟨oc22, od22, .func (PySem.W.fnOf "_law_what" "_law_what" (defArgs s_law_what) (defBody s_law_what) (defScope s_law_what) .none kV22 dc22 pm22 an22 cd22 ct22), sl22⟩)
    (co22 : PySem.W.codeIn K cd22 "_law_what" = true)
    (ke22 : PySem.W.keepIn K (.ref f22) = true)
    (na23 : PySem.W.nsIn K mainGlobals "_law_shown" = some (some (.ref f23)))
    (lk23 : K.lookup f23 = some ⟨oc23, od23, .func (PySem.W.fnOf "_law_shown" "_law_shown" (defArgs s_law_shown) (defBody s_law_shown) (defScope s_law_shown) .none kV23 dc23 pm23 an23 cd23 ct23), sl23⟩)
    (co23 : PySem.W.codeIn K cd23 "_law_shown" = true)
    (ke23 : PySem.W.keepIn K (.ref f23) = true)
    (na24 : PySem.W.nsIn K mainGlobals "_law_what_shown" = some (some (.ref f24)))
    (lk24 : K.lookup f24 = some ⟨oc24, od24, .func (PySem.W.fnOf "_law_what_shown" "_law_what_shown" (defArgs s_law_what_shown) (defBody s_law_what_shown) (defScope s_law_what_shown) .none kV24 dc24 pm24 an24 cd24 ct24), sl24⟩)
    (co24 : PySem.W.codeIn K cd24 "_law_what_shown" = true)
    (ke24 : PySem.W.keepIn K (.ref f24) = true)
    (na25 : PySem.W.nsIn K mainGlobals "_law_long_right" = some (some (.ref f25)))
    (lk25 : K.lookup f25 = some ⟨oc25, od25, .func (PySem.W.fnOf "_law_long_right" "_law_long_right" (defArgs s_law_long_right) (defBody s_law_long_right) (defScope s_law_long_right) .none kV25 dc25 pm25 an25 cd25 ct25), sl25⟩)
    (co25 : PySem.W.codeIn K cd25 "_law_long_right" = true)
    (ke25 : PySem.W.keepIn K (.ref f25) = true)
    (na26 : PySem.W.nsIn K mainGlobals "law" = some (some (.ref f26)))
    (lk26 : K.lookup f26 = some ⟨oc26, od26, .func (PySem.W.fnOf "law" "law" (defArgs s_law) (defBody s_law) (defScope s_law) .none kV26 dc26 pm26 an26 cd26 ct26), sl26⟩)
    (co26 : PySem.W.codeIn K cd26 "law" = true)
    (ke26 : PySem.W.keepIn K (.ref f26) = true)
    (cs0 : PySem.W.nsIn K mainGlobals "LETTERS" = some (some (.str "abcdefghijklmnopqrstuvwxyz" ts0)))
    (cs1 : PySem.W.nsIn K mainGlobals "STAMP" = some (some (.str "stamp" ts1)))
    (cs2 : PySem.W.nsIn K mainGlobals "FIGURES" = some (some (.str "0123456789" ts2)))
    (cs3 : PySem.W.nsIn K mainGlobals "POINT" = some (some (.str "." ts3)))
    (cs4 : PySem.W.nsIn K mainGlobals "BLANK" = some (some (.str " " ts4)))
    (ci0 : PySem.W.nsIn K mainGlobals "MOST_LETTERS" = some (some (.int 8 ti0)))
    (ct_0 : PySem.W.nsIn K mainGlobals "ASK" = some (some (.ref ta0)))
    (lt_0 : K.lookup ta0 = some ⟨.type "tuple", tod0, .seq #[.str "ask" tt0_0] tn0, tsl0⟩)
    (ct_1 : PySem.W.nsIn K mainGlobals "FLOOR" = some (some (.ref ta1)))
    (lt_1 : K.lookup ta1 = some ⟨.type "tuple", tod1, .seq #[.str "floor" tt1_0] tn1, tsl1⟩)
    (ct_2 : PySem.W.nsIn K mainGlobals "ALONE" = some (some (.ref ta2)))
    (lt_2 : K.lookup ta2 = some ⟨.type "tuple", tod2, .seq #[.str "want" tt2_0, .str "forgo" tt2_1, .str "done" tt2_2] tn2, tsl2⟩)
    (ct_3 : PySem.W.nsIn K mainGlobals "ROADS" = some (some (.ref ta3)))
    (lt_3 : K.lookup ta3 = some ⟨.type "tuple", tod3, .seq #[.str "join" tt3_0, .str "part" tt3_1] tn3, tsl3⟩)
    (zz0 : PySem.W.nsIn K mainGlobals "len" = some none)
    (zz1 : PySem.W.nsIn K mainGlobals "max" = some none)
    (zz2 : PySem.W.nsIn K mainGlobals "min" = some none)
    (zz3 : PySem.W.nsIn K mainGlobals "isinstance" = some none)
    (zz4 : PySem.W.nsIn K mainGlobals "all" = some none)
    (zz5 : PySem.W.nsIn K mainGlobals "range" = some none)
    (zz6 : PySem.W.nsIn K mainGlobals "int" = some none)
    (zz7 : PySem.W.nsIn K mainGlobals "tuple" = some none)
    (zz8 : PySem.W.nsIn K mainGlobals "repr" = some none)
    (zz9 : PySem.W.nsIn K mainGlobals "str" = some none)
    (zz10 : PySem.W.nsIn K mainGlobals "bool" = some none)
    : ∃ T : TX K mg, T.law.f = fa ∧ ∀ (s : Shared) (u : Value), BindsTo s T.law.fd ⟨[u], []⟩ [("_law_script", u)] := by
  have e := hfa.symm.trans (PySem.W.mg_of X G na26)
  cases e
  have fm0 := fun_mk (st := s_is_count) lk0 co0 ke0
  have fm1 := fun_mk (st := s_is_name) lk1 co1 ke1
  have fm2 := fun_mk (st := s_is_pair) lk2 co2 ke2
  have fm3 := fun_mk (st := s_is_stamp) lk3 co3 ke3
  have fm4 := fun_mk (st := s_is_letter) lk4 co4 ke4
  have fm5 := fun_mk (st := s_is_what) lk5 co5 ke5
  have fm6 := fun_mk (st := s_need_kind) lk6 co6 ke6
  have fm7 := fun_mk (st := s_number_in) lk7 co7 ke7
  have fm8 := fun_mk (st := s_stamp_in) lk8 co8 ke8
  have fm9 := fun_mk (st := s_letter_in) lk9 co9 ke9
  have fm10 := fun_mk (st := s_what_in) lk10 co10 ke10
  have fm11 := fun_mk (st := s_words_of) lk11 co11 ke11
  have fm12 := fun_mk (st := s_show_stamp) lk12 co12 ke12
  have fm13 := fun_mk (st := s_read_stamp) lk13 co13 ke13
  have fm14 := fun_mk (st := s_show_letter) lk14 co14 ke14
  have fm15 := fun_mk (st := s_read_letter) lk15 co15 ke15
  have fm16 := fun_mk (st := s_show_what) lk16 co16 ke16
  have fm17 := fun_mk (st := s_read_what) lk17 co17 ke17
  have fm18 := fun_mk (st := s_law_pot) lk18 co18 ke18
  have fm19 := fun_mk (st := s_law_dip) lk19 co19 ke19
  have fm20 := fun_mk (st := s_law_name) lk20 co20 ke20
  have fm21 := fun_mk (st := s_law_letter) lk21 co21 ke21
  have fm22 := fun_mk (st := s_law_what) lk22 co22 ke22
  have fm23 := fun_mk (st := s_law_shown) lk23 co23 ke23
  have fm24 := fun_mk (st := s_law_what_shown) lk24 co24 ke24
  have fm25 := fun_mk (st := s_law_long_right) lk25 co25 ke25
  have fm26 := fun_mk (st := s_law) lk26 co26 ke26
  refine ⟨{
    is_count := (⟨f0, _, fm0, fm0.binds (ps := ["thing"]) fun _ _ _ _ _ _ us hl => match us, hl with | [_], _ => rfl⟩),
    g_is_count := (PySem.W.mg_of X G na0),
    is_name := (⟨f1, _, fm1, fm1.binds (ps := ["thing"]) fun _ _ _ _ _ _ us hl => match us, hl with | [_], _ => rfl⟩),
    g_is_name := (PySem.W.mg_of X G na1),
    is_pair := (⟨f2, _, fm2, fm2.binds (ps := ["thing"]) fun _ _ _ _ _ _ us hl => match us, hl with | [_], _ => rfl⟩),
    g_is_pair := (PySem.W.mg_of X G na2),
    is_stamp := (⟨f3, _, fm3, fm3.binds (ps := ["thing"]) fun _ _ _ _ _ _ us hl => match us, hl with | [_], _ => rfl⟩),
    g_is_stamp := (PySem.W.mg_of X G na3),
    is_letter := (⟨f4, _, fm4, fm4.binds (ps := ["thing"]) fun _ _ _ _ _ _ us hl => match us, hl with | [_], _ => rfl⟩),
    g_is_letter := (PySem.W.mg_of X G na4),
    is_what := (⟨f5, _, fm5, fm5.binds (ps := ["thing"]) fun _ _ _ _ _ _ us hl => match us, hl with | [_], _ => rfl⟩),
    g_is_what := (PySem.W.mg_of X G na5),
    need_kind := (⟨f6, _, fm6, fm6.binds (ps := ["good"]) fun _ _ _ _ _ _ us hl => match us, hl with | [_], _ => rfl⟩),
    g_need_kind := (PySem.W.mg_of X G na6),
    number_in := (⟨f7, _, fm7, fm7.binds (ps := ["word"]) fun _ _ _ _ _ _ us hl => match us, hl with | [_], _ => rfl⟩),
    g_number_in := (PySem.W.mg_of X G na7),
    stamp_in := (⟨f8, _, fm8, fm8.binds (ps := ["word"]) fun _ _ _ _ _ _ us hl => match us, hl with | [_], _ => rfl⟩),
    g_stamp_in := (PySem.W.mg_of X G na8),
    letter_in := (⟨f9, _, fm9, fm9.binds (ps := ["words"]) fun _ _ _ _ _ _ us hl => match us, hl with | [_], _ => rfl⟩),
    g_letter_in := (PySem.W.mg_of X G na9),
    what_in := (⟨f10, _, fm10, fm10.binds (ps := ["words"]) fun _ _ _ _ _ _ us hl => match us, hl with | [_], _ => rfl⟩),
    g_what_in := (PySem.W.mg_of X G na10),
    words_of := (⟨f11, _, fm11, fm11.binds (ps := ["text"]) fun _ _ _ _ _ _ us hl => match us, hl with | [_], _ => rfl⟩),
    g_words_of := (PySem.W.mg_of X G na11),
    show_stamp := (⟨f12, _, fm12, fm12.binds (ps := ["stamp"]) fun _ _ _ _ _ _ us hl => match us, hl with | [_], _ => rfl⟩),
    g_show_stamp := (PySem.W.mg_of X G na12),
    read_stamp := (⟨f13, _, fm13, fm13.binds (ps := ["text"]) fun _ _ _ _ _ _ us hl => match us, hl with | [_], _ => rfl⟩),
    g_read_stamp := (PySem.W.mg_of X G na13),
    show_letter := (⟨f14, _, fm14, fm14.binds (ps := ["letter"]) fun _ _ _ _ _ _ us hl => match us, hl with | [_], _ => rfl⟩),
    g_show_letter := (PySem.W.mg_of X G na14),
    read_letter := (⟨f15, _, fm15, fm15.binds (ps := ["text"]) fun _ _ _ _ _ _ us hl => match us, hl with | [_], _ => rfl⟩),
    g_read_letter := (PySem.W.mg_of X G na15),
    show_what := (⟨f16, _, fm16, fm16.binds (ps := ["what"]) fun _ _ _ _ _ _ us hl => match us, hl with | [_], _ => rfl⟩),
    g_show_what := (PySem.W.mg_of X G na16),
    read_what := (⟨f17, _, fm17, fm17.binds (ps := ["text"]) fun _ _ _ _ _ _ us hl => match us, hl with | [_], _ => rfl⟩),
    g_read_what := (PySem.W.mg_of X G na17),
    law_pot := (⟨f18, _, fm18, fm18.binds (ps := ["_law_script", "_law_k"]) fun _ _ _ _ _ _ us hl => match us, hl with | [_, _], _ => rfl⟩),
    g_law_pot := (PySem.W.mg_of X G na18),
    law_dip := (⟨f19, _, fm19, fm19.binds (ps := ["_law_pot_here", "_law_many"]) fun _ _ _ _ _ _ us hl => match us, hl with | [_, _], _ => rfl⟩),
    g_law_dip := (PySem.W.mg_of X G na19),
    law_name := (⟨f20, _, fm20, fm20.binds (ps := ["_law_pot_here"]) fun _ _ _ _ _ _ us hl => match us, hl with | [_], _ => rfl⟩),
    g_law_name := (PySem.W.mg_of X G na20),
    law_letter := (⟨f21, _, fm21, fm21.binds (ps := ["_law_pot_here"]) fun _ _ _ _ _ _ us hl => match us, hl with | [_], _ => rfl⟩),
    g_law_letter := (PySem.W.mg_of X G na21),
    law_what := (⟨f22, _, fm22, fm22.binds (ps := ["_law_pot_here"]) fun _ _ _ _ _ _ us hl => match us, hl with | [_], _ => rfl⟩),
    g_law_what := (PySem.W.mg_of X G na22),
    law_shown := (⟨f23, _, fm23, fm23.binds (ps := ["_law_letter_here"]) fun _ _ _ _ _ _ us hl => match us, hl with | [_], _ => rfl⟩),
    g_law_shown := (PySem.W.mg_of X G na23),
    law_what_shown := (⟨f24, _, fm24, fm24.binds (ps := ["_law_what_here"]) fun _ _ _ _ _ _ us hl => match us, hl with | [_], _ => rfl⟩),
    g_law_what_shown := (PySem.W.mg_of X G na24),
    law_long_right := (⟨f25, _, fm25, fm25.binds (ps := ["_law_pot_here"]) fun _ _ _ _ _ _ us hl => match us, hl with | [_], _ => rfl⟩),
    g_law_long_right := (PySem.W.mg_of X G na25),
    law := (⟨fa, _, fm26, fm26.binds (ps := ["_law_script"]) fun _ _ _ _ _ _ us hl => match us, hl with | [_], _ => rfl⟩),
    g_law := (PySem.W.mg_of X G na26),
    t_LETTERS := (ts0),
    g_LETTERS := (PySem.W.mg_of X G cs0),
    t_MOST_LETTERS := (ti0),
    g_MOST_LETTERS := (PySem.W.mg_of X G ci0),
    t_STAMP := (ts1),
    g_STAMP := (PySem.W.mg_of X G cs1),
    a_ASK := (ta0),
    g_ASK := (PySem.W.mg_of X G ct_0),
    k_ASK := (fun H => .inr ⟨_, #[.str "ask" tt0_0], _, lt_0, rfl, rfl, sz_le (by show 1 ≤ 1000000; decide), .cons ⟨_, rfl⟩ (.nil)⟩),
    a_FLOOR := (ta1),
    g_FLOOR := (PySem.W.mg_of X G ct_1),
    k_FLOOR := (fun H => .inr ⟨_, #[.str "floor" tt1_0], _, lt_1, rfl, rfl, sz_le (by show 1 ≤ 1000000; decide), .cons ⟨_, rfl⟩ (.nil)⟩),
    a_ALONE := (ta2),
    g_ALONE := (PySem.W.mg_of X G ct_2),
    k_ALONE := (fun H => .inr ⟨_, #[.str "want" tt2_0, .str "forgo" tt2_1, .str "done" tt2_2], _, lt_2, rfl, rfl, sz_le (by show 3 ≤ 1000000; decide), .cons ⟨_, rfl⟩ (.cons ⟨_, rfl⟩ (.cons ⟨_, rfl⟩ (.nil)))⟩),
    a_ROADS := (ta3),
    g_ROADS := (PySem.W.mg_of X G ct_3),
    k_ROADS := (fun H => .inr ⟨_, #[.str "join" tt3_0, .str "part" tt3_1], _, lt_3, rfl, rfl, sz_le (by show 2 ≤ 1000000; decide), .cons ⟨_, rfl⟩ (.cons ⟨_, rfl⟩ (.nil))⟩),
    t_FIGURES := (ts2),
    g_FIGURES := (PySem.W.mg_of X G cs2),
    t_POINT := (ts3),
    g_POINT := (PySem.W.mg_of X G cs3),
    t_BLANK := (ts4),
    g_BLANK := (PySem.W.mg_of X G cs4),
    z_len := (PySem.W.mg_none_of X G zz0),
    z_max := (PySem.W.mg_none_of X G zz1),
    z_min := (PySem.W.mg_none_of X G zz2),
    z_isinstance := (PySem.W.mg_none_of X G zz3),
    z_all := (PySem.W.mg_none_of X G zz4),
    z_range := (PySem.W.mg_none_of X G zz5),
    z_int := (PySem.W.mg_none_of X G zz6),
    z_tuple := (PySem.W.mg_none_of X G zz7),
    z_repr := (PySem.W.mg_none_of X G zz8),
    z_str := (PySem.W.mg_none_of X G zz9),
    z_bool := (PySem.W.mg_none_of X G zz10) }, rfl, fun s v => .of_eq rfl⟩
end N7
open PySem PySem.W PyProof.Rows in
set_option maxRecDepth 100000 in
set_option maxHeartbeats 0 in
theorem PySem.Challenge.cw_stalesafe_k55_written_and_read_holds : PySem.Challenge.rw_stalesafe_k55_written_and_read.Holds := by
  w_on; o_law; k_head; (case hw => w_witness2)
  k_fill
  refine N7.law_walk (l := PySem.Challenge.rw_stalesafe_k55_written_and_read) rfl rfl (fun w h Y => PySem.W.kIn_of Y) ?F
  case F =>
    intro w mg fa h KX G hmg
    refine' N7.all_mk KX G hmg ?na0 ?lk0 ?co0 ?ke0 ?na1 ?lk1 ?co1 ?ke1 ?na2 ?lk2 ?co2 ?ke2 ?na3 ?lk3 ?co3 ?ke3 ?na4 ?lk4 ?co4 ?ke4 ?na5 ?lk5 ?co5 ?ke5 ?na6 ?lk6 ?co6 ?ke6 ?na7 ?lk7 ?co7 ?ke7 ?na8 ?lk8 ?co8 ?ke8 ?na9 ?lk9 ?co9 ?ke9 ?na10 ?lk10 ?co10 ?ke10 ?na11 ?lk11 ?co11 ?ke11 ?na12 ?lk12 ?co12 ?ke12 ?na13 ?lk13 ?co13 ?ke13 ?na14 ?lk14 ?co14 ?ke14 ?na15 ?lk15 ?co15 ?ke15 ?na16 ?lk16 ?co16 ?ke16 ?na17 ?lk17 ?co17 ?ke17 ?na18 ?lk18 ?co18 ?ke18 ?na19 ?lk19 ?co19 ?ke19 ?na20 ?lk20 ?co20 ?ke20 ?na21 ?lk21 ?co21 ?ke21 ?na22 ?lk22 ?co22 ?ke22 ?na23 ?lk23 ?co23 ?ke23 ?na24 ?lk24 ?co24 ?ke24 ?na25 ?lk25 ?co25 ?ke25 ?na26 ?lk26 ?co26 ?ke26 ?cs0 ?cs1 ?cs2 ?cs3 ?cs4 ?ci0 ?ct_0 ?lt_0 ?ct_1 ?lt_1 ?ct_2 ?lt_2 ?ct_3 ?lt_3 ?zz0 ?zz1 ?zz2 ?zz3 ?zz4 ?zz5 ?zz6 ?zz7 ?zz8 ?zz9 ?zz10
    (case na0 => k_is)
    (case lk0 => k_is)
    (case co0 => k_is)
    (case ke0 => k_is)
    (case na1 => k_is)
    (case lk1 => k_is)
    (case co1 => k_is)
    (case ke1 => k_is)
    (case na2 => k_is)
    (case lk2 => k_is)
    (case co2 => k_is)
    (case ke2 => k_is)
    (case na3 => k_is)
    (case lk3 => k_is)
    (case co3 => k_is)
    (case ke3 => k_is)
    (case na4 => k_is)
    (case lk4 => k_is)
    (case co4 => k_is)
    (case ke4 => k_is)
    (case na5 => k_is)
    (case lk5 => k_is)
    (case co5 => k_is)
    (case ke5 => k_is)
    (case na6 => k_is)
    (case lk6 => k_is)
    (case co6 => k_is)
    (case ke6 => k_is)
    (case na7 => k_is)
    (case lk7 => k_is)
    (case co7 => k_is)
    (case ke7 => k_is)
    (case na8 => k_is)
    (case lk8 => k_is)
    (case co8 => k_is)
    (case ke8 => k_is)
    (case na9 => k_is)
    (case lk9 => k_is)
    (case co9 => k_is)
    (case ke9 => k_is)
    (case na10 => k_is)
    (case lk10 => k_is)
    (case co10 => k_is)
    (case ke10 => k_is)
    (case na11 => k_is)
    (case lk11 => k_is)
    (case co11 => k_is)
    (case ke11 => k_is)
    (case na12 => k_is)
    (case lk12 => k_is)
    (case co12 => k_is)
    (case ke12 => k_is)
    (case na13 => k_is)
    (case lk13 => k_is)
    (case co13 => k_is)
    (case ke13 => k_is)
    (case na14 => k_is)
    (case lk14 => k_is)
    (case co14 => k_is)
    (case ke14 => k_is)
    (case na15 => k_is)
    (case lk15 => k_is)
    (case co15 => k_is)
    (case ke15 => k_is)
    (case na16 => k_is)
    (case lk16 => k_is)
    (case co16 => k_is)
    (case ke16 => k_is)
    (case na17 => k_is)
    (case lk17 => k_is)
    (case co17 => k_is)
    (case ke17 => k_is)
    (case na18 => k_is)
    (case lk18 => k_is)
    (case co18 => k_is)
    (case ke18 => k_is)
    (case na19 => k_is)
    (case lk19 => k_is)
    (case co19 => k_is)
    (case ke19 => k_is)
    (case na20 => k_is)
    (case lk20 => k_is)
    (case co20 => k_is)
    (case ke20 => k_is)
    (case na21 => k_is)
    (case lk21 => k_is)
    (case co21 => k_is)
    (case ke21 => k_is)
    (case na22 => k_is)
    (case lk22 => k_is)
    (case co22 => k_is)
    (case ke22 => k_is)
    (case na23 => k_is)
    (case lk23 => k_is)
    (case co23 => k_is)
    (case ke23 => k_is)
    (case na24 => k_is)
    (case lk24 => k_is)
    (case co24 => k_is)
    (case ke24 => k_is)
    (case na25 => k_is)
    (case lk25 => k_is)
    (case co25 => k_is)
    (case ke25 => k_is)
    (case na26 => k_is)
    (case lk26 => k_is)
    (case co26 => k_is)
    (case ke26 => k_is)
    (case cs0 => k_is)
    (case cs1 => k_is)
    (case cs2 => k_is)
    (case cs3 => k_is)
    (case cs4 => k_is)
    (case ci0 => k_is)
    (case ct_0 => k_is)
    (case lt_0 => k_is)
    (case ct_1 => k_is)
    (case lt_1 => k_is)
    (case ct_2 => k_is)
    (case lt_2 => k_is)
    (case ct_3 => k_is)
    (case lt_3 => k_is)
    (case zz0 => k_is)
    (case zz1 => k_is)
    (case zz2 => k_is)
    (case zz3 => k_is)
    (case zz4 => k_is)
    (case zz5 => k_is)
    (case zz6 => k_is)
    (case zz7 => k_is)
    (case zz8 => k_is)
    (case zz9 => k_is)
    (case zz10 => k_is)
#print axioms PySem.Challenge.cw_stalesafe_k55_written_and_read_holds
