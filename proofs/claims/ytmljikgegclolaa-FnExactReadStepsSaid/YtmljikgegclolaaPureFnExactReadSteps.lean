/- Of every text the law of readsteps tells true. No condition beyond the row's own. -/
import Derived.Test.YtmljikgegclolaaQ0
import Derived.Test.YtmljikgegclolaaQ1
import Derived.Test.YtmljikgegclolaaQ10
import Derived.Test.YtmljikgegclolaaQ11
import Derived.Test.YtmljikgegclolaaQ2
import Derived.Test.YtmljikgegclolaaQ3
import Derived.Test.YtmljikgegclolaaQ4
import Derived.Test.YtmljikgegclolaaQ5
import Derived.Test.YtmljikgegclolaaQ6
import Derived.Test.YtmljikgegclolaaQ7
import Derived.Test.YtmljikgegclolaaQ8
import Derived.Test.YtmljikgegclolaaQ9
import Derived.Test.YtmljikgegclolaaLib1
import Derived.Test.YtmljikgegclolaaLib2
namespace Go.Proofs.Ytmljikgegclolaa.Pure
open Go.RowKit Go.Proofs.Ytmljikgegclolaa.Lib Go.Proofs.Ytmljikgegclolaa.Q Go.Proofs.YtmljikgegclolaaW.PrintWords Go.Proofs.YtmljikgegclolaaW.PrintLast Go.Proofs.YtmljikgegclolaaW.PrintMore
set_option linter.unusedVariables false
set_option linter.unusedSimpArgs false

def hasNB (op : Int) : Bool := decide (op = 1 ∨ op = 2 ∨ op = 3 ∨ op = 20 ∨ op = 21 ∨ op = 22)
theorem l3HasN_eq (a : Int) : spec_l3HasN.f a = some (hasNB a) := by
  unfold spec_l3HasN.f hasNB
  by_cases h1 : a = 1
  · rw [if_pos h1, decide_eq_true (.inl h1)]
  by_cases h2 : a = 2
  · rw [if_neg h1, if_pos h2, decide_eq_true (by omega)]
  by_cases h3 : a = 3
  · rw [if_neg h1, if_neg h2, if_pos h3, decide_eq_true (by omega)]
  by_cases h4 : a = 20
  · rw [if_neg h1, if_neg h2, if_neg h3, if_pos h4, decide_eq_true (by omega)]
  by_cases h5 : a = 21
  · rw [if_neg h1, if_neg h2, if_neg h3, if_neg h4, if_pos h5, decide_eq_true (by omega)]
  by_cases h6 : a = 22
  · rw [if_neg h1, if_neg h2, if_neg h3, if_neg h4, if_neg h5, if_pos h6, decide_eq_true (by omega)]
  · rw [if_neg h1, if_neg h2, if_neg h3, if_neg h4, if_neg h5, if_neg h6, decide_eq_false (by omega)]

theorem l1In_eq (a b c : Int) : spec_l1In.f a b c = some (decide (b ≤ a ∧ a ≤ c)) := by
  unfold spec_l1In.f
  by_cases h : a ≥ b
  · rw [if_pos h]; simp [show b ≤ a from h]
  · rw [if_neg h]; simp; omega

theorem within_eq (a b c : Int) : impl_within.f a b c = some (decide (b ≤ a ∧ a ≤ c)) := by
  unfold impl_within.f
  by_cases h : a ≥ b
  · rw [if_pos h]; simp [show b ≤ a from h]
  · rw [if_neg h]; simp; omega

theorem findIdx_any {α : Type} (p : α → Bool) (l : List α) : decide ((match l.findIdx? p with | some j => (j : Int) | none => -1) ≥ 0) = l.any p := by
  rw [Bool.eq_iff_iff, decide_eq_true_iff, List.any_eq_true]
  cases hf : l.findIdx? p with
  | none =>
    rw [List.findIdx?_eq_none_iff] at hf
    constructor
    · intro h; simp only [ge_iff_le] at h; omega
    · rintro ⟨x, hx, h⟩; rw [hf x hx] at h; simp at h
  | some j =>
    constructor
    · intro _
      obtain ⟨hj, h1, _⟩ := List.findIdx?_eq_some_iff_getElem.mp hf
      exact ⟨l[j], List.getElem_mem hj, h1⟩
    · intro _; simp only [ge_iff_le]; omega
/-- A loop that looks for the first element that is so. -/
theorem Ev.index {α : Type} (l : List α) (F : Nat → Int → Option Int) (pr : α → Bool)
    (h0 : Ev (fun k => F k (l.length : Int)) (-1))
    (hs : ∀ p x q, l = p ++ x :: q → pr x = true → Ev (fun k => F k (p.length : Int)) (p.length : Int))
    (hn : ∀ p x q r, l = p ++ x :: q → pr x = false → Ev (fun k => F k ((p.length : Int) + 1)) r → Ev (fun k => F k (p.length : Int)) r) :
    Ev (fun k => F k 0) (match l.findIdx? pr with | some j => (j : Int) | none => -1) := by
  have main : ∀ (q p : List α), l = p ++ q → Ev (fun k => F k (p.length : Int)) (match q.findIdx? pr with | some j => ((p.length + j : Nat) : Int) | none => -1) := by
    intro q
    induction q with
    | nil => intro p e; rw [e, List.append_nil] at h0; exact h0
    | cons x q ih =>
      intro p e
      cases hx : pr x with
      | true =>
        have := hs p x q e hx
        rw [List.findIdx?_cons, hx]; simpa using this
      | false =>
        have := ih (p ++ [x]) (by rw [e]; simp)
        have e2 : ((p ++ [x]).length : Int) = (p.length : Int) + 1 := by simp
        rw [e2] at this
        have := hn p x q _ e hx this
        rw [List.findIdx?_cons, hx]
        refine Ev.cast this ?_
        cases q.findIdx? pr with
        | none => rfl
        | some j => simp; omega
  have := main l [] rfl
  refine Ev.cast this ?_
  cases l.findIdx? pr with
  | none => rfl
  | some j => simp

/-- Whether a number is a depth. -/
def depthB (x : Int) : Bool := decide (0 ≤ x ∧ x ≤ 8)
/-- Whether a step may stand somewhere. -/
def stepB (op n : Int) (tb : List Int) : Bool :=
  if op = 22 then depthB n && (decide (1 ≤ tb.length ∧ tb.length ≤ 4) && tb.all depthB)
  else if 0 < tb.length then false
  else if op = 1 then decide (0 ≤ n ∧ n ≤ 65535)
  else if op = 2 ∨ op = 3 then decide (0 ≤ n ∧ n ≤ 7)
  else if op = 20 ∨ op = 21 then depthB n
  else decide (1 ≤ op ∧ op ≤ 22) && decide (n = 0)
theorem depthOK_eq (a : Int) : impl_depthOK.f a = some (depthB a) := by
  unfold impl_depthOK.f; rw [within_eq]; rfl
theorem l3Depth_eq (a : Int) : spec_l3Depth.f a = some (depthB a) := by
  unfold spec_l3Depth.f; rw [l1In_eq]; rfl
theorem anyDepth_ev (l : List Int) (hl : l.length ≤ 1048576) : Ev (fun k => slices_ContainsFunc_int_int__impl_stepOK_1.f k l) (!l.all depthB) := by
  have hp : ∀ a : Int, impl_stepOK_1.f a = some (!depthB a) := by
    intro a; unfold impl_stepOK_1.f; rw [depthOK_eq]; rfl
  have main := Ev.index l (fun k i => slices_IndexFunc_int_int__impl_stepOK_1.l0 k l (l.length : Int) i) (fun a => !depthB a) ?_ ?_ ?_
  · unfold slices_ContainsFunc_int_int__impl_stepOK_1.f slices_IndexFunc_int_int__impl_stepOK_1.f
    refine Ev.bind main (Ev.some ?_)
    rw [findIdx_any, List.not_all_eq_any_not]
  · refine Ev.succ ?_
    simp only [slices_IndexFunc_int_int__impl_stepOK_1.l0]
    exact Ev.ite_neg (by omega) (Ev.now _)
  · intro p x q e hx
    have hl : l.length = p.length + (q.length + 1) := by rw [e]; simp
    have hr : rd l (p.length : Int) = x := by rw [e]; exact rd_mid p q x
    refine Ev.succ ?_
    simp only [slices_IndexFunc_int_int__impl_stepOK_1.l0, hp, hr, hx, Option.bind_some]
    exact Ev.ite_pos (by omega) (Ev.ite_pos (by omega) (Ev.ite_pos (by omega) (Ev.ite_pos (by trivial) (Ev.now _))))
  · intro p x q r e hx hh
    have hl : l.length = p.length + (q.length + 1) := by rw [e]; simp
    have hr : rd l (p.length : Int) = x := by rw [e]; exact rd_mid p q x
    refine Ev.succ ?_
    simp only [slices_IndexFunc_int_int__impl_stepOK_1.l0, hp, hr, hx, Option.bind_some]
    refine Ev.ite_pos (by omega) (Ev.ite_pos (by omega) (Ev.ite_pos (by omega) (Ev.ite_neg (by simp) ?_)))
    rw [wrap64_id (by omega) (by omega)]
    exact hh
theorem stepB_j1 (op n : Int) (tb : List Int) (t : Bool) (h22 : op ≠ 22) (h0 : ¬ 0 < tb.length) (h1 : op ≠ 1) (h2 : op ≠ 2) (h3 : op ≠ 3) (ht : t = decide (op = 20 ∨ op = 21)) :
    Ev (fun k => impl_stepOK.j1 k t op n tb) (stepB op n tb) := by
  have e : stepB op n tb = if op = 20 ∨ op = 21 then depthB n else decide (1 ≤ op ∧ op ≤ 22) && decide (n = 0) := by
    unfold stepB; rw [if_neg h22, if_neg h0, if_neg h1, if_neg (by omega)]
  refine Ev.succ ?_
  simp only [impl_stepOK.j1, depthOK_eq, within_eq, Option.bind_some]
  subst ht
  by_cases h : op = 20 ∨ op = 21
  · exact Ev.ite_pos (by simpa using h) (Ev.some (by rw [e, if_pos h]))
  · refine Ev.ite_neg (by simpa using h) ?_
    rw [e, if_neg h]
    by_cases h' : 1 ≤ op ∧ op ≤ 22
    · exact Ev.ite_pos (by simpa using h') (Ev.some (by rw [decide_eq_true h']; simp [beq_dec]))
    · exact Ev.ite_neg (by simpa using h') (Ev.some (by rw [decide_eq_false h']; rfl))
theorem stepOK_ev (op n : Int) (tb : List Int) (hl : tb.length ≤ 1048576) : Ev (fun k => impl_stepOK.f k op n tb) (stepB op n tb) := by
  unfold impl_stepOK.f
  by_cases h22 : op = 22
  · refine Ev.ite_pos h22 ?_
    have e : stepB op n tb = (depthB n && (decide (1 ≤ tb.length ∧ tb.length ≤ 4) && tb.all depthB)) := by unfold stepB; rw [if_pos h22]
    rw [e]
    simp only [depthOK_eq, within_eq, Option.bind_some]
    cases hd : depthB n with
    | false => exact Ev.ite_neg (by simp) (Ev.now _)
    | true =>
      refine Ev.ite_pos rfl ?_
      by_cases hb : 1 ≤ tb.length ∧ tb.length ≤ 4
      · refine Ev.ite_pos (by simp; omega) (Ev.bind (anyDepth_ev tb hl) (Ev.some ?_))
        rw [decide_eq_true hb, Bool.not_not]; rfl
      · refine Ev.ite_neg (by simp; omega) (Ev.some ?_)
        rw [decide_eq_false hb]; rfl
  · refine Ev.ite_neg h22 ?_
    by_cases h0 : 0 < tb.length
    · refine Ev.ite_pos (by omega) (Ev.some ?_)
      unfold stepB; rw [if_neg h22, if_pos h0]
    · refine Ev.ite_neg (by omega) ?_
      simp only [within_eq, Option.bind_some]
      by_cases h1 : op = 1
      · refine Ev.ite_pos h1 (Ev.some ?_)
        unfold stepB; rw [if_neg h22, if_neg h0, if_pos h1]
      · refine Ev.ite_neg h1 ?_
        by_cases h2 : op = 2
        · refine Ev.ite_pos h2 (Ev.succ ?_)
          simp only [impl_stepOK.j0, within_eq, Option.bind_some]
          refine Ev.ite_pos (by simpa using h2) (Ev.some ?_)
          unfold stepB; rw [if_neg h22, if_neg h0, if_neg h1, if_pos (.inl h2)]
        · refine Ev.ite_neg h2 (Ev.succ ?_)
          simp only [impl_stepOK.j0, within_eq, Option.bind_some]
          by_cases h3 : op = 3
          · refine Ev.ite_pos (by simpa using h3) (Ev.some ?_)
            unfold stepB; rw [if_neg h22, if_neg h0, if_neg h1, if_pos (.inr h3)]
          · refine Ev.ite_neg (by simpa using h3) ?_
            by_cases h20 : op = 20
            · exact Ev.ite_pos h20 (stepB_j1 op n tb _ h22 h0 h1 h2 h3 (by simp [h20]))
            · exact Ev.ite_neg h20 (stepB_j1 op n tb _ h22 h0 h1 h2 h3 (by simp [h20, beq_dec]))
theorem l3One_j2 (op n : Int) (tb : List Int) (t : Bool) (h22 : op ≠ 22) (h0 : ¬ 0 < tb.length) (h1 : op ≠ 1) (h2 : op ≠ 2) (h3 : op ≠ 3) (ht : t = decide (op = 20 ∨ op = 21)) :
    Ev (fun k => spec_l3One.j2 k t op n tb) (stepB op n tb) := by
  have e : stepB op n tb = if op = 20 ∨ op = 21 then depthB n else decide (1 ≤ op ∧ op ≤ 22) && decide (n = 0) := by
    unfold stepB; rw [if_neg h22, if_neg h0, if_neg h1, if_neg (by omega)]
  refine Ev.succ ?_
  simp only [spec_l3One.j2, l3Depth_eq, l1In_eq, Option.bind_some]
  subst ht
  by_cases h : op = 20 ∨ op = 21
  · exact Ev.ite_pos (by simpa using h) (Ev.some (by rw [e, if_pos h]))
  · refine Ev.ite_neg (by simpa using h) ?_
    rw [e, if_neg h]
    by_cases h' : 4 ≤ op ∧ op ≤ 19
    · exact Ev.ite_pos (by simpa using h') (Ev.some (by rw [decide_eq_true (show 1 ≤ op ∧ op ≤ 22 by omega)]; simp [beq_dec]))
    · exact Ev.ite_neg (by simpa using h') (Ev.some (by rw [decide_eq_false (show ¬ (1 ≤ op ∧ op ≤ 22) by omega)]; rfl))
theorem l3One_ev (op n : Int) (tb : List Int) (hl : tb.length ≤ 1048576) : Ev (fun k => spec_l3One.f k op n tb) (stepB op n tb) := by
  unfold spec_l3One.f
  by_cases h22 : op = 22
  · refine Ev.ite_pos h22 ?_
    have e : stepB op n tb = (tb.all depthB && (depthB n && decide (1 ≤ tb.length ∧ tb.length ≤ 4))) := by
      unfold stepB; rw [if_pos h22]
      cases depthB n <;> cases tb.all depthB <;> simp
    rw [e]
    refine Ev.range tb (fun k (_ : Unit) i => spec_l3One.l0 k tb (tb.length : Int) i op n tb) (fun _ q => q.all depthB && (depthB n && decide (1 ≤ tb.length ∧ tb.length ≤ 4))) (fun _ _ => True) ?_ ?_ () trivial
    · intro _ _
      refine Ev.succ ?_
      simp only [spec_l3One.l0, l3Depth_eq, l1In_eq, Option.bind_some]
      refine Ev.ite_neg (by omega) ?_
      cases hd : depthB n with
      | false => exact Ev.ite_neg (by simp) (Ev.some (by simp))
      | true => exact Ev.ite_pos rfl (Ev.some (by simp only [List.all_nil, Bool.true_and, decide_eq_decide]; omega))
    · intro _ p x q e _ ih
      have hl : tb.length = p.length + (q.length + 1) := by rw [e]; simp
      have hr : rd tb (p.length : Int) = x := by rw [e]; exact rd_mid p q x
      refine Ev.succ ?_
      simp only [spec_l3One.l0, l3Depth_eq, hr, Option.bind_some]
      refine Ev.ite_pos (by omega) (Ev.ite_pos (by omega) (Ev.ite_pos (by omega) ?_))
      cases hx : depthB x with
      | false => exact Ev.ite_neg (by simp) (Ev.some (by simp [hx]))
      | true =>
        refine Ev.ite_pos rfl ?_
        rw [wrap64_id (by omega) (by omega)]
        exact Ev.cast (ih () trivial) (by simp [hx])
  · refine Ev.ite_neg h22 ?_
    by_cases h0 : 0 < tb.length
    · refine Ev.ite_pos (by omega) (Ev.some ?_)
      unfold stepB; rw [if_neg h22, if_pos h0]
    · refine Ev.ite_neg (by omega) ?_
      simp only [l1In_eq, Option.bind_some]
      by_cases h1 : op = 1
      · refine Ev.ite_pos h1 (Ev.some ?_)
        unfold stepB; rw [if_neg h22, if_neg h0, if_pos h1]
      · refine Ev.ite_neg h1 ?_
        by_cases h2 : op = 2
        · refine Ev.ite_pos h2 (Ev.succ ?_)
          simp only [spec_l3One.j1, l1In_eq, Option.bind_some]
          refine Ev.ite_pos (by simpa using h2) (Ev.some ?_)
          unfold stepB; rw [if_neg h22, if_neg h0, if_neg h1, if_pos (.inl h2)]
        · refine Ev.ite_neg h2 (Ev.succ ?_)
          simp only [spec_l3One.j1, l1In_eq, Option.bind_some]
          by_cases h3 : op = 3
          · refine Ev.ite_pos (by simpa using h3) (Ev.some ?_)
            unfold stepB; rw [if_neg h22, if_neg h0, if_neg h1, if_pos (.inr h3)]
          · refine Ev.ite_neg (by simpa using h3) ?_
            by_cases h20 : op = 20
            · exact Ev.ite_pos h20 (l3One_j2 op n tb _ h22 h0 h1 h2 h3 (by simp [h20]))
            · exact Ev.ite_neg h20 (l3One_j2 op n tb _ h22 h0 h1 h2 h3 (by simp [h20, beq_dec]))

/-- A step that may stand somewhere. -/
def stB (x : S56) : Bool := stepB x.f0 x.f1 x.f2
def opB (op : Int) : Bool := decide (15 ≤ op ∧ op ≤ 17)
/-- All depths are at most one. -/
def wiB (x : S56) (n : Int) : Bool := x.f2.all (fun y => decide (y ≤ n)) && (decide (x.f0 < 20) || decide (x.f1 ≤ n))
theorem l3Opens_eq (a : Int) : spec_l3Opens.f a = some (opB a) := by
  unfold spec_l3Opens.f; rw [l1In_eq]; rfl
theorem l3Within_ev (x : S56) (n : Int) (hl : x.f2.length ≤ 1048576) : Ev (fun k => spec_l3Within.f k x.f0 x.f1 x.f2 n) (wiB x n) := by
  unfold spec_l3Within.f
  refine Ev.range x.f2 (fun k (_ : Unit) i => spec_l3Within.l0 k n x.f2 (x.f2.length : Int) i x.f0 x.f1 x.f2) (fun _ q => q.all (fun y => decide (y ≤ n)) && (decide (x.f0 < 20) || decide (x.f1 ≤ n))) (fun _ _ => True) (fun _ _ => ?_) (fun _ p y q e _ ih => ?_) () trivial
  · refine Ev.succ ?_
    simp only [spec_l3Within.l0]
    refine Ev.ite_neg (by omega) ?_
    by_cases h : x.f0 < 20
    · exact Ev.ite_pos h (Ev.some (by simp [h]))
    · exact Ev.ite_neg h (Ev.some (by simp [h]))
  · have hlen : p.length < x.f2.length := by rw [e]; simp
    have hr : rd x.f2 (p.length : Int) = y := by rw [e]; exact rd_mid p q y
    refine Ev.succ ?_
    simp only [spec_l3Within.l0, hr]
    refine Ev.ite_pos (by omega) (Ev.ite_pos (by omega) (Ev.ite_pos (by omega) ?_))
    by_cases h : y > n
    · refine Ev.ite_pos h (Ev.some ?_)
      have h2 : decide (y ≤ n) = false := decide_eq_false (by omega)
      simp [h2]
    · refine Ev.ite_neg h ?_
      rw [wrap_succ (by omega), List.all_cons, decide_eq_true (show y ≤ n by omega), Bool.true_and]
      exact ih () trivial
/-- The last of those that are open. -/
def topS (st : List Int) : Int := rd st ((st.length - 1 : Nat) : Int)
/-- The specification's ends: so far, and those that are open. -/
def enR (l : List S56) : List S56 → List Int → List Int → List Int × Bool
  | [], out, st => (out, decide (st.length = 0) && decide (l.length ≤ 60))
  | x :: q, out, st =>
    if stB x = true ∧ wiB x st.length = true then
      (if opB x.f0 = true then (if st.length = 8 then ([], false) else enR l q (out ++ [-1]) (st ++ [(out.length : Int)]))
      else if x.f0 = 18 then (if st.length = 0 then ([], false) else (if (rd_T56 l (topS st)).f0 = 17 then (if rd (out ++ [-1]) (topS st) ≥ 0 then ([], false) else enR l q ((out ++ [-1]).set (topS st).toNat (out.length : Int)) st) else ([], false)))
      else if x.f0 = 19 then (if st.length = 0 then ([], false) else (if rd (out ++ [-1]) (topS st) ≥ 0 then enR l q ((((out ++ [-1]).set (rd (out ++ [-1]) (topS st)).toNat (out.length : Int)).set (topS st).toNat (out.length : Int)).set out.length (topS st)) (st.take (st.length - 1)) else enR l q (((out ++ [-1]).set (topS st).toNat (out.length : Int)).set out.length (topS st)) (st.take (st.length - 1))))
      else enR l q (out ++ [-1]) st)
    else ([], false)
theorem topS_mem {st : List Int} (h : st.length ≠ 0) : topS st ∈ st := by
  unfold topS rd
  rw [Int.toNat_natCast, List.getD_eq_getElem?_getD, List.getElem?_eq_getElem (by omega)]
  exact List.getElem_mem _
theorem rd_mem {l : List Int} {i : Int} (h0 : 0 ≤ i) (h : i < l.length) : rd l i ∈ l := by
  unfold rd
  rw [List.getD_eq_getElem?_getD, List.getElem?_eq_getElem (by omega)]
  exact List.getElem_mem _
theorem set_mem_or {l : List Int} {n : Nat} {a y : Int} (h : y ∈ l.set n a) : y ∈ l ∨ y = a := List.mem_or_eq_of_mem_set h
/-- What holds of the specification's state at a place. -/
structure SInv (out st : List Int) (i : Nat) : Prop where
  len : out.length = i
  st0 : ∀ s ∈ st, 0 ≤ s ∧ s < i
  out0 : ∀ y ∈ out, -1 ≤ y ∧ y < i
theorem SInv.stw {out st : List Int} {i : Nat} (h : SInv out st i) : ∀ s ∈ st, 0 ≤ s ∧ s < (i : Int) + 1 := fun s hs => by have := h.st0 s hs; omega
theorem SInv.outw {out st : List Int} {i : Nat} (h : SInv out st i) : ∀ y ∈ out ++ [-1], -1 ≤ y ∧ y < (i : Int) + 1 := fun y hy => by
  rcases List.mem_append.1 hy with hy | hy
  · have := h.out0 y hy; omega
  · simp only [List.mem_singleton] at hy; omega
theorem setAll {l : List Int} {n : Nat} {a : Int} {P : Int → Prop} (h : ∀ y ∈ l, P y) (ha : P a) : ∀ y ∈ l.set n a, P y := fun y hy => by
  rcases set_mem_or hy with h1 | rfl
  · exact h y h1
  · exact ha
theorem l3Ends_ev (l : List S56) (hl : l.length ≤ 1048576) (hx : ∀ x ∈ l, x.f2.length ≤ 1048576) : Ev (fun k => spec_l3Ends.f k l) (enR l l [] []) := by
  unfold spec_l3Ends.f
  refine Ev.rangeI l (fun k (b : List Int × List Int) i => spec_l3Ends.l0 k l b.1 b.2 l (l.length : Int) i) (fun b _ q => enR l q b.1 b.2) (fun b p => SInv b.1 b.2 p.length ∧ b.2.length ≤ 8) (fun b hb => ?_) (fun b p x q e hb ih => ?_) ([], []) ⟨⟨rfl, fun s hs => absurd hs (by simp), fun s hs => absurd hs (by simp)⟩, by simp⟩
  · obtain ⟨out, st⟩ := b
    refine Ev.succ ?_
    simp only [spec_l3Ends.l0, enR]
    refine Ev.ite_neg (by omega) ?_
    by_cases h : st.length = 0
    · refine Ev.ite_pos (by omega) (Ev.some ?_)
      rw [decide_eq_true h, Bool.true_and]
      congr 1
      rw [decide_eq_decide]; omega
    · refine Ev.ite_neg (by omega) (Ev.some ?_)
      rw [decide_eq_false h, Bool.false_and]
  · obtain ⟨out, st⟩ := b
    obtain ⟨hI, hsl⟩ := hb
    dsimp only at hI hsl
    have hlen : p.length < l.length := by rw [e]; simp
    have hr : rd_T56 l (p.length : Int) = x := by unfold rd_T56; rw [e]; exact getD_mid _ _ _ _
    have hxx := hx x (by rw [e]; simp)
    have hol := hI.len
    have hM : (out ++ [-1]).length = p.length + 1 := by simp [hol]
    refine Ev.succ ?_
    simp only [spec_l3Ends.l0, hr]
    refine Ev.ite_pos (by omega) (Ev.ite_pos (by omega) (Ev.ite_pos (by omega) (Ev.ite_pos (by omega) ?_)))
    simp only [Option.bind_some]
    refine Ev.bind (l3One_ev x.f0 x.f1 x.f2 hxx) ?_
    have bad : ∀ t, Ev (fun k => spec_l3Ends.j1 k l (out ++ [-1]) st (p.length : Int) (st.length : Int) l (l.length : Int) (p.length : Int) true t x.f1 x.f2) ([], false) := fun t => by
      refine Ev.succ ?_
      simp only [spec_l3Ends.j1]
      exact Ev.ite_pos (by trivial) (Ev.some rfl)
    by_cases h1 : stepB x.f0 x.f1 x.f2 = true
    rotate_left
    · refine Ev.ite_neg h1 ?_
      refine Ev.cast (bad _) ?_
      rw [enR, if_neg (fun h => h1 h.1)]
    refine Ev.ite_pos h1 (Ev.bind (l3Within_ev x st.length hxx) ?_)
    by_cases h2 : wiB x st.length = true
    rotate_left
    · rw [Bool.not_eq_true] at h2
      rw [h2]
      refine Ev.cast (bad _) ?_
      rw [enR, if_neg (fun h => absurd h.2 (by rw [h2]; decide))]
    rw [h2]
    refine Ev.cast (r := enR l (x :: q) out st) ?_ rfl
    rw [enR, if_pos ⟨h1, h2⟩, ← hol]
    refine Ev.succ ?_
    simp only [spec_l3Ends.j1, l3Opens_eq, Option.bind_some]
    refine Ev.ite_neg (by decide) ?_
    rw [hol, wrap_succ (by omega)]
    have next : ∀ o' s', SInv o' s' (p.length + 1) → s'.length ≤ 8 → Ev (fun k => spec_l3Ends.l0 k l o' s' l (l.length : Int) ((p.length : Int) + 1)) (enR l q o' s') := fun o' s' h h' => ih (o', s') ⟨by rw [List.length_append]; exact h, h'⟩
    have hd : ∀ s ∈ st, s < 1048576 := fun s hs => by have := (hI.st0 s hs).2; omega
    by_cases h3 : opB x.f0 = true
    · rw [if_pos h3]
      refine Ev.ite_pos h3 ?_
      by_cases h4 : st.length = 8
      · rw [if_pos h4]
        exact Ev.ite_pos (by omega) (Ev.some rfl)
      · rw [if_neg h4]
        refine Ev.ite_neg (by omega) (Ev.ite_pos (by omega) ?_)
        refine next _ _ ⟨hM, fun s hs => ?_, fun y hy => by have := hI.outw y hy; omega⟩ ?_
        · rcases List.mem_append.1 hs with hs | hs
          · have := hI.st0 s hs; omega
          · simp only [List.mem_singleton] at hs; omega
        · rw [List.length_append, List.length_singleton]; omega
    rw [if_neg h3]
    refine Ev.ite_neg h3 ?_
    by_cases h4 : x.f0 = 18
    · rw [if_pos h4]
      refine Ev.ite_pos h4 ?_
      by_cases h5 : st.length = 0
      · rw [if_pos h5]
        exact Ev.ite_pos (by omega) (Ev.some rfl)
      rw [if_neg h5]
      have hw : wrap64 ((st.length : Int) - 1) = ((st.length - 1 : Nat) : Int) := by rw [wrap64_id (by omega) (by omega)]; omega
      have ht := topS_mem h5
      obtain ⟨t0, t1⟩ := hI.st0 _ ht
      simp only [hw, show rd st ((st.length - 1 : Nat) : Int) = topS st from rfl]
      refine Ev.ite_neg (by omega) (Ev.ite_pos (by omega) (Ev.ite_pos (by omega) (Ev.ite_pos (by omega) (Ev.ite_pos (by omega) ?_))))
      by_cases h6 : (rd_T56 l (topS st)).f0 = 17
      · rw [if_pos h6]
        refine Ev.ite_pos h6 (Ev.ite_pos (by omega) ?_)
        by_cases h7 : rd (out ++ [-1]) (topS st) ≥ 0
        · rw [if_pos h7]
          exact Ev.ite_pos h7 (Ev.some rfl)
        · rw [if_neg h7]
          refine Ev.ite_neg h7 ?_
          exact next _ _ ⟨by rw [List.length_set]; exact hM, fun s hs => by have := hI.st0 s hs; omega, setAll (fun y hy => by have := hI.outw y hy; omega) (by omega)⟩ hsl
      · rw [if_neg h6]
        exact Ev.ite_neg h6 (Ev.some rfl)
    rw [if_neg h4]
    refine Ev.ite_neg h4 ?_
    by_cases h5 : x.f0 = 19
    · rw [if_pos h5]
      refine Ev.ite_pos h5 ?_
      by_cases h6 : st.length = 0
      · rw [if_pos h6]
        exact Ev.ite_pos (by omega) (Ev.some rfl)
      rw [if_neg h6]
      have hw : wrap64 ((st.length : Int) - 1) = ((st.length - 1 : Nat) : Int) := by rw [wrap64_id (by omega) (by omega)]; omega
      have ht := topS_mem h6
      obtain ⟨t0, t1⟩ := hI.st0 _ ht
      simp only [hw, show rd st ((st.length - 1 : Nat) : Int) = topS st from rfl, Int.toNat_natCast, Option.bind_some]
      refine Ev.ite_neg (by omega) (Ev.ite_pos (by omega) (Ev.ite_pos (by omega) (Ev.ite_pos (by omega) (Ev.ite_pos (by omega) (Ev.ite_pos (by omega) ?_)))))
      have hst : ∀ s ∈ st.take (st.length - 1), 0 ≤ s ∧ s < ((p.length + 1 : Nat) : Int) := fun s hs => by have := hI.st0 s (List.mem_of_mem_take hs); omega
      have hsl' : (st.take (st.length - 1)).length ≤ 8 := by rw [List.length_take]; omega
      have hout : ∀ y ∈ out ++ [-1], -1 ≤ y ∧ y < ((p.length + 1 : Nat) : Int) := fun y hy => by have := hI.outw y hy; omega
      by_cases h7 : rd (out ++ [-1]) (topS st) ≥ 0
      · rw [if_pos h7]
        have h8 := hout _ (rd_mem (l := out ++ [-1]) (i := topS st) t0 (by omega))
        refine Ev.ite_pos h7 (Ev.ite_pos (by omega) (Ev.ite_pos (by omega) (Ev.ite_pos (by omega) (Ev.ite_pos (by omega) ?_))))
        exact next _ _ ⟨by rw [List.length_set, List.length_set, List.length_set]; exact hM, hst, setAll (setAll (setAll hout (by omega)) (by omega)) (by omega)⟩ hsl'
      · rw [if_neg h7]
        refine Ev.ite_neg h7 (Ev.ite_pos (by omega) (Ev.ite_pos (by omega) ?_))
        exact next _ _ ⟨by rw [List.length_set, List.length_set]; exact hM, hst, setAll (setAll hout (by omega)) (by omega)⟩ hsl'
    rw [if_neg h5]
    refine Ev.ite_neg h5 ?_
    exact next _ _ ⟨hM, fun s hs => by have := hI.st0 s hs; omega, fun y hy => by have := hI.outw y hy; omega⟩ hsl

def maxL : List Int → Int → Int
  | [], m => m
  | x :: q, m => maxL q (mx m x)
theorem maxL_le (q : List Int) : ∀ m n : Int, maxL q m ≤ n ↔ m ≤ n ∧ ∀ y ∈ q, y ≤ n := by
  induction q with
  | nil => intro m n; simp [maxL]
  | cons x q ih =>
    intro m n
    rw [maxL, ih]
    unfold mx
    simp only [List.mem_cons, forall_eq_or_imp]
    split <;> constructor <;> rintro ⟨h1, h2⟩
    · exact ⟨by omega, h1, h2⟩
    · exact ⟨h2.1, h2.2⟩
    · exact ⟨h1, by omega, h2⟩
    · exact ⟨h1, h2.2⟩
theorem max_ev (x : Int) (q : List Int) (hl : (x :: q).length ≤ 1048576) : Ev (fun k => slices_Max_int_int.f k (x :: q)) (maxL q x) := by
  unfold slices_Max_int_int.f
  refine Ev.ite_neg (by simp only [List.length_cons]; omega) (Ev.ite_pos (by simp only [List.length_cons]; omega) ?_)
  have main : ∀ (r p : List Int) (m : Int), x :: q = p ++ r → Ev (fun k => slices_Max_int_int.l0 k (x :: q) m (p.length : Int)) (maxL r m) := by
    intro r
    induction r with
    | nil =>
      intro p m e
      refine Ev.succ ?_
      simp only [slices_Max_int_int.l0]
      have : (x :: q).length = p.length := by rw [e]; simp
      exact Ev.ite_neg (by omega) (Ev.some rfl)
    | cons y r ih =>
      intro p m e
      refine Ev.succ ?_
      simp only [slices_Max_int_int.l0]
      have hlen : p.length < (x :: q).length := by rw [e]; simp
      have hr : rd (x :: q) (p.length : Int) = y := by rw [e]; exact rd_mid p r y
      refine Ev.ite_pos (by omega) (Ev.ite_pos (by omega) ?_)
      rw [hr, wrap_succ (by omega)]
      have := ih (p ++ [y]) (mx m y) (by rw [e]; simp)
      rw [show ((p ++ [y]).length : Int) = (p.length : Int) + 1 from by simp] at this
      exact this
  have := main q [x] x rfl
  exact this
theorem opens_eq (a : Int) : impl_opens.f a = some (opB a) := by
  unfold impl_opens.f opB
  by_cases h : a = 15
  · rw [if_pos h]; simp [h]
  by_cases h' : a = 16
  · rw [if_neg h, if_pos h']; simp [h']
  rw [if_neg h, if_neg h']
  congr 1
  rw [beq_dec, decide_eq_decide]; omega
/-- How far out a step goes tells whether it is within. -/
theorem deep_ev (x : S56) (hx : x.f2.length ≤ 1048576) (hg : stB x = true) : ∃ d, Ev (fun k => impl_Step_deepest.f k x.f0 x.f1 x.f2) d ∧ ∀ n : Nat, d > (n : Int) ↔ wiB x n = false := by
  unfold stB stepB at hg
  unfold impl_Step_deepest.f wiB
  by_cases h22 : x.f0 = 22
  · rw [if_pos h22] at hg
    obtain ⟨tb, htb⟩ : ∃ tb, tb = x.f2 := ⟨_, rfl⟩
    rw [← htb] at hg hx ⊢
    match tb with
    | [] => simp at hg
    | y :: q =>
      refine ⟨mx x.f1 (maxL q y), Ev.ite_neg (by omega) (Ev.succ ?_), fun n => ?_⟩
      · simp only [impl_Step_deepest.j0]
        exact Ev.ite_neg (by simp [h22]) (Ev.ite_pos h22 (Ev.bind (max_ev y q hx) (Ev.some rfl)))
      · have h1 : (mx x.f1 (maxL q y) ≤ (n : Int)) ↔ x.f1 ≤ n ∧ y ≤ n ∧ ∀ z ∈ q, z ≤ (n : Int) := by
          rw [← maxL_le]; unfold mx; split <;> omega
        rw [gt_iff_lt, ← Int.not_le, h1, ← Bool.not_eq_true, not_congr]
        rw [Bool.and_eq_true, Bool.or_eq_true, decide_eq_true_iff, decide_eq_true_iff, List.all_eq_true]
        constructor
        · rintro ⟨a, b, c⟩
          refine ⟨fun z hz => ?_, .inr a⟩
          rcases List.mem_cons.1 hz with rfl | hz
          · exact decide_eq_true b
          · exact decide_eq_true (c z hz)
        · rintro ⟨a, b⟩
          exact ⟨b.resolve_left (by omega), of_decide_eq_true (a y (by simp)), fun z hz => of_decide_eq_true (a z (by simp [hz]))⟩
  rw [if_neg h22] at hg
  by_cases h0 : 0 < x.f2.length
  · rw [if_pos h0] at hg; simp at hg
  have hnil : x.f2 = [] := List.eq_nil_of_length_eq_zero (by omega)
  rw [if_neg h0] at hg
  rw [hnil]
  by_cases h20 : x.f0 = 20 ∨ x.f0 = 21
  · refine ⟨x.f1, ?_, fun n => ?_⟩
    · by_cases h : x.f0 = 20
      · refine Ev.ite_pos h (Ev.succ ?_)
        simp only [impl_Step_deepest.j0]
        exact Ev.ite_pos (by simp [h]) (Ev.some rfl)
      · refine Ev.ite_neg h (Ev.succ ?_)
        simp only [impl_Step_deepest.j0]
        exact Ev.ite_pos (by simp; omega) (Ev.some rfl)
    · rw [List.all_nil, Bool.true_and, decide_eq_false (by omega), Bool.false_or, decide_eq_false_iff_not]; omega
  · have h19 : x.f0 < 20 := by
      by_cases a1 : x.f0 = 1
      · omega
      rw [if_neg a1] at hg
      by_cases a2 : x.f0 = 2 ∨ x.f0 = 3
      · omega
      rw [if_neg a2, if_neg h20, Bool.and_eq_true, decide_eq_true_iff] at hg
      omega
    refine ⟨-1, Ev.ite_neg (by omega) (Ev.succ ?_), fun n => ?_⟩
    · simp only [impl_Step_deepest.j0]
      exact Ev.ite_neg (by simp; omega) (Ev.ite_neg (by omega) (Ev.some rfl))
    · rw [List.all_nil, Bool.true_and, decide_eq_true h19, Bool.true_or]
      constructor
      · intro h; omega
      · intro h; simp at h
theorem anyStep_ev (l : List S56) (hl : l.length ≤ 1048576) (hx : ∀ x ∈ l, x.f2.length ≤ 1048576) : Ev (fun k => slices_ContainsFunc_impl_Step__impl_shapeOf_1.f k l) (!l.all stB) := by
  have hp : ∀ x : S56, x.f2.length ≤ 1048576 → Ev (fun k => impl_shapeOf_1.f k x.f0 x.f1 x.f2) (!stB x) := by
    intro x h; unfold impl_shapeOf_1.f; exact Ev.bind (stepOK_ev x.f0 x.f1 x.f2 h) (Ev.some rfl)
  have main := Ev.index l (fun k i => slices_IndexFunc_impl_Step__impl_shapeOf_1.l0 k l (l.length : Int) i) (fun a => !stB a) ?_ ?_ ?_
  · unfold slices_ContainsFunc_impl_Step__impl_shapeOf_1.f slices_IndexFunc_impl_Step__impl_shapeOf_1.f
    refine Ev.bind main (Ev.some ?_)
    rw [findIdx_any, List.not_all_eq_any_not]
  · refine Ev.succ ?_
    simp only [slices_IndexFunc_impl_Step__impl_shapeOf_1.l0]
    exact Ev.ite_neg (by omega) (Ev.now _)
  · intro p x q e hxx
    have hlen : l.length = p.length + (q.length + 1) := by rw [e]; simp
    have hr : rd_T56 l (p.length : Int) = x := by unfold rd_T56; rw [e]; exact getD_mid _ _ _ _
    refine Ev.succ ?_
    simp only [slices_IndexFunc_impl_Step__impl_shapeOf_1.l0, hr]
    refine Ev.ite_pos (by omega) (Ev.ite_pos (by omega) (Ev.ite_pos (by omega) (Ev.bind (hp x (hx x (by rw [e]; simp))) ?_)))
    rw [hxx]
    exact Ev.ite_pos rfl (Ev.now _)
  · intro p x q r e hxx hh
    have hlen : l.length = p.length + (q.length + 1) := by rw [e]; simp
    have hr : rd_T56 l (p.length : Int) = x := by unfold rd_T56; rw [e]; exact getD_mid _ _ _ _
    refine Ev.succ ?_
    simp only [slices_IndexFunc_impl_Step__impl_shapeOf_1.l0, hr]
    refine Ev.ite_pos (by omega) (Ev.ite_pos (by omega) (Ev.ite_pos (by omega) (Ev.bind (hp x (hx x (by rw [e]; simp))) ?_)))
    rw [hxx]
    refine Ev.ite_neg (by simp) ?_
    rw [wrap64_id (by omega) (by omega)]
    exact hh
/-- The shape: ends, others, what is open at each place. -/
def shR (l : List S56) : List S56 → List Int → List Int → List (List Int) → List Int → Nat → Option (List Int × List Int × List (List Int))
  | [], e, o, p, st, _ => if st.length = 0 then some (e, o, p) else none
  | x :: q, e, o, p, st, i =>
    if wiB x st.length = true then
      (if opB x.f0 = true then (if st.length + 1 > 8 then none else shR l q e o (p.set i st) (st ++ [(i : Int)]) (i + 1))
      else if x.f0 = 18 then (if st.length = 0 then none else (if (rd_T56 l (topS st)).f0 = 17 then (if 0 ≤ rd o (topS st) then none else shR l q e (o.set (topS st).toNat (i : Int)) (p.set i st) st (i + 1)) else none))
      else if x.f0 = 19 then (if st.length = 0 then none else (if 0 ≤ rd o (topS st) then shR l q (((e.set i (topS st)).set (topS st).toNat (i : Int)).set (rd o (topS st)).toNat (i : Int)) o (p.set i st) (st.take (st.length - 1)) (i + 1) else shR l q ((e.set i (topS st)).set (topS st).toNat (i : Int)) o (p.set i st) (st.take (st.length - 1)) (i + 1)))
      else shR l q e o (p.set i st) st (i + 1))
    else none
theorem shapeL_ev (l : List S56) (hl : l.length ≤ 60) (hx : ∀ x ∈ l, x.f2.length ≤ 1048576) (hg : ∀ x ∈ l, stB x = true) :
    ∀ (q p0 : List S56) (e o : List Int) (p : List (List Int)) (st : List Int), l = p0 ++ q → o.length = l.length → (∀ s ∈ st, 0 ≤ s ∧ s < p0.length) → (∀ y ∈ o, y < p0.length) → st.length ≤ 8 →
      Ev (fun k => impl_shapeOf.l0 k l e o p st p0.length) (shR l q e o p st p0.length) := by
  intro q
  induction q with
  | nil =>
    intro p0 e o p st eq ho hst hoo hsl
    refine Ev.succ ?_
    simp only [impl_shapeOf.l0, shR]
    have : l.length = p0.length := by rw [eq]; simp
    refine Ev.ite_neg (by omega) ?_
    by_cases h : st.length = 0
    · rw [if_pos h]; exact Ev.ite_neg (by omega) (Ev.some rfl)
    · rw [if_neg h]; exact Ev.ite_pos (by omega) (Ev.some rfl)
  | cons x q ih =>
    intro p0 e o p st eq ho hst hoo hsl
    have hlen : p0.length < l.length := by rw [eq]; simp
    have hr : rd_T56 l (p0.length : Int) = x := by unfold rd_T56; rw [eq]; exact getD_mid _ _ _ _
    have hxl : x ∈ l := by rw [eq]; simp
    obtain ⟨d, hd, hdw⟩ := deep_ev x (hx x hxl) (hg x hxl)
    have next : ∀ e' o' p' st', o'.length = l.length → (∀ s ∈ st', 0 ≤ s ∧ s < ((p0.length + 1 : Nat) : Int)) → (∀ y ∈ o', y < ((p0.length + 1 : Nat) : Int)) → st'.length ≤ 8 → Ev (fun k => impl_shapeOf.l0 k l e' o' p' st' (p0.length + 1)) (shR l q e' o' p' st' (p0.length + 1)) := fun e' o' p' st' h1 h2 h3 h4 => by
      have := ih (p0 ++ [x]) e' o' p' st' (by rw [eq]; simp) h1 (by rw [List.length_append]; exact h2) (by rw [List.length_append]; exact h3) h4
      rw [List.length_append] at this
      exact this
    have hst1 : ∀ s ∈ st, 0 ≤ s ∧ s < ((p0.length + 1 : Nat) : Int) := fun s hs => by have := hst s hs; omega
    have hoo1 : ∀ y ∈ o, y < ((p0.length + 1 : Nat) : Int) := fun y hy => by have := hoo y hy; omega
    refine Ev.succ ?_
    simp only [impl_shapeOf.l0, hr, opens_eq, Option.bind_some]
    refine Ev.ite_pos hlen (Ev.ite_pos (by omega) (Ev.bind hd ?_))
    rw [shR]
    by_cases h2 : wiB x st.length = true
    rotate_left
    · rw [if_neg h2]
      rw [Bool.not_eq_true] at h2
      exact Ev.ite_pos ((hdw _).2 h2) (Ev.some rfl)
    rw [if_pos h2]
    refine Ev.ite_neg (fun h => absurd ((hdw _).1 h) (by rw [h2]; decide)) ?_
    by_cases h3 : opB x.f0 = true
    · rw [if_pos h3]
      refine Ev.ite_pos h3 ?_
      by_cases h4 : st.length + 1 > 8
      · rw [if_pos h4]; exact Ev.ite_pos h4 (Ev.some rfl)
      · rw [if_neg h4]
        refine Ev.ite_neg h4 (next _ _ _ _ ho (fun s hs => ?_) hoo1 (by rw [List.length_append, List.length_singleton]; omega))
        rcases List.mem_append.1 hs with hs | hs
        · exact hst1 s hs
        · simp only [List.mem_singleton] at hs; omega
    rw [if_neg h3]
    refine Ev.ite_neg h3 ?_
    by_cases h4 : x.f0 = 18
    · rw [if_pos h4]
      refine Ev.ite_pos h4 ?_
      by_cases h5 : st.length = 0
      · rw [if_pos h5]; exact Ev.ite_pos h5 (Ev.some rfl)
      rw [if_neg h5]
      obtain ⟨t0, t1⟩ := hst _ (topS_mem h5)
      simp only [show rd st ((st.length - 1 : Nat) : Int) = topS st from rfl]
      refine Ev.ite_neg h5 (Ev.ite_pos t0 (Ev.ite_pos (by omega) ?_))
      by_cases h6 : (rd_T56 l (topS st)).f0 = 17
      · rw [if_pos h6]
        refine Ev.ite_pos h6 ?_
        by_cases h7 : 0 ≤ rd o (topS st)
        · rw [if_pos h7]; exact Ev.ite_pos h7 (Ev.some rfl)
        · rw [if_neg h7]
          exact Ev.ite_neg h7 (next _ _ _ _ (by rw [List.length_set]; exact ho) hst1 (setAll hoo1 (by omega)) hsl)
      · rw [if_neg h6]; exact Ev.ite_neg h6 (Ev.some rfl)
    rw [if_neg h4]
    refine Ev.ite_neg h4 ?_
    by_cases h5 : x.f0 = 19
    · rw [if_pos h5]
      refine Ev.ite_pos h5 ?_
      by_cases h6 : st.length = 0
      · rw [if_pos h6]; exact Ev.ite_pos h6 (Ev.some rfl)
      rw [if_neg h6]
      obtain ⟨t0, t1⟩ := hst _ (topS_mem h6)
      simp only [show rd st ((st.length - 1 : Nat) : Int) = topS st from rfl]
      refine Ev.ite_neg h6 (Ev.ite_pos t0 (Ev.ite_pos (by omega) ?_))
      have hst2 : ∀ s ∈ st.take (st.length - 1), 0 ≤ s ∧ s < ((p0.length + 1 : Nat) : Int) := fun s hs => hst1 s (List.mem_of_mem_take hs)
      have hsl' : (st.take (st.length - 1)).length ≤ 8 := by rw [List.length_take]; omega
      by_cases h7 : 0 ≤ rd o (topS st)
      · rw [if_pos h7]
        have h8 := hoo _ (rd_mem (l := o) (i := topS st) t0 (by omega))
        exact Ev.ite_pos h7 (Ev.ite_pos (by omega) (next _ _ _ _ ho hst2 hoo1 hsl'))
      · rw [if_neg h7]
        exact Ev.ite_neg h7 (next _ _ _ _ ho hst2 hoo1 hsl')
    rw [if_neg h5]
    exact Ev.ite_neg h5 (next _ _ _ _ ho hst1 hoo1 hsl)
/-- What shapeOf comes to. -/
def shapeR (l : List S56) : Option (List Int × List Int × List (List Int)) :=
  if l.length ≤ 60 ∧ l.all stB = true then shR l l (List.replicate l.length (-1)) (List.replicate l.length (-1)) (List.replicate l.length []) [] 0 else none
theorem shapeOf_ev (l : List S56) (hl : l.length ≤ 1048576) (hx : ∀ x ∈ l, x.f2.length ≤ 1048576) : Ev (fun k => impl_shapeOf.f k l) (shapeR l) := by
  unfold impl_shapeOf.f shapeR
  by_cases h : l.length ≤ 60
  rotate_left
  · rw [if_neg (fun h' => h h'.1)]
    exact Ev.ite_pos (by omega) (Ev.some rfl)
  refine Ev.ite_neg (by omega) (Ev.bind (anyStep_ev l hl hx) ?_)
  by_cases h2 : l.all stB = true
  · rw [if_pos ⟨h, h2⟩, h2]
    refine Ev.ite_neg (by decide) ?_
    exact shapeL_ev l h hx (fun x hxm => List.all_eq_true.1 h2 x hxm) l [] _ _ _ _ rfl (by simp) (by simp) (fun y hy => by rw [List.mem_replicate] at hy; simp; omega) (by simp)
  · rw [if_neg (fun h' => h2 h'.2)]
    rw [Bool.not_eq_true] at h2
    rw [h2]
    exact Ev.ite_pos rfl (Ev.some rfl)

theorem rd_set {l : List Int} {k : Nat} (x : Int) (h : k < l.length) (j : Nat) : rd (l.set k x) (j : Int) = if k = j then x else rd l (j : Int) := by
  unfold rd
  rw [Int.toNat_natCast, List.getD_eq_getElem?_getD, List.getD_eq_getElem?_getD, List.getElem?_set]
  by_cases hk : k = j
  · subst hk; simp [h]
  · rw [if_neg hk, if_neg hk]
theorem rd_rep (n : Nat) (x : Int) (j : Nat) (h : j < n) : rd (List.replicate n x) (j : Int) = x := by
  unfold rd; rw [Int.toNat_natCast, List.getD_eq_getElem?_getD, List.getElem?_replicate, if_pos h]; rfl
theorem rd_snoc (l : List Int) (x : Int) (j : Nat) : rd (l ++ [x]) (j : Int) = if j < l.length then rd l (j : Int) else if j = l.length then x else 0 := by
  unfold rd
  rw [Int.toNat_natCast, List.getD_eq_getElem?_getD, List.getD_eq_getElem?_getD]
  by_cases h : j < l.length
  · rw [if_pos h, List.getElem?_append_left h]
  · rw [if_neg h, List.getElem?_append_right (by omega)]
    by_cases h2 : j = l.length
    · rw [if_pos h2, h2]; simp
    · rw [if_neg h2, List.getElem?_eq_none (by simp; omega)]; rfl
/-- Those that open and have no end so far. -/
def opL (l : List S56) (e : List Int) (i : Nat) : List Int := ((List.range i).filter (fun (k : Nat) => opB (rd_T56 l (k : Int)).f0 && decide (rd e (k : Int) < 0))).map (fun (k : Nat) => (k : Int))
theorem opL_succ (l : List S56) (e : List Int) (i : Nat) : opL l e (i + 1) = opL l e i ++ (if (opB (rd_T56 l (i : Int)).f0 && decide (rd e (i : Int) < 0)) = true then [(i : Int)] else []) := by
  unfold opL
  rw [List.range_succ, List.filter_append, List.map_append]
  congr 1
  rw [List.filter_cons, List.filter_nil]
  split <;> rfl
theorem opL_congr {l : List S56} {e e' : List Int} {i : Nat} (h : ∀ k : Nat, k < i → opB (rd_T56 l (k : Int)).f0 = true → (rd e (k : Int) < 0 ↔ rd e' (k : Int) < 0)) : opL l e i = opL l e' i := by
  unfold opL
  congr 1
  refine List.filter_congr fun k hk => ?_
  have := h k (List.mem_range.1 hk)
  cases ho : opB (rd_T56 l (k : Int)).f0 with
  | false => rfl
  | true => rw [Bool.true_and, Bool.true_and, decide_eq_decide]; exact this ho
theorem opL_mem {l : List S56} {e : List Int} {i : Nat} {s : Int} : s ∈ opL l e i ↔ ∃ k : Nat, s = k ∧ k < i ∧ opB (rd_T56 l (k : Int)).f0 = true ∧ rd e (k : Int) < 0 := by
  unfold opL
  rw [List.mem_map]
  constructor
  · rintro ⟨k, hk, rfl⟩
    obtain ⟨h1, h2⟩ := List.mem_filter.1 hk
    rw [Bool.and_eq_true, decide_eq_true_iff] at h2
    exact ⟨k, rfl, List.mem_range.1 h1, h2.1, h2.2⟩
  · rintro ⟨k, rfl, h1, h2, h3⟩
    exact ⟨k, List.mem_filter.2 ⟨List.mem_range.2 h1, by rw [Bool.and_eq_true, decide_eq_true_iff]; exact ⟨h2, h3⟩⟩, rfl⟩
theorem opL_up (l : List S56) (e : List Int) (i : Nat) : (opL l e i).Pairwise (fun a b => a < b) := by
  unfold opL
  rw [List.pairwise_map]
  exact ((List.pairwise_lt_range (n := i)).filter _).imp (fun h => by omega)
theorem snoc_of (S : List Int) (h : S.length ≠ 0) : S = S.take (S.length - 1) ++ [topS S] := by
  have h1 : S.take (S.length - 1 + 1) = S.take (S.length - 1) ++ [S[S.length - 1]'(by omega)] := List.take_succ_eq_append_getElem (by omega)
  rw [show S.length - 1 + 1 = S.length by omega, List.take_length] at h1
  have h2 : topS S = S[S.length - 1]'(by omega) := by
    unfold topS rd
    rw [Int.toNat_natCast, List.getD_eq_getElem?_getD, List.getElem?_eq_getElem (by omega)]; rfl
  rw [h2]; exact h1
theorem filter_last {S : List Int} (hn : S.Pairwise (fun a b => a < b)) (h : S.length ≠ 0) : S.filter (fun s => decide (s ≠ topS S)) = S.take (S.length - 1) := by
  have e := snoc_of S h
  obtain ⟨t, ht⟩ : ∃ t, t = topS S := ⟨_, rfl⟩
  obtain ⟨S0, hS0⟩ : ∃ S0, S0 = S.take (S.length - 1) := ⟨_, rfl⟩
  rw [← ht] at e ⊢
  rw [← hS0] at e ⊢
  rw [e] at hn ⊢
  rw [List.pairwise_append] at hn
  rw [List.filter_append, List.filter_eq_self.2 (fun a ha => by have := hn.2.2 a ha t (by simp); exact decide_eq_true (by omega))]
  simp
theorem opL_pop {l : List S56} {e e' : List Int} {i : Nat} (hS : (opL l e i).length ≠ 0) (h : ∀ k : Nat, k < i → opB (rd_T56 l (k : Int)).f0 = true → (rd e' (k : Int) < 0 ↔ rd e (k : Int) < 0 ∧ (k : Int) ≠ topS (opL l e i))) : opL l e' i = (opL l e i).take ((opL l e i).length - 1) := by
  rw [← filter_last (opL_up l e i) hS]
  generalize ht : topS (opL l e i) = t at h
  unfold opL
  rw [List.filter_map, List.filter_filter]
  congr 1
  refine List.filter_congr fun k hk => ?_
  have := h k (List.mem_range.1 hk)
  cases ho : opB (rd_T56 l (k : Int)).f0 with
  | false => simp
  | true =>
    have := this ho
    simp only [Bool.true_and, Function.comp_apply]
    rw [Bool.eq_iff_iff, decide_eq_true_iff, Bool.and_eq_true, decide_eq_true_iff, decide_eq_true_iff, this, and_comm]
/-- How the two sides' states go together. -/
structure RelI (l : List S56) (out e o st : List Int) (i : Nat) : Prop where
  len : out.length = i
  le : i ≤ l.length
  el : e.length = l.length
  ol : o.length = l.length
  A : ∀ j : Nat, j < i → rd out (j : Int) = if 0 ≤ rd e (j : Int) then rd e (j : Int) else rd o (j : Int)
  B : ∀ j : Nat, i ≤ j → j < l.length → rd e (j : Int) = -1 ∧ rd o (j : Int) = -1
  C : ∀ j : Nat, j < l.length → -1 ≤ rd e (j : Int) ∧ rd e (j : Int) < i ∧ -1 ≤ rd o (j : Int) ∧ rd o (j : Int) < i
  D : st = opL l e i
  F : ∀ j : Nat, j < l.length → 0 ≤ rd o (j : Int) → opB (rd_T56 l (j : Int)).f0 = true ∧ (rd_T56 l (rd o (j : Int))).f0 = 18
  s8 : st.length ≤ 8
theorem RelI.start (l : List S56) : RelI l [] (List.replicate l.length (-1)) (List.replicate l.length (-1)) [] 0 := by
  refine ⟨rfl, Nat.zero_le _, by simp, by simp, fun j h => absurd h (by omega), fun j _ h => ⟨rd_rep _ _ _ h, rd_rep _ _ _ h⟩, fun j h => ?_, rfl, fun j h h0 => ?_, by simp⟩
  · rw [rd_rep _ _ _ h]; omega
  · rw [rd_rep _ _ _ h] at h0; omega
section
variable {l : List S56} {out e o st : List Int} {i : Nat}
theorem RelI.M (h : RelI l out e o st i) (hi : i < l.length) : ∀ j : Nat, j < i + 1 → rd (out ++ [-1]) (j : Int) = if 0 ≤ rd e (j : Int) then rd e (j : Int) else rd o (j : Int) := fun j hj => by
  rw [rd_snoc, h.len]
  by_cases h1 : j < i
  · rw [if_pos h1]; exact h.A j h1
  · obtain rfl : j = i := by omega
    rw [if_neg h1, if_pos rfl, (h.B j (Nat.le_refl _) hi).1, if_neg (by decide), (h.B j (Nat.le_refl _) hi).2]
theorem RelI.Ml (h : RelI l out e o st i) : (out ++ [-1]).length = i + 1 := by rw [List.length_append, h.len]; rfl
theorem RelI.top (h : RelI l out e o st i) (hs : st.length ≠ 0) : ∃ t : Nat, topS st = t ∧ t < i ∧ opB (rd_T56 l (t : Int)).f0 = true ∧ rd e (t : Int) < 0 := by
  have := topS_mem hs
  have hD := h.D
  rw [hD] at this
  obtain ⟨k, h1, h2⟩ := opL_mem.1 this
  exact ⟨k, by rw [hD]; exact h1, h2⟩
theorem RelI.push (h : RelI l out e o st i) (hi : i < l.length) (ho : opB (rd_T56 l (i : Int)).f0 = true) (h8 : st.length ≠ 8) : RelI l (out ++ [-1]) e o (st ++ [(i : Int)]) (i + 1) := by
  have hB := h.B i (Nat.le_refl _) hi
  refine ⟨h.Ml, hi, h.el, h.ol, h.M hi, fun j hj => h.B j (by omega), fun j hj => by have := h.C j hj; omega, ?_, h.F, by have := h.s8; rw [List.length_append, List.length_singleton]; omega⟩
  rw [opL_succ, ← h.D, if_pos (by rw [ho, hB.1]; rfl)]
theorem RelI.pass (h : RelI l out e o st i) (hi : i < l.length) (ho : ¬ opB (rd_T56 l (i : Int)).f0 = true) : RelI l (out ++ [-1]) e o st (i + 1) := by
  refine ⟨h.Ml, hi, h.el, h.ol, h.M hi, fun j hj => h.B j (by omega), fun j hj => by have := h.C j hj; omega, ?_, h.F, h.s8⟩
  rw [opL_succ, ← h.D, if_neg (fun h' => ho (by rw [Bool.and_eq_true] at h'; exact h'.1)), List.append_nil]
theorem RelI.else_ (h : RelI l out e o st i) (hi : i < l.length) (ho : ¬ opB (rd_T56 l (i : Int)).f0 = true) (h18 : (rd_T56 l (i : Int)).f0 = 18) {t : Nat} (ht : t < i) (hto : opB (rd_T56 l (t : Int)).f0 = true) (hte : rd e (t : Int) < 0) : RelI l ((out ++ [-1]).set t (i : Int)) e (o.set t (i : Int)) st (i + 1) := by
  have h1 := h.pass hi ho
  have sM := fun j => rd_set (l := out ++ [-1]) (k := t) (i : Int) (by rw [h.Ml]; omega) j
  have sO := fun j => rd_set (l := o) (k := t) (i : Int) (by rw [h.ol]; omega) j
  refine ⟨by rw [List.length_set]; exact h1.len, h1.le, h1.el, by rw [List.length_set]; exact h1.ol, fun j hj => ?_, fun j hj hjl => ?_, fun j hj => ?_, h1.D, fun j hj h0 => ?_, h1.s8⟩
  · rw [sM, sO]
    by_cases hjt : t = j
    · subst hjt; rw [if_pos rfl, if_pos rfl, if_neg (by omega)]
    · rw [if_neg hjt, if_neg hjt]; exact h1.A j hj
  · rw [sO, if_neg (by omega)]; exact h1.B j hj hjl
  · have := h1.C j hj
    rw [sO]; split <;> omega
  · rw [sO] at h0 ⊢
    by_cases hjt : t = j
    · subst hjt; rw [if_pos rfl]; exact ⟨hto, h18⟩
    · rw [if_neg hjt] at h0 ⊢; exact h1.F j hj h0
theorem RelI.end_ (h : RelI l out e o st i) (hi : i < l.length) (h19 : (rd_T56 l (i : Int)).f0 = 19) (hs : st.length ≠ 0) {t : Nat} (htt : topS st = t) (ht : t < i) (hto : opB (rd_T56 l (t : Int)).f0 = true) (hte : rd e (t : Int) < 0) {M' e' : List Int}
    (hM : M'.length = i + 1) (hE : e'.length = l.length) (hm : ∀ j : Nat, rd M' (j : Int) = if i = j then (t : Int) else if t = j ∨ (0 ≤ rd o (t : Int) ∧ rd o (t : Int) = j) then (i : Int) else rd (out ++ [-1]) (j : Int)) (he : ∀ j : Nat, rd e' (j : Int) = if i = j then (t : Int) else if t = j ∨ (0 ≤ rd o (t : Int) ∧ rd o (t : Int) = j) then (i : Int) else rd e (j : Int)) : RelI l M' e' o (st.take (st.length - 1)) (i + 1) := by
  have ho : ¬ opB (rd_T56 l (i : Int)).f0 = true := by rw [h19]; decide
  have h1 := h.pass hi ho
  refine ⟨hM, h1.le, hE, h1.ol, fun j hj => ?_, fun j hj hjl => ?_, fun j hj => ?_, ?_, h1.F, by rw [List.length_take]; have := h1.s8; omega⟩
  · rw [hm, he]
    by_cases c1 : i = j
    · simp only [if_pos c1]; rw [if_pos (by omega)]
    by_cases c2 : t = j ∨ (0 ≤ rd o (t : Int) ∧ rd o (t : Int) = j)
    · simp only [if_neg c1, if_pos c2]; rw [if_pos (by omega)]
    simp only [if_neg c1, if_neg c2]
    exact h1.A j hj
  · have hc := h.C t (by omega)
    rw [he, if_neg (by omega), if_neg (by omega)]
    exact h1.B j hj hjl
  · have := h1.C j hj
    rw [he]
    split
    · omega
    · split <;> omega
  · have hD := h1.D
    rw [opL_succ, if_neg (fun h' => ho (by rw [Bool.and_eq_true] at h'; exact h'.1)), List.append_nil] at hD
    rw [opL_succ, if_neg (fun h' => ho (by rw [Bool.and_eq_true] at h'; exact h'.1)), List.append_nil, hD]
    rw [hD] at hs htt
    refine (opL_pop hs fun k hk hko => ?_).symm
    rw [htt, he, if_neg (by omega)]
    by_cases c2 : t = k
    · rw [if_pos (.inl c2)]; omega
    · by_cases c3 : 0 ≤ rd o (t : Int) ∧ rd o (t : Int) = k
      · have := (h.F t (by omega) c3.1).2
        rw [c3.2] at this
        rw [this] at hko
        exact absurd hko (by decide)
      · rw [if_neg (by omega)]
        omega
end
theorem enR_bad (l : List S56) : ∀ (q : List S56) (out st : List Int), ((∃ x ∈ q, stB x = false) ∨ ¬ l.length ≤ 60) → (enR l q out st).2 = false := by
  intro q
  induction q with
  | nil =>
    intro out st h
    rcases h with ⟨x, hx, _⟩ | h
    · exact absurd hx (by simp)
    · rw [enR, decide_eq_false h, Bool.and_false]
  | cons x q ih =>
    intro out st h
    rw [enR]
    by_cases h1 : stB x = true ∧ wiB x st.length = true
    rotate_left
    · rw [if_neg h1]
    rw [if_pos h1]
    have h' : (∃ x ∈ q, stB x = false) ∨ ¬ l.length ≤ 60 := by
      rcases h with ⟨y, hy, hyb⟩ | h
      · rcases List.mem_cons.1 hy with rfl | hy
        · rw [h1.1] at hyb; exact absurd hyb (by decide)
        · exact .inl ⟨y, hy, hyb⟩
      · exact .inr h
    have ih' := fun out st => ih out st h'
    repeat' split
    all_goals first | rfl | exact ih' _ _
theorem rel (l : List S56) (hl : l.length ≤ 60) (hg : ∀ x ∈ l, stB x = true) : ∀ (q p0 : List S56) (out e o : List Int) (p : List (List Int)) (st : List Int), l = p0 ++ q → RelI l out e o st p0.length →
    (enR l q out st).2 = (shR l q e o p st p0.length).isSome ∧ ∀ r, shR l q e o p st p0.length = some r → (enR l q out st).1 = r.1 := by
  intro q
  induction q with
  | nil =>
    intro p0 out e o p st eq h
    have hn : p0.length = l.length := by rw [eq]; simp
    rw [enR, shR]
    by_cases hs : st.length = 0
    · rw [if_pos hs, decide_eq_true hs, decide_eq_true hl]
      refine ⟨rfl, fun r hr => ?_⟩
      obtain rfl := Option.some.inj hr
      dsimp only
      have hse : st = [] := List.eq_nil_of_length_eq_zero hs
      apply List.ext_getElem?
      intro j
      by_cases hj : j < l.length
      · have hA := h.A j (by omega)
        have hC := h.C j hj
        have key : rd out (j : Int) = rd e (j : Int) := by
          by_cases h0 : 0 ≤ rd e (j : Int)
          · rw [hA, if_pos h0]
          · rw [hA, if_neg h0]
            by_cases h1 : 0 ≤ rd o (j : Int)
            · have : (j : Int) ∈ opL l e p0.length := opL_mem.2 ⟨j, rfl, by omega, (h.F j hj h1).1, by omega⟩
              rw [← h.D, hse] at this
              exact absurd this (by simp)
            · omega
        unfold rd at key
        rw [Int.toNat_natCast, List.getD_eq_getElem?_getD, List.getD_eq_getElem?_getD] at key
        rw [List.getElem?_eq_getElem (by rw [h.len]; omega), List.getElem?_eq_getElem (by rw [h.el]; omega)] at key ⊢
        exact congrArg some key
      · rw [List.getElem?_eq_none (by rw [h.len]; omega), List.getElem?_eq_none (by rw [h.el]; omega)]
    · rw [if_neg hs, decide_eq_false hs]
      exact ⟨rfl, fun r hr => absurd hr (by simp)⟩
  | cons x q ih =>
    intro p0 out e o p st eq h
    have hi : p0.length < l.length := by rw [eq]; simp
    have hr : rd_T56 l (p0.length : Int) = x := by unfold rd_T56; rw [eq]; exact getD_mid _ _ _ _
    have hxl : x ∈ l := by rw [eq]; simp
    have none_ : (([] : List Int), false).2 = (none : Option (List Int × List Int × List (List Int))).isSome ∧ ∀ r, (none : Option (List Int × List Int × List (List Int))) = some r → (([] : List Int), false).1 = r.1 := ⟨rfl, fun r hr => absurd hr (by simp)⟩
    have next : ∀ out' e' o' p' st', RelI l out' e' o' st' (p0.length + 1) → (enR l q out' st').2 = (shR l q e' o' p' st' (p0.length + 1)).isSome ∧ ∀ r, shR l q e' o' p' st' (p0.length + 1) = some r → (enR l q out' st').1 = r.1 := fun out' e' o' p' st' h' => by
      have := ih (p0 ++ [x]) out' e' o' p' st' (by rw [eq]; simp) (by rw [List.length_append]; exact h')
      rw [List.length_append] at this
      exact this
    rw [enR, shR]
    by_cases h2 : wiB x st.length = true
    rotate_left
    · rw [if_neg (fun h' => h2 h'.2), if_neg h2]
      exact none_
    rw [if_pos ⟨hg x hxl, h2⟩, if_pos h2]
    have h8 := h.s8
    by_cases h3 : opB x.f0 = true
    · rw [if_pos h3, if_pos h3]
      by_cases h4 : st.length = 8
      · rw [if_pos h4, if_pos (by omega)]; exact none_
      · rw [if_neg h4, if_neg (by omega), h.len]
        exact next _ _ _ _ _ (h.push hi (by rw [hr]; exact h3) h4)
    rw [if_neg h3, if_neg h3]
    by_cases h4 : x.f0 = 18
    · rw [if_pos h4, if_pos h4]
      by_cases h5 : st.length = 0
      · rw [if_pos h5, if_pos h5]; exact none_
      rw [if_neg h5, if_neg h5]
      obtain ⟨t, htt, ht, hto, hte⟩ := h.top h5
      rw [htt, Int.toNat_natCast]
      by_cases h6 : (rd_T56 l (t : Int)).f0 = 17
      rotate_left
      · rw [if_neg h6, if_neg h6]; exact none_
      rw [if_pos h6, if_pos h6]
      have hMt : rd (out ++ [-1]) (t : Int) = rd o (t : Int) := by rw [h.M hi t (by omega), if_neg (by omega)]
      by_cases h7 : 0 ≤ rd o (t : Int)
      · rw [if_pos h7, if_pos (by omega)]; exact none_
      · rw [if_neg h7, if_neg (by omega), h.len]
        exact next _ _ _ _ _ (h.else_ hi (by rw [hr]; exact h3) (by rw [hr]; exact h4) ht hto hte)
    rw [if_neg h4, if_neg h4]
    by_cases h5 : x.f0 = 19
    · rw [if_pos h5, if_pos h5]
      by_cases h6 : st.length = 0
      · rw [if_pos h6, if_pos h6]; exact none_
      rw [if_neg h6, if_neg h6]
      obtain ⟨t, htt, ht, hto, hte⟩ := h.top h6
      have hMt : rd (out ++ [-1]) (topS st) = rd o (topS st) := by rw [htt, h.M hi t (by omega), if_neg (by omega)]
      have hc := h.C t (by omega)
      have hMl := h.Ml
      have hel := h.el
      rw [hMt]
      by_cases h7 : 0 ≤ rd o (topS st)
      · rw [if_pos h7, if_pos (by omega), h.len]
        rw [htt] at h7
        refine next _ _ _ _ _ (h.end_ hi (by rw [hr]; exact h5) h6 htt ht hto hte (by simp only [List.length_set]; exact hMl) (by simp only [List.length_set]; exact hel) (fun j => ?_) (fun j => ?_))
        · rw [htt, Int.toNat_natCast, rd_set _ (by simp only [List.length_set]; omega), rd_set _ (by simp only [List.length_set]; omega), rd_set _ (by omega)]
          by_cases c1 : p0.length = j
          · rw [if_pos c1, if_pos c1]
          rw [if_neg c1, if_neg c1]
          by_cases c2 : t = j
          · rw [if_pos c2, if_pos (.inl c2)]
          rw [if_neg c2]
          by_cases c3 : (rd o (t : Int)).toNat = j
          · rw [if_pos c3, if_pos (by omega)]
          · rw [if_neg c3, if_neg (by omega)]
        · rw [htt, Int.toNat_natCast, rd_set _ (by simp only [List.length_set]; omega), rd_set _ (by simp only [List.length_set]; omega), rd_set _ (by omega)]
          by_cases c3 : (rd o (t : Int)).toNat = j
          · rw [if_pos c3, if_neg (by omega), if_pos (by omega)]
          rw [if_neg c3]
          by_cases c2 : t = j
          · rw [if_pos c2, if_neg (by omega), if_pos (.inl c2)]
          rw [if_neg c2]
          by_cases c1 : p0.length = j
          · rw [if_pos c1, if_pos c1]
          · rw [if_neg c1, if_neg c1, if_neg (by omega)]
      · rw [if_neg h7, if_neg (by omega), h.len]
        rw [htt] at h7
        refine next _ _ _ _ _ (h.end_ hi (by rw [hr]; exact h5) h6 htt ht hto hte (by simp only [List.length_set]; exact hMl) (by simp only [List.length_set]; exact hel) (fun j => ?_) (fun j => ?_))
        · rw [htt, Int.toNat_natCast, rd_set _ (by simp only [List.length_set]; omega), rd_set _ (by omega)]
          by_cases c1 : p0.length = j
          · rw [if_pos c1, if_pos c1]
          rw [if_neg c1, if_neg c1]
          by_cases c2 : t = j
          · rw [if_pos c2, if_pos (.inl c2)]
          · rw [if_neg c2, if_neg (by omega)]
        · rw [htt, Int.toNat_natCast, rd_set _ (by simp only [List.length_set]; omega), rd_set _ (by omega)]
          by_cases c2 : t = j
          · rw [if_pos c2, if_neg (by omega), if_pos (.inl c2)]
          rw [if_neg c2]
          by_cases c1 : p0.length = j
          · rw [if_pos c1, if_pos c1]
          · rw [if_neg c1, if_neg c1, if_neg (by omega)]
    rw [if_neg h5, if_neg h5]
    exact next _ _ _ _ _ (h.pass hi (by rw [hr]; exact h3))
theorem ends_shape (l : List S56) : (enR l l [] []).2 = (shapeR l).isSome ∧ ∀ r, shapeR l = some r → (enR l l [] []).1 = r.1 := by
  unfold shapeR
  by_cases h : l.length ≤ 60 ∧ l.all stB = true
  · rw [if_pos h]
    exact rel l h.1 (fun x hx => List.all_eq_true.1 h.2 x hx) l [] _ _ _ _ _ rfl (RelI.start l)
  · rw [if_neg h]
    refine ⟨?_, fun r hr => absurd hr (by simp)⟩
    refine enR_bad l l [] [] ?_
    by_cases h1 : l.length ≤ 60
    · by_cases h2 : ∃ x ∈ l, stB x = false
      · exact .inl h2
      · refine absurd ⟨h1, List.all_eq_true.2 fun x hx => ?_⟩ h
        cases hb : stB x with
        | true => rfl
        | false => exact absurd ⟨x, hx, hb⟩ h2
    · exact .inr h1

theorem spGoodSteps_ev (l : List S56) (hl : l.length ≤ 1048576) (hx : ∀ x ∈ l, x.f2.length ≤ 1048576) : Ev (fun k => spec_GoodSteps.f k l) (shapeR l).isSome := by
  unfold spec_GoodSteps.f
  exact Ev.bind (l3Ends_ev l hl hx) (Ev.some (ends_shape l).1)

theorem imGoodSteps_ev (l : List S56) (hl : l.length ≤ 1048576) (hx : ∀ x ∈ l, x.f2.length ≤ 1048576) : Ev (fun k => impl_GoodSteps.f k l) (shapeR l).isSome := by
  unfold impl_GoodSteps.f
  exact Ev.bind (shapeOf_ev l hl hx) (Ev.some rfl)

/-- What the reading loop of the program answers. -/
def tkI (n at0 : Int) (i : Nat) : Option (Int × Nat) → Int × Int × Int × Bool
  | none => (0, 0, 0, false)
  | some (v, m) => (n + 128 ^ i * v, 7 * ((i : Int) + m), at0 + i + m, true)
theorem takeBits_l0 (s : ByteArray) (hs : s.size ≤ 1000) (at0 : Int) (h0 : 0 ≤ at0) (ha : at0 ≤ 9223372036854775000) (r : Nat) : ∀ (i : Nat) (n : Int), i + r = 5 → 0 ≤ n → n < 128 ^ i →
    Ev (fun k => impl_takeBits.l0 k s at0 n (i : Int)) (tkI n at0 i (tk s r (at0 + i))) := by
  induction r with
  | zero =>
    intro i n hi hn hn'
    refine ⟨2, fun k hk => ?_⟩
    (try dsimp only)
    obtain ⟨k, rfl⟩ : ∃ m, k = m + 2 := ⟨k - 2, by omega⟩
    simp only [impl_takeBits.l0, impl_takeBits.j1]
    rw [if_neg (by omega), if_neg (by simp)]; rfl
  | succ r ih =>
    intro i n hi hn hn'
    have hb := bt_range s (at0 + i)
    have e0 : wrap64 (at0 + (i : Int)) = at0 + i := wrap64_id (by omega) (by omega)
    by_cases hlt : at0 + (i : Int) < (s.size : Int)
    · have e1 : wrap64 (7 * (i : Int)) = 7 * (i : Int) := wrap64_id (by omega) (by omega)
      have e3 : wrap64 (bt s (at0 + i) % 128) = bt s (at0 + i) % 128 := wrap64_id (by omega) (by omega)
      have e6 : bits .and .u8 (bt s (at0 + i)) 127 = bt s (at0 + i) % 128 := by
        have := u8_and127_any (bt s (at0 + i)); rwa [show bt s (at0 + i) % 256 = bt s (at0 + i) from by omega] at this
      have e5 := or_shl i (by omega) n (bt s (at0 + i) % 128) hn hn' (by omega) (by omega)
      by_cases hsm : bt s (at0 + i) < 128
      · refine ⟨2, fun k hk => ?_⟩
        (try dsimp only)
        obtain ⟨k, rfl⟩ : ∃ m, k = m + 2 := ⟨k - 2, by omega⟩
        simp only [impl_takeBits.l0, impl_takeBits.j1, tk]
        rw [if_pos (by omega), e0, if_pos (by simpa using hlt), if_pos (by omega), if_pos hlt, e1, if_pos (by omega), if_pos hsm, e6, e3, e5, if_pos hlt, if_pos hsm, wrap64_id (x := (i : Int) + 1) (by omega) (by omega), wrap64_id (x := 7 * ((i : Int) + 1)) (by omega) (by omega), wrap64_id (x := at0 + (i : Int) + 1) (by omega) (by omega)]
        simp only [tkI]
        rw [show bt s (at0 + i) % 128 = bt s (at0 + i) from by omega, show 7 * ((i : Int) + 1) = 7 * ((i : Int) + (1 : Nat)) from by omega]; rfl
      · have hpow : (128 : Int) ^ (i + 1) = 128 * 128 ^ i := by rw [Int.pow_succ]; ac_rfl
        have hq : 0 ≤ (128 : Int) ^ i * (bt s (at0 + i) % 128) := Int.mul_nonneg (by omega) (by omega)
        have hq' : (128 : Int) ^ i * (bt s (at0 + i) % 128) ≤ 128 ^ i * 127 := Int.mul_le_mul (Int.le_refl _) (by omega) (by omega) (by omega)
        obtain ⟨K, hK⟩ := ih (i + 1) (n + 128 ^ i * (bt s (at0 + i) % 128)) (by omega) (by omega) (by rw [hpow]; omega)
        (try dsimp only at hK)
        refine ⟨K + 2, fun k hk => ?_⟩
        (try dsimp only)
        obtain ⟨k, rfl, hk'⟩ : ∃ m, k = m + 2 ∧ K ≤ m := ⟨k - 2, by omega, by omega⟩
        simp only [impl_takeBits.l0, impl_takeBits.j1, tk]
        rw [if_pos (by omega), e0, if_pos (by simpa using hlt), if_pos (by omega), if_pos hlt, e1, if_pos (by omega), if_neg hsm, e6, e3, e5, if_pos hlt, if_neg hsm, wrap64_id (x := (i : Int) + 1) (by omega) (by omega)]
        have hK' := hK k hk'
        rw [show ((i + 1 : Nat) : Int) = (i : Int) + 1 from by omega, show at0 + ((i : Int) + 1) = at0 + i + 1 from by omega] at hK'
        rw [hK']
        cases tk s r (at0 + i + 1) with
        | none => rfl
        | some p =>
          obtain ⟨v, m⟩ := p
          simp only [tkI, Option.map_some, hpow, Option.some.injEq, Prod.mk.injEq]
          refine ⟨?_, by omega, by omega, trivial⟩
          rw [Int.mul_add, Int.mul_assoc, Int.mul_left_comm 128, ← Int.add_assoc]
    · refine ⟨2, fun k hk => ?_⟩
      (try dsimp only)
      obtain ⟨k, rfl⟩ : ∃ m, k = m + 2 := ⟨k - 2, by omega⟩
      simp only [impl_takeBits.l0, impl_takeBits.j1, tk]
      rw [if_pos (by omega), e0, if_neg (by simpa using hlt), if_neg hlt]; rfl
theorem takeBits_ev (s : ByteArray) (hs : s.size ≤ 1000) (at0 : Int) (h0 : 0 ≤ at0) (h1 : at0 ≤ 9223372036854775807) : Ev (fun k => impl_takeBits.f k s at0) (tkI 0 at0 0 (tk s 5 at0)) := by
  by_cases ha : at0 ≤ 9223372036854775000
  · have := takeBits_l0 s hs at0 h0 ha 5 0 0 rfl (Int.le_refl _) (by decide)
    rw [show at0 + ((0 : Nat) : Int) = at0 from by omega] at this
    exact this
  · refine ⟨2, fun k hk => ?_⟩
    (try dsimp only)
    obtain ⟨k, rfl⟩ : ∃ m, k = m + 2 := ⟨k - 2, by omega⟩
    simp only [impl_takeBits.f, impl_takeBits.l0, impl_takeBits.j1, tk]
    rw [if_pos (by omega), wrap64_id (by omega) (by omega), if_neg (by simp; omega), if_neg (by omega)]; rfl

theorem takeU_ev (s : ByteArray) (hs : s.size ≤ 1000) (a : Int) (h0 : 0 ≤ a) (h1 : a ≤ 9223372036854775807) : Ev (fun k => impl_takeU.f k s a) (tuR s a) := by
  obtain ⟨K, hK⟩ := takeBits_ev s hs a h0 h1
  (try dsimp only at hK)
  refine ⟨K, fun k hk => ?_⟩
  (try dsimp only)
  have hK' := hK k hk
  unfold impl_takeU.f
  cases ht : tk s 5 a with
  | none =>
    rw [ht] at hK'
    simp only [tkI] at hK'
    rw [hK', tuR_none ht]; rfl
  | some p =>
    obtain ⟨v, m⟩ := p
    rw [ht] at hK'
    simp only [tkI] at hK'
    rw [show (0 : Int) + 128 ^ 0 * v = v from by omega, show a + ((0 : Nat) : Int) + m = a + m from by omega] at hK'
    rw [hK', tuR_some ht]
    dsimp only [Option.bind_some]
    rw [if_pos rfl]
    by_cases hv : v ≤ 4294967295
    · rw [if_neg (by omega), if_pos hv]
    · rw [if_pos (by omega), if_neg hv]

theorem takeVec_l0 (s : ByteArray) (hs : s.size ≤ 1000) (r : Nat) : ∀ (at0 : Int) (p : List Int), 0 ≤ at0 → at0 ≤ s.size → p.length + r ≤ 100000 →
    Ev (fun k => impl_takeVec.l0 k s at0 (p ++ List.replicate r 0) ((p.length + r : Nat) : Int) (p.length : Int)) (tvR ((tvL s r at0).map fun x => (p ++ x.1, x.2))) := by
  induction r with
  | zero =>
    intro at0 p h0 h1 hp
    refine ⟨1, fun k hk => ?_⟩
    (try dsimp only)
    obtain ⟨k, rfl⟩ : ∃ m, k = m + 1 := ⟨k - 1, by omega⟩
    simp only [impl_takeVec.l0]
    rw [if_neg (by omega)]; simp [tvL, tvR]
  | succ r ih =>
    intro at0 p h0 h1 hp
    obtain ⟨K1, hK1⟩ := takeU_ev s hs at0 h0 (by omega)
    (try dsimp only at hK1)
    have htu : takeU32 s at0 = tuR s at0 := by unfold takeU32; rw [if_pos ⟨hs, h0⟩]
    rw [← htu] at hK1
    rcases ht : takeU32 s at0 with ⟨v, e, ok⟩
    rw [ht] at hK1
    cases ok with
    | false =>
      refine ⟨K1 + 1, fun k hk => ?_⟩
      (try dsimp only)
      obtain ⟨k, rfl, hk'⟩ := within_lo hk
      simp only [impl_takeVec.l0, tvL]
      rw [if_pos (by omega), hK1 k hk', Option.bind_some, if_pos (by omega), if_pos (by simp; omega), if_neg (by simp), ht, if_neg (by simp)]; rfl
    | true =>
      obtain ⟨q1, q2, q3, q4, q5, q6⟩ := takeU32_true ht
      obtain ⟨K, hK⟩ := ih e (p ++ [v]) (by omega) q6 (by simp; omega)
      (try dsimp only at hK)
      refine ⟨K + K1 + 1, fun k hk => ?_⟩
      (try dsimp only)
      obtain ⟨k, rfl, hk'⟩ := within_lo hk
      simp only [impl_takeVec.l0, tvL]
      have hK' := hK k (by omega)
      simp only [List.append_assoc, List.cons_append, List.nil_append] at hK'
      rw [if_pos (by omega), hK1 k (by omega), Option.bind_some, if_pos (by omega), if_pos (by simp; omega), if_pos (by trivial), Int.toNat_natCast, List.replicate_succ, set_mid, wrap64_id (by omega) (by omega),
        show ((p.length : Int) + 1) = ((p ++ [v]).length : Int) from by simp, show ((p.length + (r + 1) : Nat) : Int) = (((p ++ [v]).length + r : Nat) : Int) from by simp; omega, hK', ht, if_pos (by trivial)]
      cases tvL s r e with
      | none => rfl
      | some x => simp [tvR]
theorem takeVeci_ev (s : ByteArray) (hs : s.size ≤ 1000) (a : Int) (h0 : 0 ≤ a) (ha : a ≤ 9223372036854775807) : Ev (fun k => impl_takeVec.f k s a) (takeVec s a) := by
  obtain ⟨K1, h1⟩ := takeU_ev s hs a h0 ha
  (try dsimp only at h1)
  have htu : takeU32 s a = tuR s a := by unfold takeU32; rw [if_pos ⟨hs, h0⟩]
  rw [← htu] at h1
  rcases ht : takeU32 s a with ⟨v, e, ok⟩
  rw [ht] at h1
  unfold takeVec
  rw [ht]
  cases ok with
  | false =>
    refine ⟨K1 + 1, fun k hk => ?_⟩
    (try dsimp only)
    obtain ⟨k, rfl, hk'⟩ := within_lo hk
    unfold impl_takeVec.f
    simp only [impl_takeVec.j0]
    rw [h1 _ (by omega), Option.bind_some, if_neg (by simp), if_pos (by trivial), if_neg (by simp)]
  | true =>
    obtain ⟨q1, q2, q3, q4, q5, q6⟩ := takeU32_true ht
    by_cases hv : v ≤ 50
    · obtain ⟨n, rfl⟩ := Int.eq_ofNat_of_zero_le q3
      obtain ⟨K, hK⟩ := takeVec_l0 s hs n e [] (by omega) q6 (by simp; omega)
      (try dsimp only at hK)
      refine ⟨K1 + K + 1, fun k hk => ?_⟩
      (try dsimp only)
      obtain ⟨k, rfl, hk'⟩ := within_lo hk
      unfold impl_takeVec.f
      simp only [impl_takeVec.j0]
      have hK' := hK k (by omega)
      simp only [List.length_nil, Nat.zero_add, List.nil_append] at hK'
      rw [h1 _ (by omega), Option.bind_some, if_pos (by trivial), if_neg (by simp; omega), if_pos (by omega), if_pos (by omega), Option.bind_some, Int.toNat_natCast, List.length_replicate, if_pos ⟨by trivial, hv⟩]
      refine Eq.trans hK' ?_
      cases tvL s n e <;> rfl
    · refine ⟨K1 + 1, fun k hk => ?_⟩
      (try dsimp only)
      obtain ⟨k, rfl, hk'⟩ := within_lo hk
      unfold impl_takeVec.f
      simp only [impl_takeVec.j0]
      rw [h1 _ (by omega), Option.bind_some, if_pos (by trivial), if_pos (by simp; omega), if_neg (by omega)]

theorem l1U32_eq (a : Int) : spec_l1U32.f a = some (decide (0 ≤ a ∧ a ≤ 4294967295)) := by
  unfold spec_l1U32.f; rw [l1In_eq]; rfl

theorem l1Text_eq (s : ByteArray) (a : Int) : spec_l1Text.f s a = some (decide (s.size ≤ 1000 ∧ 0 ≤ a ∧ a < s.size)) := by
  unfold spec_l1Text.f
  by_cases h : (s.size : Int) ≤ 1000
  · rw [if_pos h]
    by_cases h2 : a ≥ 0
    · rw [if_pos h2]; congr 1; simp only [decide_eq_decide]; omega
    · rw [if_neg h2]; congr 1; symm; simp only [decide_eq_false_iff_not]; omega
  · rw [if_neg h]; congr 1; symm; simp only [decide_eq_false_iff_not]; omega

/-- What the reading loop of the reference answers. -/
def tkS (n at0 : Int) (i : Nat) : Option (Int × Nat) → Int × Int × Int
  | none => (0, 0, 0)
  | some (v, m) => (n + 128 ^ i * v, 7 * ((i : Int) + m), at0 + m)
theorem l1Take_l0 (s : ByteArray) (hs : s.size ≤ 1000) (r : Nat) : ∀ (i : Nat) (at0 n : Int), i + r = 5 → 0 ≤ at0 → at0 ≤ s.size → 0 ≤ n → n < 128 ^ i →
    Ev (fun k => spec_l1Take.l0 k s at0 n (i : Int)) (tkS n at0 i (tk s r at0)) := by
  induction r with
  | zero =>
    intro i at0 n hi h0 h1 hn hn'
    refine ⟨1, fun k hk => ?_⟩
    (try dsimp only)
    obtain ⟨k, rfl⟩ : ∃ m, k = m + 1 := ⟨k - 1, by omega⟩
    simp only [spec_l1Take.l0]
    rw [if_neg (by omega)]; rfl
  | succ r ih =>
    intro i at0 n hi h0 h1 hn hn'
    have hb := bt_range s at0
    by_cases hlt : at0 < (s.size : Int)
    · have e1 : wrap64 (7 * (i : Int)) = 7 * (i : Int) := wrap64_id (by omega) (by omega)
      have e2 : IntKind.u64.wrap (7 * (i : Int)) = 7 * (i : Int) := by simp [IntKind.wrap, IntKind.bits, IntKind.signed]; omega
      have e3 : wrap64 (bt s at0) = bt s at0 := wrap64_id (by omega) (by omega)
      have e4 : wrap64 (at0 + 1) = at0 + 1 := wrap64_id (by omega) (by omega)
      have e5 := or_shl i (by omega) n (bt s at0 % 128) hn hn' (by omega) (by omega)
      by_cases hsm : bt s at0 < 128
      · refine ⟨1, fun k hk => ?_⟩
        (try dsimp only)
        obtain ⟨k, rfl⟩ : ∃ m, k = m + 1 := ⟨k - 1, by omega⟩
        simp only [spec_l1Take.l0, tk]
        rw [if_pos (by omega), if_neg (by omega), if_pos h0, if_pos hlt, e1, e2, if_pos (by omega), e3, if_pos hsm, i64_and127, e5, if_pos hlt, if_pos hsm, e4, wrap64_id (by omega) (by omega)]
        simp only [tkS]
        rw [show bt s at0 % 128 = bt s at0 from by omega, show (7 * (i : Int) + 7) = 7 * ((i : Int) + (1 : Nat)) from by omega]; rfl
      · have hpow : (128 : Int) ^ (i + 1) = 128 * 128 ^ i := by rw [Int.pow_succ]; ac_rfl
        have hq : 0 ≤ (128 : Int) ^ i * (bt s at0 % 128) := Int.mul_nonneg (by omega) (by omega)
        have hq' : (128 : Int) ^ i * (bt s at0 % 128) ≤ 128 ^ i * 127 := Int.mul_le_mul (Int.le_refl _) (by omega) (by omega) (by omega)
        obtain ⟨K, hK⟩ := ih (i + 1) (at0 + 1) (n + 128 ^ i * (bt s at0 % 128)) (by omega) (by omega) (by omega) (by omega) (by rw [hpow]; omega)
        (try dsimp only at hK)
        refine ⟨K + 1, fun k hk => ?_⟩
        (try dsimp only)
        obtain ⟨k, rfl, hk'⟩ := within_lo hk
        simp only [spec_l1Take.l0, tk]
        rw [if_pos (by omega), if_neg (by omega), if_pos h0, if_pos hlt, e1, e2, if_pos (by omega), e3, if_neg hsm, i64_and127, e5, if_pos hlt, if_neg hsm, e4, wrap64_id (by omega) (by omega)]
        have hK' := hK k hk'
        rw [show ((i + 1 : Nat) : Int) = (i : Int) + 1 from by omega] at hK'
        rw [hK']
        cases tk s r (at0 + 1) with
        | none => rfl
        | some p =>
          obtain ⟨v, m⟩ := p
          simp only [tkS, Option.map_some, hpow, Option.some.injEq, Prod.mk.injEq]
          refine ⟨?_, by omega, by omega⟩
          rw [Int.mul_add, Int.mul_assoc, Int.mul_left_comm 128, ← Int.add_assoc]
    · refine ⟨1, fun k hk => ?_⟩
      (try dsimp only)
      obtain ⟨k, rfl⟩ : ∃ m, k = m + 1 := ⟨k - 1, by omega⟩
      simp only [spec_l1Take.l0, tk]
      rw [if_pos (by omega), if_pos (by omega), if_neg hlt]; rfl
theorem l1Take_ev (s : ByteArray) (hs : s.size ≤ 1000) (at0 : Int) (h0 : 0 ≤ at0) (h1 : at0 ≤ s.size) : Ev (fun k => spec_l1Take.f k s at0) (tkS 0 at0 0 (tk s 5 at0)) :=
  l1Take_l0 s hs 5 0 at0 0 rfl h0 h1 (Int.le_refl _) (by decide)

theorem sTakeU32_ev (s : ByteArray) (a : Int) : Ev (fun k => spec_TakeU32.f k s a) (takeU32 s a) := by
  by_cases h : s.size ≤ 1000 ∧ 0 ≤ a ∧ a < s.size
  · obtain ⟨K, hK⟩ := l1Take_ev s h.1 a h.2.1 (by omega)
    (try dsimp only at hK)
    have e : takeU32 s a = tuR s a := by unfold takeU32; rw [if_pos ⟨h.1, h.2.1⟩]
    rw [e]
    refine ⟨K, fun k hk => ?_⟩
    (try dsimp only)
    have hK' := hK k hk
    unfold spec_TakeU32.f
    rw [l1Text_eq, Option.bind_some, if_pos (by simpa using h)]
    cases ht : tk s 5 a with
    | none =>
      rw [ht] at hK'
      simp only [tkS] at hK'
      rw [hK', tuR_none ht]; rfl
    | some p =>
      obtain ⟨v, m⟩ := p
      obtain ⟨q0, _, q2, _, _⟩ := tk_some 5 ht
      rw [ht] at hK'
      simp only [tkS] at hK'
      rw [show (0 : Int) + 128 ^ 0 * v = v from by omega] at hK'
      rw [hK', tuR_some ht]
      dsimp only [Option.bind_some]
      rw [if_neg (by omega), l1U32_eq, Option.bind_some]
      by_cases hv : v ≤ 4294967295
      · rw [if_pos (by simp; omega), if_pos hv]
      · rw [if_neg (by simp; omega), if_neg hv]
  · refine ⟨0, fun k _ => ?_⟩
    (try dsimp only)
    unfold spec_TakeU32.f takeU32
    rw [l1Text_eq, Option.bind_some, if_neg (by simpa using h)]
    by_cases h2 : s.size ≤ 1000 ∧ 0 ≤ a
    · rw [if_pos h2, tuR_none (tk_out 5 (by omega))]
    · rw [if_neg h2]

theorem sTakeVec_l0 (s : ByteArray) (n : Nat) : ∀ (at0 : Int) (p : List Int), p.length + n ≤ 17592186044416 → Ev (fun k => spec_TakeVec.l0 k s at0 (n : Int) p) (tvR ((tvL s n at0).map fun x => (p ++ x.1, x.2))) := by
  induction n with
  | zero =>
    intro at0 p hp
    refine ⟨1, fun k hk => ?_⟩
    (try dsimp only)
    obtain ⟨k, rfl⟩ : ∃ m, k = m + 1 := ⟨k - 1, by omega⟩
    simp only [spec_TakeVec.l0]
    rw [if_neg (by omega)]; simp [tvL, tvR]
  | succ n ih =>
    intro at0 p hp
    obtain ⟨K1, h1⟩ := sTakeU32_ev s at0
    (try dsimp only at h1)
    rcases ht : takeU32 s at0 with ⟨v, e, ok⟩
    rw [ht] at h1
    cases ok with
    | false =>
      refine ⟨K1 + 1, fun k hk => ?_⟩
      (try dsimp only)
      obtain ⟨k, rfl, hk'⟩ := within_lo hk
      simp only [spec_TakeVec.l0, tvL]
      rw [if_pos (by omega), h1 k hk', Option.bind_some, if_neg (by simp), ht, if_neg (by simp)]; rfl
    | true =>
      obtain ⟨K, hK⟩ := ih e (p ++ [v]) (by simp; omega)
      (try dsimp only at hK)
      refine ⟨K + K1 + 1, fun k hk => ?_⟩
      (try dsimp only)
      obtain ⟨k, rfl, hk'⟩ := within_lo hk
      simp only [spec_TakeVec.l0, tvL]
      rw [if_pos (by omega), h1 k (by omega), Option.bind_some, if_pos (by trivial), if_pos (by omega), show wrap64 (((n + 1 : Nat) : Int) - 1) = (n : Int) from by rw [wrap64_id (by omega) (by omega)]; omega, hK k (by omega), ht, if_pos (by trivial)]
      cases tvL s n e with
      | none => rfl
      | some x => simp [tvR]
theorem sTakeVec_ev (s : ByteArray) (a : Int) : Ev (fun k => spec_TakeVec.f k s a) (takeVec s a) := by
  obtain ⟨K1, h1⟩ := sTakeU32_ev s a
  (try dsimp only at h1)
  rcases ht : takeU32 s a with ⟨v, e, ok⟩
  rw [ht] at h1
  unfold takeVec
  rw [ht]
  cases ok with
  | false =>
    refine ⟨K1 + 1, fun k hk => ?_⟩
    (try dsimp only)
    obtain ⟨k, rfl, hk'⟩ := within_lo hk
    unfold spec_TakeVec.f
    simp only [spec_TakeVec.j0]
    rw [h1 _ (by omega), Option.bind_some, if_neg (by simp), if_pos (by trivial), if_neg (by simp)]
  | true =>
    obtain ⟨q1, q2, q3, q4, q5, q6⟩ := takeU32_true ht
    by_cases hv : v ≤ 50
    · obtain ⟨n, rfl⟩ := Int.eq_ofNat_of_zero_le q3
      obtain ⟨K, hK⟩ := sTakeVec_l0 s n e [] (by simp; omega)
      (try dsimp only at hK)
      refine ⟨K1 + K + 1, fun k hk => ?_⟩
      (try dsimp only)
      obtain ⟨k, rfl, hk'⟩ := within_lo hk
      unfold spec_TakeVec.f
      simp only [spec_TakeVec.j0]
      rw [h1 _ (by omega), Option.bind_some, if_pos (by trivial), if_neg (by simp; omega), hK k (by omega), if_pos ⟨by trivial, hv⟩, Int.toNat_natCast]
      cases tvL s n e <;> rfl
    · refine ⟨K1 + 1, fun k hk => ?_⟩
      (try dsimp only)
      obtain ⟨k, rfl, hk'⟩ := within_lo hk
      unfold spec_TakeVec.f
      simp only [spec_TakeVec.j0]
      rw [h1 _ (by omega), Option.bind_some, if_pos (by trivial), if_pos (by simp; omega), if_neg (by omega)]

theorem tvL_end (s : ByteArray) (n : Nat) : ∀ {a : Int} {x : List Int × Int}, tvL s n a = some x → x.1.length = n ∧ a ≤ x.2 ∧ (a ≤ s.size → x.2 ≤ s.size) := by
  induction n with
  | zero => intro a x h; simp only [tvL, Option.some.injEq] at h; subst h; exact ⟨rfl, Int.le_refl _, fun h => h⟩
  | succ n ih =>
    intro a x h
    simp only [tvL] at h
    rcases ht : takeU32 s a with ⟨v, e, ok⟩
    rw [ht] at h
    cases ok with
    | false => simp at h
    | true =>
      obtain ⟨q1, q2, q3, q4, q5, q6⟩ := takeU32_true ht
      simp only [if_true] at h
      cases hy : tvL s n e with
      | none => rw [hy] at h; simp at h
      | some y =>
        rw [hy] at h
        simp only [Option.map_some, Option.some.injEq] at h
        subst h
        obtain ⟨i1, i2, i3⟩ := ih hy
        exact ⟨by simp [i1], by dsimp only; omega, fun _ => i3 q6⟩
theorem takeVec_true {s : ByteArray} {a e : Int} {l : List Int} (h : takeVec s a = (l, e, true)) : l.length ≤ 50 ∧ a < e ∧ e ≤ s.size := by
  unfold takeVec at h
  rcases ht : takeU32 s a with ⟨v, e0, ok⟩
  rw [ht] at h
  by_cases hc : ok = true ∧ v ≤ 50
  · obtain ⟨rfl, hv⟩ := hc
    obtain ⟨q1, q2, q3, q4, q5, q6⟩ := takeU32_true ht
    rw [if_pos ⟨rfl, hv⟩] at h
    cases hy : tvL s v.toNat e0 with
    | none => dsimp only at h; rw [hy] at h; simp [tvR] at h
    | some y =>
      dsimp only at h
      rw [hy] at h
      simp only [tvR, Prod.mk.injEq, and_true] at h
      obtain ⟨rfl, rfl⟩ := h
      obtain ⟨i1, i2, i3⟩ := tvL_end s _ hy
      have := i3 q6
      exact ⟨by omega, by omega, this⟩
  · rw [if_neg hc] at h; simp at h
/-- What takeStep tells. -/
def stpV (s : ByteArray) (a : Int) : List Int × Int × Bool := if bt s a = 22 then takeVec s (a + 1) else ([], a + 1, true)
def stpR (s : ByteArray) (a : Int) : Int × Int × List Int × Int × Int :=
  if 1 ≤ bt s a ∧ bt s a ≤ 22 then
    (if hasNB (bt s a) = true then (if (stpV s a).2.2 = true then (if (takeU32 s (stpV s a).2.1).2.2 = true then (bt s a, (takeU32 s (stpV s a).2.1).1, (stpV s a).1, (takeU32 s (stpV s a).2.1).2.1, 0) else (bt s a, (takeU32 s (stpV s a).2.1).1, (stpV s a).1, 0, 1)) else (bt s a, 0, (stpV s a).1, 0, 1))
    else (if (stpV s a).2.2 = true then (bt s a, 0, (stpV s a).1, (stpV s a).2.1, 0) else (bt s a, 0, (stpV s a).1, 0, 1)))
  else (bt s a, 0, [], 0, 2)
theorem takeUi_ev (s : ByteArray) (hs : s.size ≤ 400) (a : Int) (h0 : 0 ≤ a) (h1 : a ≤ 1000000) : Ev (fun k => impl_takeU.f k s a) (takeU32 s a) := by
  have h := takeU_ev s (by omega) a h0 (by omega)
  have htu : takeU32 s a = tuR s a := by unfold takeU32; rw [if_pos ⟨by omega, h0⟩]
  rw [htu]; exact h
theorem stpV_end {s : ByteArray} {a : Int} (h1 : a < s.size) (hv : (stpV s a).2.2 = true) : (stpV s a).1.length ≤ 50 ∧ a < (stpV s a).2.1 ∧ (stpV s a).2.1 ≤ s.size := by
  unfold stpV at hv ⊢
  by_cases c : bt s a = 22
  · rw [if_pos c] at hv ⊢
    rcases ht : takeVec s (a + 1) with ⟨l, e, ok⟩
    rw [ht] at hv
    dsimp only at hv
    subst hv
    obtain ⟨i1, i2, i3⟩ := takeVec_true ht
    exact ⟨i1, by dsimp only; omega, i3⟩
  · rw [if_neg c]
    exact ⟨by simp, by dsimp only; omega, by dsimp only; omega⟩
theorem takeStep_ev (s : ByteArray) (hs : s.size ≤ 400) (a : Int) (h0 : 0 ≤ a) (h1 : a < s.size) : Ev (fun k => impl_takeStep.f k s a) (stpR s a) := by
  have hb := bt_range s a
  unfold impl_takeStep.f stpR
  rw [wrap64_id (x := bt s a) (by omega) (by omega), wrap64_id (x := a + 1) (by omega) (by omega)]
  simp only [within_eq, Option.bind_some]
  refine Ev.ite_pos h0 (Ev.ite_pos h1 ?_)
  by_cases hop : 1 ≤ bt s a ∧ bt s a ≤ 22
  rotate_left
  · rw [if_neg hop]
    exact Ev.ite_neg (by rw [decide_eq_false hop]; decide) (Ev.some rfl)
  rw [if_pos hop]
  refine Ev.ite_pos (decide_eq_true hop) ?_
  obtain ⟨op, hopd⟩ : ∃ op, op = bt s a := ⟨_, rfl⟩
  have fin : ∀ (v : List Int × Int × Bool), v = stpV s a → Ev (fun k => impl_takeStep.j0 k s v.2.1 v.2.2 (bt s a) 0 v.1) (if hasNB (bt s a) = true then (if (stpV s a).2.2 = true then (if (takeU32 s (stpV s a).2.1).2.2 = true then (bt s a, (takeU32 s (stpV s a).2.1).1, (stpV s a).1, (takeU32 s (stpV s a).2.1).2.1, 0) else (bt s a, (takeU32 s (stpV s a).2.1).1, (stpV s a).1, 0, 1)) else (bt s a, 0, (stpV s a).1, 0, 1))
    else (if (stpV s a).2.2 = true then (bt s a, 0, (stpV s a).1, (stpV s a).2.1, 0) else (bt s a, 0, (stpV s a).1, 0, 1))) := by
    intro v hv
    rw [← hv]
    have hve := stpV_end h1 (s := s)
    rw [← hv] at hve
    obtain ⟨l, e, ok⟩ := v
    dsimp only at hve ⊢
    rw [← hopd]
    have j1 : ∀ t, t = hasNB op → Ev (fun k => impl_takeStep.j1 k s e ok t op 0 l) (if hasNB op = true then (if ok = true then (if (takeU32 s e).2.2 = true then (op, (takeU32 s e).1, l, (takeU32 s e).2.1, 0) else (op, (takeU32 s e).1, l, 0, 1)) else (op, 0, l, 0, 1))
        else (if ok = true then (op, 0, l, e, 0) else (op, 0, l, 0, 1))) := by
      intro t ht
      refine Ev.succ ?_
      simp only [impl_takeStep.j1]
      by_cases hN : hasNB op = true
      · rw [if_pos hN]
        refine Ev.ite_pos (ht.trans hN) ?_
        by_cases hk : ok = true
        · rw [if_pos hk]
          obtain ⟨i1, i2, i3⟩ := hve hk
          refine Ev.ite_pos hk (Ev.bind (takeUi_ev s hs e (by omega) (by omega)) ?_)
          by_cases hu : (takeU32 s e).2.2 = true
          · exact Ev.ite_pos hu (Ev.some (by rw [if_pos hu]))
          · exact Ev.ite_neg hu (Ev.some (by rw [if_neg hu]))
        · rw [if_neg hk]; exact Ev.ite_neg hk (Ev.some rfl)
      · rw [if_neg hN]
        refine Ev.ite_neg (fun h => hN (ht.symm.trans h)) ?_
        by_cases hk : ok = true
        · exact Ev.ite_pos hk (Ev.some (by rw [if_pos hk]))
        · exact Ev.ite_neg hk (Ev.some (by rw [if_neg hk]))
    refine Ev.succ ?_
    simp only [impl_takeStep.j0]
    by_cases a1 : op = 1
    · exact Ev.ite_pos a1 (j1 _ (by rw [a1]; decide))
    refine Ev.ite_neg a1 ?_
    by_cases a2 : op = 2
    · exact Ev.ite_pos a2 (j1 _ (by rw [a2]; decide))
    refine Ev.ite_neg a2 ?_
    by_cases a3 : op = 3
    · exact Ev.ite_pos a3 (j1 _ (by rw [a3]; decide))
    refine Ev.ite_neg a3 ?_
    by_cases a4 : op = 20
    · exact Ev.ite_pos a4 (j1 _ (by rw [a4]; decide))
    refine Ev.ite_neg a4 ?_
    by_cases a5 : op = 21
    · exact Ev.ite_pos a5 (j1 _ (by rw [a5]; decide))
    refine Ev.ite_neg a5 (j1 _ ?_)
    unfold hasNB
    rw [beq_dec, decide_eq_decide]; omega
  by_cases c : bt s a = 22
  · refine Ev.ite_pos c (Ev.bind (takeVeci_ev s (by omega) (a + 1) (by omega) (by omega)) ?_)
    exact fin (takeVec s (a + 1)) (by unfold stpV; rw [if_pos c])
  · refine Ev.ite_neg c ?_
    exact fin ([], a + 1, true) (by unfold stpV; rw [if_neg c])
theorem read_both (s : ByteArray) (hs : s.size ≤ 400) : ∀ (n : Nat) (a : Int) (out : List S56), 0 ≤ a → a ≤ s.size → (s.size : Int) - a ≤ n → (out.length : Int) ≤ a → (∀ x ∈ out, x.f2.length ≤ 50) →
    ∃ r, Ev (fun k => spec_ReadSteps.l0 k s out a) r ∧ Ev (fun k => impl_ReadSteps.l0 k s out a) r ∧ r.1.length ≤ 400 ∧ ∀ x ∈ r.1, x.f2.length ≤ 50 := by
  intro n
  induction n with
  | zero =>
    intro a out h0 h1 h2 h3 h4
    have hg1 : out.length ≤ 1048576 := by omega
    have hg2 : ∀ x ∈ out, x.f2.length ≤ 1048576 := fun x hx => by have := h4 x hx; omega
    by_cases hg : (shapeR out).isSome = true
    · refine ⟨(out, 0, true), Ev.succ ?_, Ev.succ ?_, by dsimp only; omega, h4⟩
      · simp only [spec_ReadSteps.l0]
        exact Ev.ite_neg (by omega) (Ev.bind (spGoodSteps_ev out hg1 hg2) (Ev.ite_pos hg (Ev.some rfl)))
      · simp only [impl_ReadSteps.l0]
        exact Ev.ite_neg (by omega) (Ev.bind (imGoodSteps_ev out hg1 hg2) (Ev.ite_pos hg (Ev.some rfl)))
    · refine ⟨([], 3, false), Ev.succ ?_, Ev.succ ?_, by simp, by simp⟩
      · simp only [spec_ReadSteps.l0]
        exact Ev.ite_neg (by omega) (Ev.bind (spGoodSteps_ev out hg1 hg2) (Ev.ite_neg hg (Ev.some rfl)))
      · simp only [impl_ReadSteps.l0]
        exact Ev.ite_neg (by omega) (Ev.bind (imGoodSteps_ev out hg1 hg2) (Ev.ite_neg hg (Ev.some rfl)))
  | succ n ih =>
    intro a out h0 h1 h2 h3 h4
    by_cases hlt : a < s.size
    rotate_left
    · exact Classical.byContradiction fun hc => hlt (by
        exfalso
        apply hc
        have hg1 : out.length ≤ 1048576 := by omega
        have hg2 : ∀ x ∈ out, x.f2.length ≤ 1048576 := fun x hx => by have := h4 x hx; omega
        by_cases hg : (shapeR out).isSome = true
        · refine ⟨(out, 0, true), Ev.succ ?_, Ev.succ ?_, by dsimp only; omega, h4⟩
          · simp only [spec_ReadSteps.l0]
            exact Ev.ite_neg (by omega) (Ev.bind (spGoodSteps_ev out hg1 hg2) (Ev.ite_pos hg (Ev.some rfl)))
          · simp only [impl_ReadSteps.l0]
            exact Ev.ite_neg (by omega) (Ev.bind (imGoodSteps_ev out hg1 hg2) (Ev.ite_pos hg (Ev.some rfl)))
        · refine ⟨([], 3, false), Ev.succ ?_, Ev.succ ?_, by simp, by simp⟩
          · simp only [spec_ReadSteps.l0]
            exact Ev.ite_neg (by omega) (Ev.bind (spGoodSteps_ev out hg1 hg2) (Ev.ite_neg hg (Ev.some rfl)))
          · simp only [impl_ReadSteps.l0]
            exact Ev.ite_neg (by omega) (Ev.bind (imGoodSteps_ev out hg1 hg2) (Ev.ite_neg hg (Ev.some rfl))))
    have hb := bt_range s a
    have hts := takeStep_ev s hs a h0 hlt
    have hve := stpV_end hlt (s := s)
    have bad : ∀ c : Int, c ≠ 0 → (stpR s a).2.2.2.2 = c → Ev (fun k => impl_ReadSteps.l0 k s out a) ([], c, false) := fun c hc he => by
      refine Ev.succ ?_
      simp only [impl_ReadSteps.l0]
      exact Ev.ite_pos hlt (Ev.bind hts (Ev.ite_neg (by omega) (Ev.some (by rw [he]))))
    have spec0 : ∀ r, (if 1 ≤ bt s a ∧ bt s a ≤ 22 then (if (stpV s a).2.2 = true then Ev (fun k => spec_ReadSteps.j1 k s out (stpV s a).2.1 (bt s a) 0 (stpV s a).1) r else r = ([], 1, false)) else r = ([], 2, false)) → Ev (fun k => spec_ReadSteps.l0 k s out a) r := fun r hr => by
      refine Ev.succ ?_
      simp only [spec_ReadSteps.l0]
      rw [wrap64_id (x := bt s a) (by omega) (by omega), wrap64_id (x := a + 1) (by omega) (by omega)]
      simp only [l1In_eq, Option.bind_some]
      refine Ev.ite_pos hlt (Ev.ite_pos h0 ?_)
      by_cases hop : 1 ≤ bt s a ∧ bt s a ≤ 22
      rotate_left
      · rw [if_neg hop] at hr
        exact Ev.ite_neg (by rw [decide_eq_false hop]; decide) (Ev.some hr.symm)
      rw [if_pos hop] at hr
      refine Ev.ite_pos (decide_eq_true hop) ?_
      by_cases c : bt s a = 22
      · refine Ev.ite_pos c (Ev.bind (sTakeVec_ev s (a + 1)) ?_)
        have hv : stpV s a = takeVec s (a + 1) := by unfold stpV; rw [if_pos c]
        rw [hv] at hr
        by_cases hk : (takeVec s (a + 1)).2.2 = true
        · rw [if_pos hk] at hr; exact Ev.ite_pos hk hr
        · rw [if_neg hk] at hr; exact Ev.ite_neg hk (Ev.some hr.symm)
      · have hv : stpV s a = ([], a + 1, true) := by unfold stpV; rw [if_neg c]
        rw [hv, if_pos rfl] at hr
        exact Ev.ite_neg c hr
    by_cases hop : 1 ≤ bt s a ∧ bt s a ≤ 22
    rotate_left
    · refine ⟨([], 2, false), spec0 _ (by rw [if_neg hop]), bad 2 (by decide) (by unfold stpR; rw [if_neg hop]), by simp, by simp⟩
    by_cases hk : (stpV s a).2.2 = true
    rotate_left
    · refine ⟨([], 1, false), spec0 _ (by rw [if_pos hop, if_neg hk]), bad 1 (by decide) ?_, by simp, by simp⟩
      unfold stpR
      rw [if_pos hop, if_neg hk, if_neg hk]
      split <;> rfl
    obtain ⟨i1, i2, i3⟩ := hve hk
    have push : ∀ (m e : Int), a < e → e ≤ s.size → stpR s a = (bt s a, m, (stpV s a).1, e, 0) →
        (∀ r, Ev (fun k => spec_ReadSteps.l0 k s (out ++ [(⟨bt s a, m, (stpV s a).1⟩ : S56)]) e) r → Ev (fun k => spec_ReadSteps.j1 k s out (stpV s a).2.1 (bt s a) 0 (stpV s a).1) r) →
        ∃ r, Ev (fun k => spec_ReadSteps.l0 k s out a) r ∧ Ev (fun k => impl_ReadSteps.l0 k s out a) r ∧ r.1.length ≤ 400 ∧ ∀ x ∈ r.1, x.f2.length ≤ 50 := fun m e he1 he2 hst hsp => by
      obtain ⟨r, r1, r2, r3⟩ := ih e (out ++ [(⟨bt s a, m, (stpV s a).1⟩ : S56)]) (by omega) he2 (by omega) (by rw [List.length_append, List.length_singleton]; omega) (fun x hx => by
        rcases List.mem_append.1 hx with hx | hx
        · exact h4 x hx
        · rw [List.mem_singleton.1 hx]; exact i1)
      refine ⟨r, spec0 _ (by rw [if_pos hop, if_pos hk]; exact hsp r r1), Ev.succ ?_, r3⟩
      simp only [impl_ReadSteps.l0]
      rw [hst] at hts
      exact Ev.ite_pos hlt (Ev.bind hts (Ev.ite_pos (by trivial) (Ev.ite_pos (by omega) r2)))
    by_cases hN : hasNB (bt s a) = true
    · rcases hu : takeU32 s (stpV s a).2.1 with ⟨v, e, ok⟩
      cases ok with
      | false =>
        refine ⟨([], 1, false), spec0 _ ?_, bad 1 (by decide) ?_, by simp, by simp⟩
        · rw [if_pos hop, if_pos hk]
          refine Ev.succ ?_
          simp only [spec_ReadSteps.j1, l3HasN_eq, Option.bind_some]
          have h := sTakeU32_ev s (stpV s a).2.1
          rw [hu] at h
          exact Ev.ite_pos hN (Ev.bind h (Ev.ite_neg (by simp) (Ev.some rfl)))
        · unfold stpR
          rw [if_pos hop, if_pos hN, if_pos hk, hu]
          rfl
      | true =>
        obtain ⟨q1, q2, q3, q4, q5, q6⟩ := takeU32_true hu
        refine push v e (by omega) q6 ?_ fun r hr => ?_
        · unfold stpR
          rw [if_pos hop, if_pos hN, if_pos hk, hu]
          rfl
        · refine Ev.succ ?_
          simp only [spec_ReadSteps.j1, l3HasN_eq, Option.bind_some]
          have h := sTakeU32_ev s (stpV s a).2.1
          rw [hu] at h
          exact Ev.ite_pos hN (Ev.bind h (Ev.ite_pos rfl (Ev.ite_pos (by omega) hr)))
    · refine push 0 (stpV s a).2.1 i2 i3 ?_ fun r hr => ?_
      · unfold stpR
        rw [if_pos hop, if_neg hN, if_pos hk]
      · refine Ev.succ ?_
        simp only [spec_ReadSteps.j1, l3HasN_eq, Option.bind_some]
        exact Ev.ite_neg hN (Ev.ite_pos (by omega) hr)
theorem readSteps_both (s : ByteArray) : ∃ r, Ev (fun k => spec_ReadSteps.f k s) r ∧ Ev (fun k => impl_ReadSteps.f k s) r ∧ r.1.length ≤ 400 ∧ ∀ x ∈ r.1, x.f2.length ≤ 50 := by
  unfold spec_ReadSteps.f impl_ReadSteps.f
  by_cases h : (s.size : Int) > 400
  · exact ⟨([], 0, false), Ev.ite_pos h (Ev.some rfl), Ev.ite_pos h (Ev.some rfl), by simp, by simp⟩
  · obtain ⟨r, r1, r2, r3⟩ := read_both s (by omega) s.size 0 [] (by omega) (by omega) (by omega) (by simp) (by simp)
    exact ⟨r, Ev.ite_neg h r1, Ev.ite_neg h r2, r3⟩

theorem markIntS_l0 (q : List Int) : ∀ (p : List Int) (a : Int), p.length + q.length ≤ 1000000000000000 → -1000000000000000 ≤ a → a + q.length ≤ 1000000000000000000 → Ev (fun k => laws_markIntS.l0 k (p ++ q) a (p.length : Int)) (a + q.length, p ++ upI a q.length) := by
  induction q with
  | nil =>
    intro p a h0 h1 h2
    refine ⟨1, fun k hk => ?_⟩
    (try dsimp only)
    obtain ⟨k, rfl⟩ : ∃ m, k = m + 1 := ⟨k - 1, by omega⟩
    simp only [laws_markIntS.l0]
    rw [if_neg (by simp)]; simp [upI]
  | cons x q ih =>
    intro p a h0 h1 h2
    simp only [List.length_cons] at h0 h2
    obtain ⟨K, hK⟩ := ih (p ++ [a]) (a + 1) (by simp; omega) (by omega) (by omega)
    (try dsimp only at hK)
    refine ⟨K + 1, fun k hk => ?_⟩
    (try dsimp only)
    obtain ⟨k, rfl, hk'⟩ := within_lo hk
    simp only [laws_markIntS.l0]
    have hK' := hK k hk'
    simp only [List.append_assoc, List.cons_append, List.nil_append] at hK'
    have e1 : wrap64 ((p.length : Int) + 1) = ((p ++ [a]).length : Int) := by
      rw [wrap64_id (by omega) (by omega)]; simp
    rw [if_pos (by simp; omega), if_pos (by omega), Int.toNat_natCast, set_mid, e1, wrap64_id (by omega) (by omega), hK']
    simp only [upI, List.length_cons]
    rw [show a + 1 + (q.length : Int) = a + ((q.length + 1 : Nat) : Int) from by omega]
theorem markIntS_ev (l : List Int) (a : Int) (h0 : l.length ≤ 1000000000000000) (h1 : -1000000000000000 ≤ a) (h2 : a + l.length ≤ 1000000000000000000) : Ev (fun k => laws_markIntS.f k l a) (a + l.length, upI a l.length) :=
  markIntS_l0 l [] a (by simpa using h0) h1 h2

theorem heldIntS_l0 (n : Nat) : ∀ (p : List Int) (a : Int), p.length + n ≤ 1000000000000000 → -1000000000000000 ≤ a → a + n ≤ 1000000000000000000 → Ev (fun k => laws_heldIntS.l0 k (p ++ upI a n) a (p.length : Int)) (a + n) := by
  induction n with
  | zero =>
    intro p a h0 h1 h2
    refine ⟨1, fun k hk => ?_⟩
    (try dsimp only)
    obtain ⟨k, rfl⟩ : ∃ m, k = m + 1 := ⟨k - 1, by omega⟩
    simp only [laws_heldIntS.l0]
    rw [if_neg (by simp [upI])]; simp
  | succ n ih =>
    intro p a h0 h1 h2
    obtain ⟨K, hK⟩ := ih (p ++ [a]) (a + 1) (by simp; omega) (by omega) (by omega)
    (try dsimp only at hK)
    refine ⟨K + 1, fun k hk => ?_⟩
    (try dsimp only)
    obtain ⟨k, rfl, hk'⟩ := within_lo hk
    rw [laws_heldIntS.l0, show upI a (n + 1) = a :: upI (a + 1) n from rfl]
    have hK' := hK k hk'
    simp only [List.append_assoc, List.cons_append, List.nil_append] at hK'
    have e1 : wrap64 ((p.length : Int) + 1) = ((p ++ [a]).length : Int) := by
      rw [wrap64_id (by omega) (by omega)]; simp
    rw [if_pos (by simp <;> omega), if_pos (by omega), rd_mid, if_pos rfl, e1, wrap64_id (by omega) (by omega), hK']
    congr 1; omega
theorem heldIntS_ev (n : Nat) (a : Int) (h0 : n ≤ 1000000000000000) (h1 : -1000000000000000 ≤ a) (h2 : a + n ≤ 1000000000000000000) : Ev (fun k => laws_heldIntS.f k (upI a n) a) (a + n) :=
  heldIntS_l0 n [] a (by simpa using h0) h1 h2

/-- What marks leave of a row of steps, and where they end. -/
def mkS : Int → List S56 → List S56
  | _, [] => []
  | a, x :: q => ⟨a, a + 1, upI (a + 2) x.f2.length⟩ :: mkS (a + 2 + x.f2.length) q
def mkN : Int → List S56 → Int
  | a, [] => a
  | a, x :: q => mkN (a + 2 + x.f2.length) q
theorem mkN_ge (q : List S56) : ∀ a, a ≤ mkN a q := by
  induction q with
  | nil => intro a; exact Int.le_refl a
  | cons x q ih => intro a; rw [mkN]; have := ih (a + 2 + x.f2.length); omega
theorem markStepS_ev (q : List S56) : ∀ (p : List S56) (a : Int), p.length + q.length ≤ 1048576 → (∀ x ∈ q, x.f2.length ≤ 1048576) → 0 ≤ a → a + (q.length : Int) * 1048580 ≤ 1000000000000000 →
    Ev (fun k => laws_markStepS.l0 k (p ++ q) a (p.length : Int)) (mkN a q, p ++ mkS a q) := by
  induction q with
  | nil =>
    intro p a h0 h1 h2 h3
    refine Ev.succ ?_
    simp only [laws_markStepS.l0]
    exact Ev.ite_neg (by simp) (Ev.some (by simp [mkN, mkS]))
  | cons x q ih =>
    intro p a h0 h1 h2 h3
    simp only [List.length_cons] at h0 h3
    have hx := h1 x (by simp)
    have hr : rd_T56 (p ++ x :: q) (p.length : Int) = x := by unfold rd_T56; exact getD_mid _ _ _ _
    refine Ev.succ ?_
    simp only [laws_markStepS.l0, hr]
    refine Ev.ite_pos (by simp; omega) (Ev.ite_pos (by omega) ?_)
    rw [wrap64_id (x := a + 1) (by omega) (by omega), wrap64_id (x := a + 1 + 1) (by omega) (by omega), show a + 1 + 1 = a + 2 by omega]
    refine Ev.bind (markIntS_ev x.f2 (a + 2) (by omega) (by omega) (by omega)) ?_
    dsimp only
    rw [Int.toNat_natCast, set_mid, wrap_succ (by omega)]
    have := ih (p ++ [⟨a, a + 1, upI (a + 2) x.f2.length⟩]) (a + 2 + x.f2.length) (by simp; omega) (fun y hy => h1 y (by simp [hy])) (by omega) (by omega)
    rw [List.append_assoc, List.length_append] at this
    rw [mkN, mkS]
    exact Ev.cast this (by simp)
theorem markStepSF_ev (q : List S56) (h0 : q.length ≤ 1048576) (h1 : ∀ x ∈ q, x.f2.length ≤ 1048576) : Ev (fun k => laws_markStepS.f k q 1) (mkN 1 q, mkS 1 q) := by
  unfold laws_markStepS.f
  exact markStepS_ev q [] 1 (by simpa using h0) h1 (by omega) (by omega)

theorem heldStepS_ev (q : List S56) : ∀ (p : List S56) (a : Int), p.length + q.length ≤ 1048576 → (∀ x ∈ q, x.f2.length ≤ 1048576) → 0 ≤ a → a + (q.length : Int) * 1048580 ≤ 1000000000000000 →
    Ev (fun k => laws_heldStepS.l0 k (p ++ mkS a q) a (p.length : Int)) (mkN a q) := by
  induction q with
  | nil =>
    intro p a h0 h1 h2 h3
    refine Ev.succ ?_
    simp only [laws_heldStepS.l0]
    exact Ev.ite_neg (by simp [mkS]) (Ev.some rfl)
  | cons x q ih =>
    intro p a h0 h1 h2 h3
    simp only [List.length_cons] at h0 h3
    have hx := h1 x (by simp)
    rw [mkS]
    have hr : rd_T56 (p ++ ⟨a, a + 1, upI (a + 2) x.f2.length⟩ :: mkS (a + 2 + x.f2.length) q) (p.length : Int) = ⟨a, a + 1, upI (a + 2) x.f2.length⟩ := by unfold rd_T56; exact getD_mid _ _ _ _
    refine Ev.succ ?_
    simp only [laws_heldStepS.l0, hr]
    refine Ev.ite_pos (by simp <;> omega) (Ev.ite_pos (by omega) (Ev.ite_pos (by trivial) ?_))
    rw [wrap64_id (x := a + 1) (by omega) (by omega), wrap64_id (x := a + 1 + 1) (by omega) (by omega), show a + 1 + 1 = a + 2 by omega]
    refine Ev.ite_pos (by trivial) (Ev.bind (heldIntS_ev x.f2.length (a + 2) (by omega) (by omega) (by omega)) (Ev.ite_neg (by omega) ?_))
    rw [wrap_succ (by omega)]
    have := ih (p ++ [⟨a, a + 1, upI (a + 2) x.f2.length⟩]) (a + 2 + x.f2.length) (by simp; omega) (fun y hy => h1 y (by simp [hy])) (by omega) (by omega)
    rw [List.append_assoc, List.length_append] at this
    rw [mkN]
    exact this
theorem heldStepSF_ev (q : List S56) (h0 : q.length ≤ 1048576) (h1 : ∀ x ∈ q, x.f2.length ≤ 1048576) : Ev (fun k => laws_heldStepS.f k (mkS 1 q) 1) (mkN 1 q) := by
  unfold laws_heldStepS.f
  exact heldStepS_ev q [] 1 (by simpa using h0) h1 (by omega) (by omega)

theorem eqIntS_l0 (d : Nat) : ∀ (p p' q q' : List Int), p.length = p'.length → q.length = d → q'.length = d → p.length + d ≤ 1000000000000000 → Ev (fun k => laws_eqIntS.l0 k (p ++ q) (p' ++ q') (p.length : Int)) (decide (q = q')) := by
  induction d with
  | zero =>
    intro p p' q q' hp hq hq' hb
    obtain rfl : q = [] := by simpa using hq
    obtain rfl : q' = [] := by simpa using hq'
    refine ⟨1, fun k hk => ?_⟩
    (try dsimp only)
    obtain ⟨k, rfl⟩ : ∃ m, k = m + 1 := ⟨k - 1, by omega⟩
    simp only [laws_eqIntS.l0]
    rw [if_neg (by simp)]; rfl
  | succ d ih =>
    intro p p' q q' hp hq hq' hb
    match q, q', hq, hq' with
    | x :: q, y :: q', hq, hq' =>
      simp only [List.length_cons] at hq hq'
      have r1 := rd_mid p q x
      have r2 := rd_mid p' q' y
      rw [← hp] at r2
      have e1 : wrap64 ((p.length : Int) + 1) = ((p ++ [x]).length : Int) := by
        rw [wrap64_id (by omega) (by omega)]; simp
      by_cases hxy : x = y
      · subst hxy
        obtain ⟨K, hK⟩ := ih (p ++ [x]) (p' ++ [x]) q q' (by simp [hp]) (by omega) (by omega) (by simp; omega)
        (try dsimp only at hK)
        refine ⟨K + 1, fun k hk => ?_⟩
        (try dsimp only)
        obtain ⟨k, rfl, hk'⟩ := within_lo hk
        simp only [laws_eqIntS.l0]
        have hK' := hK k hk'
        simp only [List.append_assoc, List.cons_append, List.nil_append] at hK'
        rw [if_pos (by simp; omega), if_pos (by omega), if_pos (by simp; omega), r1, r2, if_pos rfl, e1, hK']
        simp
      · refine ⟨1, fun k hk => ?_⟩
        (try dsimp only)
        obtain ⟨k, rfl⟩ : ∃ m, k = m + 1 := ⟨k - 1, by omega⟩
        simp only [laws_eqIntS.l0]
        rw [if_pos (by simp; omega), if_pos (by omega), if_pos (by simp; omega), r1, r2, if_neg hxy]
        simp [hxy]
theorem eqIntS_ev (a b : List Int) (h : a.length ≤ 1000000000000000) : Ev (fun k => laws_eqIntS.f k a b) (decide (a = b)) := by
  by_cases hl : a.length = b.length
  · obtain ⟨K, hK⟩ := eqIntS_l0 a.length [] [] a b rfl rfl hl.symm (by simpa using h)
    (try dsimp only at hK)
    refine ⟨K, fun k hk => ?_⟩
    (try dsimp only)
    unfold laws_eqIntS.f
    rw [if_pos (by omega)]
    exact hK k hk
  · refine ⟨0, fun k _ => ?_⟩
    (try dsimp only)
    unfold laws_eqIntS.f
    rw [if_neg (by omega)]
    congr 1; symm
    rw [decide_eq_false_iff_not]
    rintro rfl; exact hl rfl

theorem eqStepS_ev (a b : List S56) (h : a.length ≤ 1000000000000000) (hx : ∀ x ∈ a, x.f2.length ≤ 1000000000000000) (hab : a = b) : Ev (fun k => laws_eqStepS.f k a b) true := by
  subst hab
  unfold laws_eqStepS.f
  refine Ev.ite_pos rfl ?_
  refine Ev.rangeI a (fun k (_ : Unit) i => laws_eqStepS.l0 k a a i) (fun _ _ _ => true) (fun _ p => True) (fun _ hp => ?_) (fun _ p x q e hp ih => ?_) () trivial
  · refine Ev.succ ?_
    simp only [laws_eqStepS.l0]
    exact Ev.ite_neg (by omega) (Ev.some rfl)
  · refine Ev.succ ?_
    simp only [laws_eqStepS.l0]
    have hlen : p.length < a.length := by rw [e]; simp
    have hrd : rd_T56 a (p.length : Int) = x := by unfold rd_T56; rw [e]; exact getD_mid _ _ _ _
    refine Ev.ite_pos (by omega) (Ev.ite_pos (by omega) (Ev.ite_pos (by omega) ?_))
    rw [hrd]
    have h1 : Ev (fun k => laws_eqStep.f k x.f0 x.f1 x.f2 x.f0 x.f1 x.f2) true := by
      unfold laws_eqStep.f
      refine Ev.ite_pos rfl (Ev.ite_pos rfl (Ev.bind (eqIntS_ev x.f2 x.f2 (hx x (by rw [e]; simp))) (Ev.ite_pos (by simp) (Ev.some rfl))))
    refine Ev.bind h1 (Ev.ite_pos rfl ?_)
    rw [wrap_succ (by omega)]
    exact ih () trivial

theorem FnExactReadSteps : laws_FnExactReadSteps.Pure := by
  intro a ha
  refine Ev.rounds (g := fun k => laws_FnExactReadSteps.f k a) ?_
  unfold laws_FnExactReadSteps.f
  by_cases hn : (a.size : Int) > 1048576
  · exact Ev.ite_pos hn (Ev.now _)
  · obtain ⟨r, sp, im, h1, h2⟩ := readSteps_both a
    have g1 : r.1.length ≤ 1048576 := by omega
    have g2 : ∀ x ∈ r.1, x.f2.length ≤ 1048576 := fun x hx => by have := h2 x hx; omega
    have eq := eqStepS_ev r.1 r.1 (by omega) (fun x hx => by have := h2 x hx; omega) rfl
    have mk := mkN_ge r.1 1
    refine Ev.ite_neg hn (Ev.bind sp (Ev.bind im (Ev.bind eq (Ev.ite_pos rfl (Ev.ite_pos rfl (Ev.ite_pos rfl (Ev.bind (markStepSF_ev _ g1 g2) (Ev.bind (heldStepSF_ev _ g1 g2) (Ev.ite_neg (by omega) (Ev.ite_pos rfl ?_))))))))))
    exact Ev.bind im (Ev.bind eq (Ev.ite_pos rfl (Ev.ite_pos rfl (Ev.ite_pos rfl (Ev.bind (heldStepSF_ev _ g1 g2) (Ev.ite_neg (by omega) (Ev.ite_pos rfl (Ev.now _))))))))

end Go.Proofs.Ytmljikgegclolaa.Pure
