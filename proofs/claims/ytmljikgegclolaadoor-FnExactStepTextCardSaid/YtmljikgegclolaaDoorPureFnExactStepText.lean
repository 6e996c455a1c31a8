/- Of all steps the law of steptext tells true. No condition beyond the row's own. -/
import Derived.Test.YtmljikgegclolaaDoorQ1
import Derived.Test.YtmljikgegclolaaDoorQ2
import Derived.Test.YtmljikgegclolaaDoorQ3
import Derived.Test.YtmljikgegclolaaDoorQ4
import Derived.Test.YtmljikgegclolaaDoorQ5
import Derived.Test.YtmljikgegclolaaDoorQ6
import Derived.Test.YtmljikgegclolaaDoorLib1
import Derived.Test.YtmljikgegclolaaDoorLib2
namespace Go.Proofs.YtmljikgegclolaaDoor.Pure
open Go.RowKit Go.Proofs.YtmljikgegclolaaDoor.Lib Go.Proofs.YtmljikgegclolaaDoor.Q Go.Proofs.YtmljikgegclolaaDoorW.PrintWords Go.Proofs.YtmljikgegclolaaDoorW.PrintLast Go.Proofs.YtmljikgegclolaaDoorW.PrintMore
set_option linter.unusedVariables false
set_option linter.unusedSimpArgs false

theorem toIntS_l0 (q : List Int) : ∀ (p : List Int), p.length + q.length ≤ 1000000000000000 → Ev (fun k => laws_toIntS.l0 k (p ++ q) (p ++ List.replicate q.length 0) (p.length : Int)) (p ++ q) := by
  induction q with
  | nil =>
    intro p h0
    refine ⟨1, fun k hk => ?_⟩
    (try dsimp only)
    obtain ⟨k, rfl⟩ : ∃ m, k = m + 1 := ⟨k - 1, by omega⟩
    simp only [laws_toIntS.l0]
    rw [if_neg (by simp)]; simp
  | cons x q ih =>
    intro p h0
    simp only [List.length_cons] at h0
    obtain ⟨K, hK⟩ := ih (p ++ [x]) (by simp; omega)
    (try dsimp only at hK)
    refine ⟨K + 1, fun k hk => ?_⟩
    (try dsimp only)
    obtain ⟨k, rfl, hk'⟩ := within_lo hk
    simp only [laws_toIntS.l0]
    have hK' := hK k hk'
    simp only [List.append_assoc, List.cons_append, List.nil_append] at hK'
    have e1 : wrap64 ((p.length : Int) + 1) = ((p ++ [x]).length : Int) := by
      rw [wrap64_id (by omega) (by omega)]; simp
    rw [if_pos (by simp; omega), if_pos (by omega), if_pos (by simp; omega), Int.toNat_natCast, rd_mid, List.length_cons, List.replicate_succ, set_mid, e1, hK']
theorem toIntS_ev (l : List Int) (h : l.length ≤ 1048576) : Ev (fun k => laws_toIntS.f k l) l := by
  obtain ⟨K, hK⟩ := toIntS_l0 l [] (by simp; omega)
  (try dsimp only at hK)
  refine ⟨K, fun k hk => ?_⟩
  (try dsimp only)
  unfold laws_toIntS.f
  rw [if_pos (by omega), if_pos (by omega), Int.toNat_natCast]
  exact hK k hk

theorem eqIntS_l0 (d : Nat) : ∀ (p p' q q' : List Int), p.length = p'.length → q.length = d → q'.length = d → p.length + d ≤ 1000000000000000 → Ev (fun k => laws_eqIntS.l0 k (p ++ q) (p' ++ q') (p.length : Int)) (decide (q = q')) := by
  induction d with
  | zero =>
    intro p p' q q' hp hq hq' hb
    obtain rfl : q = [] := by simpa using hq
    obtain rfl : q' = [] := by simpa using hq'
    refine ⟨1, fun k hk => ?_⟩
    (try dsimp only)
    obtain ⟨k, rfl⟩ : ∃ m, k = m + 1 := ⟨k - 1, by omega⟩
    simp only [laws_eqIntS.l0]
    rw [if_neg (by simp)]; rfl
  | succ d ih =>
    intro p p' q q' hp hq hq' hb
    match q, q', hq, hq' with
    | x :: q, y :: q', hq, hq' =>
      simp only [List.length_cons] at hq hq'
      have r1 := rd_mid p q x
      have r2 := rd_mid p' q' y
      rw [← hp] at r2
      have e1 : wrap64 ((p.length : Int) + 1) = ((p ++ [x]).length : Int) := by
        rw [wrap64_id (by omega) (by omega)]; simp
      by_cases hxy : x = y
      · subst hxy
        obtain ⟨K, hK⟩ := ih (p ++ [x]) (p' ++ [x]) q q' (by simp [hp]) (by omega) (by omega) (by simp; omega)
        (try dsimp only at hK)
        refine ⟨K + 1, fun k hk => ?_⟩
        (try dsimp only)
        obtain ⟨k, rfl, hk'⟩ := within_lo hk
        simp only [laws_eqIntS.l0]
        have hK' := hK k hk'
        simp only [List.append_assoc, List.cons_append, List.nil_append] at hK'
        rw [if_pos (by simp; omega), if_pos (by omega), if_pos (by simp; omega), r1, r2, if_pos rfl, e1, hK']
        simp
      · refine ⟨1, fun k hk => ?_⟩
        (try dsimp only)
        obtain ⟨k, rfl⟩ : ∃ m, k = m + 1 := ⟨k - 1, by omega⟩
        simp only [laws_eqIntS.l0]
        rw [if_pos (by simp; omega), if_pos (by omega), if_pos (by simp; omega), r1, r2, if_neg hxy]
        simp [hxy]
theorem eqIntS_ev (a b : List Int) (h : a.length ≤ 1000000000000000) : Ev (fun k => laws_eqIntS.f k a b) (decide (a = b)) := by
  by_cases hl : a.length = b.length
  · obtain ⟨K, hK⟩ := eqIntS_l0 a.length [] [] a b rfl rfl hl.symm (by simpa using h)
    (try dsimp only at hK)
    refine ⟨K, fun k hk => ?_⟩
    (try dsimp only)
    unfold laws_eqIntS.f
    rw [if_pos (by omega)]
    exact hK k hk
  · refine ⟨0, fun k _ => ?_⟩
    (try dsimp only)
    unfold laws_eqIntS.f
    rw [if_neg (by omega)]
    congr 1; symm
    rw [decide_eq_false_iff_not]
    rintro rfl; exact hl rfl

theorem l1In_eq (a b c : Int) : spec_l1In.f a b c = some (decide (b ≤ a ∧ a ≤ c)) := by
  unfold spec_l1In.f
  by_cases h : a ≥ b
  · rw [if_pos h]; simp [show b ≤ a from h]
  · rw [if_neg h]; simp; omega

theorem within_eq (a b c : Int) : impl_within.f a b c = some (decide (b ≤ a ∧ a ≤ c)) := by
  unfold impl_within.f
  by_cases h : a ≥ b
  · rw [if_pos h]; simp [show b ≤ a from h]
  · rw [if_neg h]; simp; omega

theorem findIdx_any {α : Type} (p : α → Bool) (l : List α) : decide ((match l.findIdx? p with | some j => (j : Int) | none => -1) ≥ 0) = l.any p := by
  rw [Bool.eq_iff_iff, decide_eq_true_iff, List.any_eq_true]
  cases hf : l.findIdx? p with
  | none =>
    rw [List.findIdx?_eq_none_iff] at hf
    constructor
    · intro h; simp only [ge_iff_le] at h; omega
    · rintro ⟨x, hx, h⟩; rw [hf x hx] at h; simp at h
  | some j =>
    constructor
    · intro _
      obtain ⟨hj, h1, _⟩ := List.findIdx?_eq_some_iff_getElem.mp hf
      exact ⟨l[j], List.getElem_mem hj, h1⟩
    · intro _; simp only [ge_iff_le]; omega
/-- A loop that looks for the first element that is so. -/
theorem Ev.index {α : Type} (l : List α) (F : Nat → Int → Option Int) (pr : α → Bool)
    (h0 : Ev (fun k => F k (l.length : Int)) (-1))
    (hs : ∀ p x q, l = p ++ x :: q → pr x = true → Ev (fun k => F k (p.length : Int)) (p.length : Int))
    (hn : ∀ p x q r, l = p ++ x :: q → pr x = false → Ev (fun k => F k ((p.length : Int) + 1)) r → Ev (fun k => F k (p.length : Int)) r) :
    Ev (fun k => F k 0) (match l.findIdx? pr with | some j => (j : Int) | none => -1) := by
  have main : ∀ (q p : List α), l = p ++ q → Ev (fun k => F k (p.length : Int)) (match q.findIdx? pr with | some j => ((p.length + j : Nat) : Int) | none => -1) := by
    intro q
    induction q with
    | nil => intro p e; rw [e, List.append_nil] at h0; exact h0
    | cons x q ih =>
      intro p e
      cases hx : pr x with
      | true =>
        have := hs p x q e hx
        rw [List.findIdx?_cons, hx]; simpa using this
      | false =>
        have := ih (p ++ [x]) (by rw [e]; simp)
        have e2 : ((p ++ [x]).length : Int) = (p.length : Int) + 1 := by simp
        rw [e2] at this
        have := hn p x q _ e hx this
        rw [List.findIdx?_cons, hx]
        refine Ev.cast this ?_
        cases q.findIdx? pr with
        | none => rfl
        | some j => simp; omega
  have := main l [] rfl
  refine Ev.cast this ?_
  cases l.findIdx? pr with
  | none => rfl
  | some j => simp

/-- Whether a number is a depth. -/
def depthB (x : Int) : Bool := decide (0 ≤ x ∧ x ≤ 8)
/-- Whether a step may stand somewhere. -/
def stepB (op n : Int) (tb : List Int) : Bool :=
  if op = 22 then depthB n && (decide (1 ≤ tb.length ∧ tb.length ≤ 4) && tb.all depthB)
  else if 0 < tb.length then false
  else if op = 1 then decide (0 ≤ n ∧ n ≤ 65535)
  else if op = 2 ∨ op = 3 then decide (0 ≤ n ∧ n ≤ 7)
  else if op = 20 ∨ op = 21 then depthB n
  else decide (1 ≤ op ∧ op ≤ 22) && decide (n = 0)
theorem depthOK_eq (a : Int) : impl_depthOK.f a = some (depthB a) := by
  unfold impl_depthOK.f; rw [within_eq]; rfl
theorem l3Depth_eq (a : Int) : spec_l3Depth.f a = some (depthB a) := by
  unfold spec_l3Depth.f; rw [l1In_eq]; rfl
theorem anyDepth_ev (l : List Int) (hl : l.length ≤ 1048576) : Ev (fun k => slices_ContainsFunc_int_int__impl_stepOK_1.f k l) (!l.all depthB) := by
  have hp : ∀ a : Int, impl_stepOK_1.f a = some (!depthB a) := by
    intro a; unfold impl_stepOK_1.f; rw [depthOK_eq]; rfl
  have main := Ev.index l (fun k i => slices_IndexFunc_int_int__impl_stepOK_1.l0 k l (l.length : Int) i) (fun a => !depthB a) ?_ ?_ ?_
  · unfold slices_ContainsFunc_int_int__impl_stepOK_1.f slices_IndexFunc_int_int__impl_stepOK_1.f
    refine Ev.bind main (Ev.some ?_)
    rw [findIdx_any, List.not_all_eq_any_not]
  · refine Ev.succ ?_
    simp only [slices_IndexFunc_int_int__impl_stepOK_1.l0]
    exact Ev.ite_neg (by omega) (Ev.now _)
  · intro p x q e hx
    have hl : l.length = p.length + (q.length + 1) := by rw [e]; simp
    have hr : rd l (p.length : Int) = x := by rw [e]; exact rd_mid p q x
    refine Ev.succ ?_
    simp only [slices_IndexFunc_int_int__impl_stepOK_1.l0, hp, hr, hx, Option.bind_some]
    exact Ev.ite_pos (by omega) (Ev.ite_pos (by omega) (Ev.ite_pos (by omega) (Ev.ite_pos (by trivial) (Ev.now _))))
  · intro p x q r e hx hh
    have hl : l.length = p.length + (q.length + 1) := by rw [e]; simp
    have hr : rd l (p.length : Int) = x := by rw [e]; exact rd_mid p q x
    refine Ev.succ ?_
    simp only [slices_IndexFunc_int_int__impl_stepOK_1.l0, hp, hr, hx, Option.bind_some]
    refine Ev.ite_pos (by omega) (Ev.ite_pos (by omega) (Ev.ite_pos (by omega) (Ev.ite_neg (by simp) ?_)))
    rw [wrap64_id (by omega) (by omega)]
    exact hh
theorem stepB_j1 (op n : Int) (tb : List Int) (t : Bool) (h22 : op ≠ 22) (h0 : ¬ 0 < tb.length) (h1 : op ≠ 1) (h2 : op ≠ 2) (h3 : op ≠ 3) (ht : t = decide (op = 20 ∨ op = 21)) :
    Ev (fun k => impl_stepOK.j1 k t op n tb) (stepB op n tb) := by
  have e : stepB op n tb = if op = 20 ∨ op = 21 then depthB n else decide (1 ≤ op ∧ op ≤ 22) && decide (n = 0) := by
    unfold stepB; rw [if_neg h22, if_neg h0, if_neg h1, if_neg (by omega)]
  refine Ev.succ ?_
  simp only [impl_stepOK.j1, depthOK_eq, within_eq, Option.bind_some]
  subst ht
  by_cases h : op = 20 ∨ op = 21
  · exact Ev.ite_pos (by simpa using h) (Ev.some (by rw [e, if_pos h]))
  · refine Ev.ite_neg (by simpa using h) ?_
    rw [e, if_neg h]
    by_cases h' : 1 ≤ op ∧ op ≤ 22
    · exact Ev.ite_pos (by simpa using h') (Ev.some (by rw [decide_eq_true h']; simp [beq_dec]))
    · exact Ev.ite_neg (by simpa using h') (Ev.some (by rw [decide_eq_false h']; rfl))
theorem stepOK_ev (op n : Int) (tb : List Int) (hl : tb.length ≤ 1048576) : Ev (fun k => impl_stepOK.f k op n tb) (stepB op n tb) := by
  unfold impl_stepOK.f
  by_cases h22 : op = 22
  · refine Ev.ite_pos h22 ?_
    have e : stepB op n tb = (depthB n && (decide (1 ≤ tb.length ∧ tb.length ≤ 4) && tb.all depthB)) := by unfold stepB; rw [if_pos h22]
    rw [e]
    simp only [depthOK_eq, within_eq, Option.bind_some]
    cases hd : depthB n with
    | false => exact Ev.ite_neg (by simp) (Ev.now _)
    | true =>
      refine Ev.ite_pos rfl ?_
      by_cases hb : 1 ≤ tb.length ∧ tb.length ≤ 4
      · refine Ev.ite_pos (by simp; omega) (Ev.bind (anyDepth_ev tb hl) (Ev.some ?_))
        rw [decide_eq_true hb, Bool.not_not]; rfl
      · refine Ev.ite_neg (by simp; omega) (Ev.some ?_)
        rw [decide_eq_false hb]; rfl
  · refine Ev.ite_neg h22 ?_
    by_cases h0 : 0 < tb.length
    · refine Ev.ite_pos (by omega) (Ev.some ?_)
      unfold stepB; rw [if_neg h22, if_pos h0]
    · refine Ev.ite_neg (by omega) ?_
      simp only [within_eq, Option.bind_some]
      by_cases h1 : op = 1
      · refine Ev.ite_pos h1 (Ev.some ?_)
        unfold stepB; rw [if_neg h22, if_neg h0, if_pos h1]
      · refine Ev.ite_neg h1 ?_
        by_cases h2 : op = 2
        · refine Ev.ite_pos h2 (Ev.succ ?_)
          simp only [impl_stepOK.j0, within_eq, Option.bind_some]
          refine Ev.ite_pos (by simpa using h2) (Ev.some ?_)
          unfold stepB; rw [if_neg h22, if_neg h0, if_neg h1, if_pos (.inl h2)]
        · refine Ev.ite_neg h2 (Ev.succ ?_)
          simp only [impl_stepOK.j0, within_eq, Option.bind_some]
          by_cases h3 : op = 3
          · refine Ev.ite_pos (by simpa using h3) (Ev.some ?_)
            unfold stepB; rw [if_neg h22, if_neg h0, if_neg h1, if_pos (.inr h3)]
          · refine Ev.ite_neg (by simpa using h3) ?_
            by_cases h20 : op = 20
            · exact Ev.ite_pos h20 (stepB_j1 op n tb _ h22 h0 h1 h2 h3 (by simp [h20]))
            · exact Ev.ite_neg h20 (stepB_j1 op n tb _ h22 h0 h1 h2 h3 (by simp [h20, beq_dec]))
theorem l3One_j2 (op n : Int) (tb : List Int) (t : Bool) (h22 : op ≠ 22) (h0 : ¬ 0 < tb.length) (h1 : op ≠ 1) (h2 : op ≠ 2) (h3 : op ≠ 3) (ht : t = decide (op = 20 ∨ op = 21)) :
    Ev (fun k => spec_l3One.j2 k t op n tb) (stepB op n tb) := by
  have e : stepB op n tb = if op = 20 ∨ op = 21 then depthB n else decide (1 ≤ op ∧ op ≤ 22) && decide (n = 0) := by
    unfold stepB; rw [if_neg h22, if_neg h0, if_neg h1, if_neg (by omega)]
  refine Ev.succ ?_
  simp only [spec_l3One.j2, l3Depth_eq, l1In_eq, Option.bind_some]
  subst ht
  by_cases h : op = 20 ∨ op = 21
  · exact Ev.ite_pos (by simpa using h) (Ev.some (by rw [e, if_pos h]))
  · refine Ev.ite_neg (by simpa using h) ?_
    rw [e, if_neg h]
    by_cases h' : 4 ≤ op ∧ op ≤ 19
    · exact Ev.ite_pos (by simpa using h') (Ev.some (by rw [decide_eq_true (show 1 ≤ op ∧ op ≤ 22 by omega)]; simp [beq_dec]))
    · exact Ev.ite_neg (by simpa using h') (Ev.some (by rw [decide_eq_false (show ¬ (1 ≤ op ∧ op ≤ 22) by omega)]; rfl))
theorem l3One_ev (op n : Int) (tb : List Int) (hl : tb.length ≤ 1048576) : Ev (fun k => spec_l3One.f k op n tb) (stepB op n tb) := by
  unfold spec_l3One.f
  by_cases h22 : op = 22
  · refine Ev.ite_pos h22 ?_
    have e : stepB op n tb = (tb.all depthB && (depthB n && decide (1 ≤ tb.length ∧ tb.length ≤ 4))) := by
      unfold stepB; rw [if_pos h22]
      cases depthB n <;> cases tb.all depthB <;> simp
    rw [e]
    refine Ev.range tb (fun k (_ : Unit) i => spec_l3One.l0 k tb (tb.length : Int) i op n tb) (fun _ q => q.all depthB && (depthB n && decide (1 ≤ tb.length ∧ tb.length ≤ 4))) (fun _ _ => True) ?_ ?_ () trivial
    · intro _ _
      refine Ev.succ ?_
      simp only [spec_l3One.l0, l3Depth_eq, l1In_eq, Option.bind_some]
      refine Ev.ite_neg (by omega) ?_
      cases hd : depthB n with
      | false => exact Ev.ite_neg (by simp) (Ev.some (by simp))
      | true => exact Ev.ite_pos rfl (Ev.some (by simp only [List.all_nil, Bool.true_and, decide_eq_decide]; omega))
    · intro _ p x q e _ ih
      have hl : tb.length = p.length + (q.length + 1) := by rw [e]; simp
      have hr : rd tb (p.length : Int) = x := by rw [e]; exact rd_mid p q x
      refine Ev.succ ?_
      simp only [spec_l3One.l0, l3Depth_eq, hr, Option.bind_some]
      refine Ev.ite_pos (by omega) (Ev.ite_pos (by omega) (Ev.ite_pos (by omega) ?_))
      cases hx : depthB x with
      | false => exact Ev.ite_neg (by simp) (Ev.some (by simp [hx]))
      | true =>
        refine Ev.ite_pos rfl ?_
        rw [wrap64_id (by omega) (by omega)]
        exact Ev.cast (ih () trivial) (by simp [hx])
  · refine Ev.ite_neg h22 ?_
    by_cases h0 : 0 < tb.length
    · refine Ev.ite_pos (by omega) (Ev.some ?_)
      unfold stepB; rw [if_neg h22, if_pos h0]
    · refine Ev.ite_neg (by omega) ?_
      simp only [l1In_eq, Option.bind_some]
      by_cases h1 : op = 1
      · refine Ev.ite_pos h1 (Ev.some ?_)
        unfold stepB; rw [if_neg h22, if_neg h0, if_pos h1]
      · refine Ev.ite_neg h1 ?_
        by_cases h2 : op = 2
        · refine Ev.ite_pos h2 (Ev.succ ?_)
          simp only [spec_l3One.j1, l1In_eq, Option.bind_some]
          refine Ev.ite_pos (by simpa using h2) (Ev.some ?_)
          unfold stepB; rw [if_neg h22, if_neg h0, if_neg h1, if_pos (.inl h2)]
        · refine Ev.ite_neg h2 (Ev.succ ?_)
          simp only [spec_l3One.j1, l1In_eq, Option.bind_some]
          by_cases h3 : op = 3
          · refine Ev.ite_pos (by simpa using h3) (Ev.some ?_)
            unfold stepB; rw [if_neg h22, if_neg h0, if_neg h1, if_pos (.inr h3)]
          · refine Ev.ite_neg (by simpa using h3) ?_
            by_cases h20 : op = 20
            · exact Ev.ite_pos h20 (l3One_j2 op n tb _ h22 h0 h1 h2 h3 (by simp [h20]))
            · exact Ev.ite_neg h20 (l3One_j2 op n tb _ h22 h0 h1 h2 h3 (by simp [h20, beq_dec]))

def hasNB (op : Int) : Bool := decide (op = 1 ∨ op = 2 ∨ op = 3 ∨ op = 20 ∨ op = 21 ∨ op = 22)
theorem l3HasN_eq (a : Int) : spec_l3HasN.f a = some (hasNB a) := by
  unfold spec_l3HasN.f hasNB
  by_cases h1 : a = 1
  · rw [if_pos h1, decide_eq_true (.inl h1)]
  by_cases h2 : a = 2
  · rw [if_neg h1, if_pos h2, decide_eq_true (by omega)]
  by_cases h3 : a = 3
  · rw [if_neg h1, if_neg h2, if_pos h3, decide_eq_true (by omega)]
  by_cases h4 : a = 20
  · rw [if_neg h1, if_neg h2, if_neg h3, if_pos h4, decide_eq_true (by omega)]
  by_cases h5 : a = 21
  · rw [if_neg h1, if_neg h2, if_neg h3, if_neg h4, if_pos h5, decide_eq_true (by omega)]
  by_cases h6 : a = 22
  · rw [if_neg h1, if_neg h2, if_neg h3, if_neg h4, if_neg h5, if_pos h6, decide_eq_true (by omega)]
  · rw [if_neg h1, if_neg h2, if_neg h3, if_neg h4, if_neg h5, if_neg h6, decide_eq_false (by omega)]

def numT (n : Int) : ByteArray := ⟨(Go.Lib.itoa n).toArray⟩
theorem numT_size (n : Int) (h0 : -9223372036854775808 ≤ n) (h1 : n ≤ 9223372036854775807) : (numT n).size ≤ 21 := by
  have := Go.Lib.itoa_length_le n h0 h1
  have e : (numT n).size = (Go.Lib.itoa n).length := by simp [numT, ByteArray.size]
  omega
theorem itoa_some (n : Int) (h0 : -9223372036854775808 ≤ n) (h1 : n ≤ 9223372036854775807) : strconv_Itoa_25.f n = some (numT n) := by
  unfold strconv_Itoa_25.f
  rw [if_pos ⟨h0, h1⟩]; rfl
theorem bytes_ext {a b : ByteArray} (h : a.data.toList = b.data.toList) : a = b := by
  cases a; cases b; congr 1; exact Array.toList_inj.1 h
theorem l1Num_ev : ∀ (m : Nat) (n : Int), n = (m : Int) → n ≤ 9223372036854775000 → Ev (fun k => spec_l1Num.f k n) (numT n) := by
  intro m
  induction m using Nat.strongRecOn with
  | _ m ih =>
    intro n hn hhi
    refine Ev.succ ?_
    simp only [spec_l1Num.f]
    have hnn : ¬ n < 0 := by omega
    by_cases c : n < 10
    · refine Ev.ite_pos c (Ev.some (bytes_ext ?_))
      rw [strOfNums_data, wrap64_id (by omega) (by omega)]
      unfold numT Go.Lib.itoa
      rw [if_neg hnn, Go.Lib.decDigits_one (by omega)]
      have e : ((48 + n) % 256).toNat = 48 + n.toNat := by omega
      simp [e]
    · have e1 : wrap64 (Int.tdiv n 10) = n / 10 := by
        rw [Int.tdiv_eq_ediv_of_nonneg (by omega), wrap64_id (by omega) (by omega)]
      have e2 : wrap64 (48 + Int.tmod n 10) % 256 = 48 + n % 10 := by
        rw [Int.tmod_eq_emod_of_nonneg (by omega), wrap64_id (by omega) (by omega)]
        omega
      rw [e1, e2]
      have hs := numT_size (n / 10) (by omega) (by omega)
      refine Ev.ite_neg c (Ev.bind (ih (m / 10) (by omega) (n / 10) (by omega) (by omega)) (Ev.bind (Ev.now _) (Ev.ite_pos ?_ (Ev.some (bytes_ext ?_)))))
      · rw [strOfNums_size]; simp only [List.length_singleton]; omega
      · rw [ByteArray.data_append, Array.toList_append, strOfNums_data]
        unfold numT Go.Lib.itoa
        rw [if_neg (by omega), if_neg hnn]
        have e3 : n.toNat = m := by omega
        have e4 : (n / 10).toNat = m / 10 := by omega
        rw [e3, e4, Go.Lib.decDigits.eq_1 m, dif_neg (by omega)]
        have e5 : (48 + n % 10).toNat = 48 + m % 10 := by omega
        simp [e5]
def sp32 (n : Int) : ByteArray := (⟨#[32]⟩ : ByteArray) ++ numT n
theorem sp32_size (n : Int) (h0 : -9223372036854775808 ≤ n) (h1 : n ≤ 9223372036854775807) : (sp32 n).size ≤ 22 := by
  have := numT_size n h0 h1
  unfold sp32
  rw [ByteArray.size_append]
  have e : (⟨#[32]⟩ : ByteArray).size = 1 := rfl
  omega
/-- The numbers of a table behind a text. -/
def txt : ByteArray → List Int → ByteArray
  | s, [] => s
  | s, x :: q => txt (s ++ sp32 x) q
def finT (op n : Int) (s : ByteArray) : ByteArray := if hasNB op = true then s ++ sp32 n else s
theorem txt_size : ∀ (q : List Int) (s : ByteArray), (∀ x ∈ q, 0 ≤ x ∧ x ≤ 8) → (txt s q).size ≤ s.size + 22 * q.length
  | [], s, _ => by simp [txt]
  | x :: q, s, h => by
    have := txt_size q (s ++ sp32 x) (fun y hy => h y (by simp [hy]))
    have hx := h x (by simp)
    have h2 := sp32_size x (by omega) (by omega)
    rw [ByteArray.size_append] at this
    rw [txt, List.length_cons]
    omega
theorem spText_ev (op n : Int) (tb : List Int) (hl : tb.length ≤ 4) (htb : ∀ x ∈ tb, 0 ≤ x ∧ x ≤ 8) (hn : 0 ≤ n ∧ n ≤ 65535) (b : ByteArray) (hb : b.size ≤ 100) :
    Ev (fun k => spec_StepText.l0 k b tb (tb.length : Int) 0 op n tb) (finT op n (txt b tb), true) := by
  refine Ev.rangeI tb (fun k (b : ByteArray) i => spec_StepText.l0 k b tb (tb.length : Int) i op n tb) (fun b _ q => (finT op n (txt b q), true)) (fun b p => b.size ≤ 100 + 22 * p.length) (fun b hb => ?_) (fun b p x q e hb ih => ?_) b (by simpa using hb)
  · refine Ev.succ ?_
    simp only [spec_StepText.l0]
    refine Ev.ite_neg (by omega) ?_
    rw [l3HasN_eq]
    simp only [Option.bind_some]
    unfold finT txt
    have hs := sp32_size n (by omega) (by omega)
    have hs2 := numT_size n (by omega) (by omega)
    cases hasNB op with
    | false => exact Ev.ite_neg (by simp) (Ev.some rfl)
    | true =>
      refine Ev.ite_pos rfl (Ev.bind (l1Num_ev n.toNat n (by omega) (by omega)) (Ev.ite_pos (by omega) (Ev.ite_pos ?_ (Ev.some rfl))))
      show b.size + (sp32 n).size ≤ _
      omega
  · refine Ev.succ ?_
    simp only [spec_StepText.l0]
    have hlen : p.length < tb.length := by rw [e]; simp
    have hr : rd tb (p.length : Int) = x := by rw [e]; exact rd_mid _ _ _
    have hx := htb x (by rw [e]; simp)
    have hs := sp32_size x (by omega) (by omega)
    have hs2 := numT_size x (by omega) (by omega)
    refine Ev.ite_pos (by omega) (Ev.ite_pos (by omega) (Ev.ite_pos (by omega) ?_))
    rw [hr, wrap_succ (by omega)]
    refine Ev.bind (l1Num_ev x.toNat x (by omega) (by omega)) (Ev.ite_pos (by omega) (Ev.ite_pos ?_ ?_))
    · show b.size + (sp32 x).size ≤ _
      omega
    · refine ih (b ++ sp32 x) ?_
      rw [ByteArray.size_append, List.length_append, List.length_singleton]
      omega
theorem imText_ev (op n : Int) (tb : List Int) (hl : tb.length ≤ 4) (htb : ∀ x ∈ tb, 0 ≤ x ∧ x ≤ 8) (hn : 0 ≤ n ∧ n ≤ 65535) (b : ByteArray) (hb : b.size ≤ 100) :
    Ev (fun k => impl_stepText.l0 k b tb (tb.length : Int) 0 op n tb) (finT op n (txt b tb)) := by
  refine Ev.rangeI tb (fun k (b : ByteArray) i => impl_stepText.l0 k b tb (tb.length : Int) i op n tb) (fun b _ q => finT op n (txt b q)) (fun b p => b.size ≤ 100 + 22 * p.length) (fun b hb => ?_) (fun b p x q e hb ih => ?_) b (by simpa using hb)
  · refine Ev.succ ?_
    simp only [impl_stepText.l0]
    refine Ev.ite_neg (by omega) ?_
    unfold finT txt
    have hs := sp32_size n (by omega) (by omega)
    have hs2 := numT_size n (by omega) (by omega)
    have hadd : Ev (fun _ => (strconv_Itoa_25.f n).bind fun t => (if 1 + t.size ≤ 9223372036854775807 then (if b.size + ((⟨#[32]⟩ : ByteArray) ++ t).size ≤ 9223372036854775807 then (some (b ++ ((⟨#[32]⟩ : ByteArray) ++ t))) else (none)) else (none))) (b ++ sp32 n) := by
      rw [itoa_some n (by omega) (by omega)]
      refine Ev.bind (Ev.now _) (Ev.ite_pos (by omega) (Ev.ite_pos ?_ (Ev.some rfl)))
      show b.size + (sp32 n).size ≤ _
      omega
    by_cases h1 : op = 1
    · rw [if_pos (show hasNB op = true by unfold hasNB; simp; omega)]; exact Ev.ite_pos h1 hadd
    by_cases h2 : op = 2
    · rw [if_pos (show hasNB op = true by unfold hasNB; simp; omega)]; exact Ev.ite_neg h1 (Ev.ite_pos h2 hadd)
    by_cases h3 : op = 3
    · rw [if_pos (show hasNB op = true by unfold hasNB; simp; omega)]; exact Ev.ite_neg h1 (Ev.ite_neg h2 (Ev.ite_pos h3 hadd))
    by_cases h4 : op = 20
    · rw [if_pos (show hasNB op = true by unfold hasNB; simp; omega)]; exact Ev.ite_neg h1 (Ev.ite_neg h2 (Ev.ite_neg h3 (Ev.ite_pos h4 hadd)))
    by_cases h5 : op = 21
    · rw [if_pos (show hasNB op = true by unfold hasNB; simp; omega)]; exact Ev.ite_neg h1 (Ev.ite_neg h2 (Ev.ite_neg h3 (Ev.ite_neg h4 (Ev.ite_pos h5 hadd))))
    by_cases h6 : op = 22
    · rw [if_pos (show hasNB op = true by unfold hasNB; simp; omega)]; exact Ev.ite_neg h1 (Ev.ite_neg h2 (Ev.ite_neg h3 (Ev.ite_neg h4 (Ev.ite_neg h5 (Ev.ite_pos (by simpa using h6) hadd)))))
    · rw [if_neg (show ¬ hasNB op = true by unfold hasNB; simp; omega)]; exact Ev.ite_neg h1 (Ev.ite_neg h2 (Ev.ite_neg h3 (Ev.ite_neg h4 (Ev.ite_neg h5 (Ev.ite_neg (by simpa using h6) (Ev.some rfl))))))
  · refine Ev.succ ?_
    simp only [impl_stepText.l0]
    have hlen : p.length < tb.length := by rw [e]; simp
    have hr : rd tb (p.length : Int) = x := by rw [e]; exact rd_mid _ _ _
    have hx := htb x (by rw [e]; simp)
    have hs := sp32_size x (by omega) (by omega)
    have hs2 := numT_size x (by omega) (by omega)
    refine Ev.ite_pos (by omega) (Ev.ite_pos (by omega) (Ev.ite_pos (by omega) ?_))
    rw [hr, wrap_succ (by omega), itoa_some x (by omega) (by omega)]
    refine Ev.bind (Ev.now _) (Ev.ite_pos (by omega) (Ev.ite_pos ?_ ?_))
    · show b.size + (sp32 x).size ≤ _
      omega
    · refine ih (b ++ sp32 x) ?_
      rw [ByteArray.size_append, List.length_append, List.length_singleton]
      omega
/-- What a step that may stand somewhere says of itself. -/
theorem stepB_says {op n : Int} {tb : List Int} (h : stepB op n tb = true) : 1 ≤ op ∧ op ≤ 22 ∧ tb.length ≤ 4 ∧ (∀ x ∈ tb, 0 ≤ x ∧ x ≤ 8) ∧ 0 ≤ n ∧ n ≤ 65535 := by
  unfold stepB at h
  by_cases c : op = 22
  · rw [if_pos c, Bool.and_eq_true, Bool.and_eq_true] at h
    obtain ⟨h1, h2, h3⟩ := h
    have h1 := of_decide_eq_true h1
    have h2 := of_decide_eq_true h2
    exact ⟨by omega, by omega, by omega, fun x hx => of_decide_eq_true (List.all_eq_true.1 h3 x hx), by omega, by omega⟩
  · rw [if_neg c] at h
    by_cases c0 : 0 < tb.length
    · rw [if_pos c0] at h; exact absurd h (by simp)
    · rw [if_neg c0] at h
      have e : tb = [] := List.eq_nil_of_length_eq_zero (by omega)
      subst e
      refine (fun hh : 1 ≤ op ∧ op ≤ 22 ∧ 0 ≤ n ∧ n ≤ 65535 => ⟨hh.1, hh.2.1, by simp, by simp, hh.2.2⟩) ?_
      by_cases c1 : op = 1
      · rw [if_pos c1] at h; have := of_decide_eq_true h; omega
      · rw [if_neg c1] at h
        by_cases c2 : op = 2 ∨ op = 3
        · rw [if_pos c2] at h; have := of_decide_eq_true h; omega
        · rw [if_neg c2] at h
          by_cases c3 : op = 20 ∨ op = 21
          · rw [if_pos c3] at h; have := of_decide_eq_true h; omega
          · rw [if_neg c3, Bool.and_eq_true] at h
            have h1 := of_decide_eq_true h.1
            have h2 := of_decide_eq_true h.2
            omega
theorem words_eq : ∃ vs : List ByteArray, impl_opWords.f = some vs ∧ spec_l3Words.f = some ((⟨#[]⟩ : ByteArray) :: vs) ∧ vs.length = 22 ∧ ∀ v ∈ vs, v.size ≤ 100 := by
  refine ⟨_, rfl, rfl, rfl, ?_⟩
  decide
theorem rdOf_cons {α : Type} (d w : α) (vs : List α) (op : Int) (h : 1 ≤ op) : rdOf d (w :: vs) op = rdOf d vs (op - 1) := by
  obtain ⟨m, rfl⟩ : ∃ m : Nat, op = (m : Int) + 1 := ⟨(op - 1).toNat, by omega⟩
  show (w :: vs).getD _ _ = vs.getD _ _
  rw [show ((m : Int) + 1).toNat = m + 1 by omega, show ((m : Int) + 1 - 1).toNat = m by omega]
  rfl
theorem rdOf_in {α : Type} (d : α) (vs : List α) (i : Int) (h0 : 0 ≤ i) (h1 : i < vs.length) : rdOf d vs i ∈ vs := by
  show vs.getD _ _ ∈ vs
  rw [List.getD_eq_getElem?_getD, List.getElem?_eq_getElem (by omega)]
  exact List.getElem_mem _
theorem stepTexts (op n : Int) (tb : List Int) (hl : tb.length ≤ 1048576) : ∃ r, Ev (fun k => spec_StepText.f k op n tb) r ∧ Ev (fun k => impl_StepText.f k op n tb) r := by
  have h1 := stepOK_ev op n tb hl
  have h2 := l3One_ev op n tb hl
  cases hB : stepB op n tb with
  | false =>
    rw [hB] at h1 h2
    refine ⟨((⟨#[]⟩ : ByteArray), false), ?_, ?_⟩
    · unfold spec_StepText.f
      exact Ev.bind h2 (Ev.ite_neg (by simp) (Ev.some rfl))
    · unfold impl_StepText.f
      exact Ev.bind h1 (Ev.ite_neg (by simp) (Ev.some rfl))
  | true =>
    rw [hB] at h1 h2
    obtain ⟨ho1, ho2, hl4, htb, hn⟩ := stepB_says hB
    obtain ⟨vs, e1, e2, hvl, hvs⟩ := words_eq
    have hw : wrap64 (op - 1) = op - 1 := wrap64_id (by omega) (by omega)
    have hin := rdOf_in ByteArray.empty vs (op - 1) (by omega) (by omega)
    have hsz := hvs _ hin
    refine ⟨(finT op n (txt (rdOf ByteArray.empty vs (op - 1)) tb), true), ?_, ?_⟩
    · unfold spec_StepText.f
      rw [e2]
      refine Ev.bind h2 (Ev.ite_pos rfl (Ev.bind (Ev.now _) (Ev.ite_pos (by omega) (Ev.ite_pos ?_ ?_))))
      · rw [List.length_cons]; omega
      · rw [rdOf_cons _ _ _ _ ho1]
        exact spText_ev op n tb hl4 htb hn _ hsz
    · unfold impl_StepText.f impl_stepText.f
      rw [e1, hw]
      refine Ev.bind h1 (Ev.ite_pos rfl (Ev.bind (Ev.bind (Ev.now _) (Ev.ite_pos (by omega) (Ev.ite_pos (by omega) (imText_ev op n tb hl4 htb hn _ hsz)))) (Ev.some rfl)))

theorem FnExactStepText : laws_FnExactStepText.Pure := by
  intro op n tb _ _ hl _
  refine Ev.rounds (g := fun k => laws_FnExactStepText.f k op n tb) ?_
  have hl2 := hl
  unfold maxLen at hl2
  unfold laws_FnExactStepText.f
  have hsz : laws_szStep.f op n tb 1048576 = some (if (tb.length : Int) ≤ 1048576 then (1048576 : Int) - tb.length else -1) := by
    unfold laws_szStep.f laws_szIntS.f
    rw [wrap64_id (by omega) (by omega)]
    by_cases h : (tb.length : Int) ≤ 1048576
    · rw [if_neg (by omega), if_pos h]; simp only [Option.bind_some]; rw [if_neg (by omega)]
    · rw [if_pos (by omega), if_neg h]; rfl
  refine Ev.bind (Ev.const hsz) ?_
  by_cases h : (tb.length : Int) ≤ 1048576
  · rw [if_pos h]
    have tg : Ev (fun k => laws_toStep.f k op n tb) (op, n, tb) := by
      unfold laws_toStep.f
      exact Ev.bind (toIntS_ev tb (by omega)) (Ev.some rfl)
    have eq : Ev (fun k => laws_eqStep.f k op n tb op n tb) true := by
      unfold laws_eqStep.f
      refine Ev.ite_pos rfl (Ev.ite_pos rfl (Ev.bind (eqIntS_ev tb tb (by omega)) (Ev.ite_pos (by simp) (Ev.some rfl))))
    obtain ⟨⟨s, b⟩, h1, h2⟩ := stepTexts op n tb (by omega)
    refine Ev.ite_neg (by omega) (Ev.bind tg (Ev.bind h1 (Ev.bind tg (Ev.bind h2 (Ev.ite_pos rfl (Ev.succ ?_))))))
    simp only [laws_FnExactStepText.j0]
    exact Ev.ite_neg (by simp) (Ev.bind tg (Ev.bind eq (Ev.ite_pos rfl (Ev.some rfl))))
  · rw [if_neg h]
    exact Ev.ite_pos (by omega) (Ev.now _)

end Go.Proofs.YtmljikgegclolaaDoor.Pure
