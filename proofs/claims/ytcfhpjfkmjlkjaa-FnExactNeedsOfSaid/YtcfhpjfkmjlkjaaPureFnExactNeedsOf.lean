/- Of every step the law of needsof tells true. No condition beyond the row's own. -/
import Derived.Test.YtcfhpjfkmjlkjaaQ1
import Derived.Test.YtcfhpjfkmjlkjaaQ11
import Derived.Test.YtcfhpjfkmjlkjaaQ12
import Derived.Test.YtcfhpjfkmjlkjaaQ13
import Derived.Test.YtcfhpjfkmjlkjaaQ14
import Derived.Test.YtcfhpjfkmjlkjaaQ15
import Derived.Test.YtcfhpjfkmjlkjaaQ16
import Derived.Test.YtcfhpjfkmjlkjaaQ17
import Derived.Test.YtcfhpjfkmjlkjaaQ18
import Derived.Test.YtcfhpjfkmjlkjaaQ2
import Derived.Test.YtcfhpjfkmjlkjaaQ4
import Derived.Test.YtcfhpjfkmjlkjaaQ6
import Derived.Test.YtcfhpjfkmjlkjaaQ7
import Derived.Test.YtcfhpjfkmjlkjaaLib1
namespace Go.Proofs.Ytcfhpjfkmjlkjaa.Pure
open Go.RowKit Go.Proofs.Ytcfhpjfkmjlkjaa.Lib Go.Proofs.Ytcfhpjfkmjlkjaa.Q Go.Proofs.YtcfhpjfkmjlkjaaW.PrintWords Go.Proofs.YtcfhpjfkmjlkjaaW.PrintLast Go.Proofs.YtcfhpjfkmjlkjaaW.PrintMore
set_option linter.unusedVariables false
set_option linter.unusedSimpArgs false

theorem toIntS_l0 (q : List Int) : ∀ (p : List Int), p.length + q.length ≤ 1000000000000000 → Ev (fun k => laws_toIntS.l0 k (p ++ q) (p ++ List.replicate q.length 0) (p.length : Int)) (p ++ q) := by
  induction q with
  | nil =>
    intro p h0
    refine ⟨1, fun k hk => ?_⟩
    (try dsimp only)
    obtain ⟨k, rfl⟩ : ∃ m, k = m + 1 := ⟨k - 1, by omega⟩
    simp only [laws_toIntS.l0]
    rw [if_neg (by simp)]; simp
  | cons x q ih =>
    intro p h0
    simp only [List.length_cons] at h0
    obtain ⟨K, hK⟩ := ih (p ++ [x]) (by simp; omega)
    (try dsimp only at hK)
    refine ⟨K + 1, fun k hk => ?_⟩
    (try dsimp only)
    obtain ⟨k, rfl, hk'⟩ := within_lo hk
    simp only [laws_toIntS.l0]
    have hK' := hK k hk'
    simp only [List.append_assoc, List.cons_append, List.nil_append] at hK'
    have e1 : wrap64 ((p.length : Int) + 1) = ((p ++ [x]).length : Int) := by
      rw [wrap64_id (by omega) (by omega)]; simp
    rw [if_pos (by simp; omega), if_pos (by omega), if_pos (by simp; omega), Int.toNat_natCast, rd_mid, List.length_cons, List.replicate_succ, set_mid, e1, hK']
theorem toIntS_ev (l : List Int) (h : l.length ≤ 1048576) : Ev (fun k => laws_toIntS.f k l) l := by
  obtain ⟨K, hK⟩ := toIntS_l0 l [] (by simp; omega)
  (try dsimp only at hK)
  refine ⟨K, fun k hk => ?_⟩
  (try dsimp only)
  unfold laws_toIntS.f
  rw [if_pos (by omega), if_pos (by omega), Int.toNat_natCast]
  exact hK k hk

theorem eqIntS_l0 (d : Nat) : ∀ (p p' q q' : List Int), p.length = p'.length → q.length = d → q'.length = d → p.length + d ≤ 1000000000000000 → Ev (fun k => laws_eqIntS.l0 k (p ++ q) (p' ++ q') (p.length : Int)) (decide (q = q')) := by
  induction d with
  | zero =>
    intro p p' q q' hp hq hq' hb
    obtain rfl : q = [] := by simpa using hq
    obtain rfl : q' = [] := by simpa using hq'
    refine ⟨1, fun k hk => ?_⟩
    (try dsimp only)
    obtain ⟨k, rfl⟩ : ∃ m, k = m + 1 := ⟨k - 1, by omega⟩
    simp only [laws_eqIntS.l0]
    rw [if_neg (by simp)]; rfl
  | succ d ih =>
    intro p p' q q' hp hq hq' hb
    match q, q', hq, hq' with
    | x :: q, y :: q', hq, hq' =>
      simp only [List.length_cons] at hq hq'
      have r1 := rd_mid p q x
      have r2 := rd_mid p' q' y
      rw [← hp] at r2
      have e1 : wrap64 ((p.length : Int) + 1) = ((p ++ [x]).length : Int) := by
        rw [wrap64_id (by omega) (by omega)]; simp
      by_cases hxy : x = y
      · subst hxy
        obtain ⟨K, hK⟩ := ih (p ++ [x]) (p' ++ [x]) q q' (by simp [hp]) (by omega) (by omega) (by simp; omega)
        (try dsimp only at hK)
        refine ⟨K + 1, fun k hk => ?_⟩
        (try dsimp only)
        obtain ⟨k, rfl, hk'⟩ := within_lo hk
        simp only [laws_eqIntS.l0]
        have hK' := hK k hk'
        simp only [List.append_assoc, List.cons_append, List.nil_append] at hK'
        rw [if_pos (by simp; omega), if_pos (by omega), if_pos (by simp; omega), r1, r2, if_pos rfl, e1, hK']
        simp
      · refine ⟨1, fun k hk => ?_⟩
        (try dsimp only)
        obtain ⟨k, rfl⟩ : ∃ m, k = m + 1 := ⟨k - 1, by omega⟩
        simp only [laws_eqIntS.l0]
        rw [if_pos (by simp; omega), if_pos (by omega), if_pos (by simp; omega), r1, r2, if_neg hxy]
        simp [hxy]
theorem eqIntS_ev (a b : List Int) (h : a.length ≤ 1000000000000000) : Ev (fun k => laws_eqIntS.f k a b) (decide (a = b)) := by
  by_cases hl : a.length = b.length
  · obtain ⟨K, hK⟩ := eqIntS_l0 a.length [] [] a b rfl rfl hl.symm (by simpa using h)
    (try dsimp only at hK)
    refine ⟨K, fun k hk => ?_⟩
    (try dsimp only)
    unfold laws_eqIntS.f
    rw [if_pos (by omega)]
    exact hK k hk
  · refine ⟨0, fun k _ => ?_⟩
    (try dsimp only)
    unfold laws_eqIntS.f
    rw [if_neg (by omega)]
    congr 1; symm
    rw [decide_eq_false_iff_not]
    rintro rfl; exact hl rfl

theorem szIntS_some2 (l : List Int) (a : Int) (ha : a ≤ 1048576) (ha0 : 0 ≤ a) (hl : l.length ≤ maxLen) : laws_szIntS.f l a = some (if (l.length : Int) ≤ a then a - l.length else -1) := by
  unfold maxLen at hl
  unfold laws_szIntS.f
  rw [wrap64_id (by omega) (by omega)]
  by_cases h : (l.length : Int) ≤ a
  · rw [if_neg (by omega), if_pos h]
  · rw [if_pos (by omega), if_neg h]
theorem szStep_some (op n : Int) (c : List Int) (a : Int) (ha : a ≤ 1048576) (ha0 : 0 ≤ a) (hc : c.length ≤ maxLen) :
    laws_szStep.f op n c a = some (if (c.length : Int) ≤ a then a - c.length else -1) := by
  unfold laws_szStep.f
  rw [szIntS_some2 c a ha ha0 hc, Option.bind_some]
  by_cases h : (c.length : Int) ≤ a
  · rw [if_pos h, if_neg (by omega)]
  · rw [if_neg h, if_pos (by omega)]
theorem toStep_ev (op n : Int) (c : List Int) (hc : c.length ≤ 1048576) : Ev (fun k => laws_toStep.f k op n c) (op, n, c) := by
  unfold laws_toStep.f
  exact Ev.bind (toIntS_ev c hc) (Ev.now _)

theorem l1In_eq (a b c : Int) : spec_l1In.f a b c = some (decide (b ≤ a ∧ a ≤ c)) := by
  unfold spec_l1In.f
  by_cases h : a ≥ b
  · rw [if_pos h]; simp [show b ≤ a from h]
  · rw [if_neg h]; simp; omega

theorem within_eq (a b c : Int) : impl_within.f a b c = some (decide (b ≤ a ∧ a ≤ c)) := by
  unfold impl_within.f
  by_cases h : a ≥ b
  · rw [if_pos h]; simp [show b ≤ a from h]
  · rw [if_neg h]; simp; omega

theorem findIdx_any {α : Type} (p : α → Bool) (l : List α) : decide ((match l.findIdx? p with | some j => (j : Int) | none => -1) ≥ 0) = l.any p := by
  rw [Bool.eq_iff_iff, decide_eq_true_iff, List.any_eq_true]
  cases hf : l.findIdx? p with
  | none =>
    rw [List.findIdx?_eq_none_iff] at hf
    constructor
    · intro h; simp only [ge_iff_le] at h; omega
    · rintro ⟨x, hx, h⟩; rw [hf x hx] at h; simp at h
  | some j =>
    constructor
    · intro _
      obtain ⟨hj, h1, _⟩ := List.findIdx?_eq_some_iff_getElem.mp hf
      exact ⟨l[j], List.getElem_mem hj, h1⟩
    · intro _; simp only [ge_iff_le]; omega
/-- A loop that looks for the first element that is so. -/
theorem Ev.index {α : Type} (l : List α) (F : Nat → Int → Option Int) (pr : α → Bool)
    (h0 : Ev (fun k => F k (l.length : Int)) (-1))
    (hs : ∀ p x q, l = p ++ x :: q → pr x = true → Ev (fun k => F k (p.length : Int)) (p.length : Int))
    (hn : ∀ p x q r, l = p ++ x :: q → pr x = false → Ev (fun k => F k ((p.length : Int) + 1)) r → Ev (fun k => F k (p.length : Int)) r) :
    Ev (fun k => F k 0) (match l.findIdx? pr with | some j => (j : Int) | none => -1) := by
  have main : ∀ (q p : List α), l = p ++ q → Ev (fun k => F k (p.length : Int)) (match q.findIdx? pr with | some j => ((p.length + j : Nat) : Int) | none => -1) := by
    intro q
    induction q with
    | nil => intro p e; rw [e, List.append_nil] at h0; exact h0
    | cons x q ih =>
      intro p e
      cases hx : pr x with
      | true =>
        have := hs p x q e hx
        rw [List.findIdx?_cons, hx]; simpa using this
      | false =>
        have := ih (p ++ [x]) (by rw [e]; simp)
        have e2 : ((p ++ [x]).length : Int) = (p.length : Int) + 1 := by simp
        rw [e2] at this
        have := hn p x q _ e hx this
        rw [List.findIdx?_cons, hx]
        refine Ev.cast this ?_
        cases q.findIdx? pr with
        | none => rfl
        | some j => simp; omega
  have := main l [] rfl
  refine Ev.cast this ?_
  cases l.findIdx? pr with
  | none => rfl
  | some j => simp

/-- Whether a number is a depth. -/
def depthB (x : Int) : Bool := decide (0 ≤ x ∧ x ≤ 8)
/-- Whether a step may stand somewhere. -/
def stepB (op n : Int) (tb : List Int) : Bool :=
  if op = 22 then depthB n && (decide (1 ≤ tb.length ∧ tb.length ≤ 4) && tb.all depthB)
  else if 0 < tb.length then false
  else if op = 1 then decide (0 ≤ n ∧ n ≤ 65535)
  else if op = 2 ∨ op = 3 then decide (0 ≤ n ∧ n ≤ 7)
  else if op = 20 ∨ op = 21 then depthB n
  else decide (1 ≤ op ∧ op ≤ 22) && decide (n = 0)
theorem depthOK_eq (a : Int) : impl_depthOK.f a = some (depthB a) := by
  unfold impl_depthOK.f; rw [within_eq]; rfl
theorem l3Depth_eq (a : Int) : spec_l3Depth.f a = some (depthB a) := by
  unfold spec_l3Depth.f; rw [l1In_eq]; rfl
theorem anyDepth_ev (l : List Int) (hl : l.length ≤ 1048576) : Ev (fun k => slices_ContainsFunc_int_int__impl_stepOK_1.f k l) (!l.all depthB) := by
  have hp : ∀ a : Int, impl_stepOK_1.f a = some (!depthB a) := by
    intro a; unfold impl_stepOK_1.f; rw [depthOK_eq]; rfl
  have main := Ev.index l (fun k i => slices_IndexFunc_int_int__impl_stepOK_1.l0 k l (l.length : Int) i) (fun a => !depthB a) ?_ ?_ ?_
  · unfold slices_ContainsFunc_int_int__impl_stepOK_1.f slices_IndexFunc_int_int__impl_stepOK_1.f
    refine Ev.bind main (Ev.some ?_)
    rw [findIdx_any, List.not_all_eq_any_not]
  · refine Ev.succ ?_
    simp only [slices_IndexFunc_int_int__impl_stepOK_1.l0]
    exact Ev.ite_neg (by omega) (Ev.now _)
  · intro p x q e hx
    have hl : l.length = p.length + (q.length + 1) := by rw [e]; simp
    have hr : rd l (p.length : Int) = x := by rw [e]; exact rd_mid p q x
    refine Ev.succ ?_
    simp only [slices_IndexFunc_int_int__impl_stepOK_1.l0, hp, hr, hx, Option.bind_some]
    exact Ev.ite_pos (by omega) (Ev.ite_pos (by omega) (Ev.ite_pos (by omega) (Ev.ite_pos (by trivial) (Ev.now _))))
  · intro p x q r e hx hh
    have hl : l.length = p.length + (q.length + 1) := by rw [e]; simp
    have hr : rd l (p.length : Int) = x := by rw [e]; exact rd_mid p q x
    refine Ev.succ ?_
    simp only [slices_IndexFunc_int_int__impl_stepOK_1.l0, hp, hr, hx, Option.bind_some]
    refine Ev.ite_pos (by omega) (Ev.ite_pos (by omega) (Ev.ite_pos (by omega) (Ev.ite_neg (by simp) ?_)))
    rw [wrap64_id (by omega) (by omega)]
    exact hh
theorem stepB_j1 (op n : Int) (tb : List Int) (t : Bool) (h22 : op ≠ 22) (h0 : ¬ 0 < tb.length) (h1 : op ≠ 1) (h2 : op ≠ 2) (h3 : op ≠ 3) (ht : t = decide (op = 20 ∨ op = 21)) :
    Ev (fun k => impl_stepOK.j1 k t op n tb) (stepB op n tb) := by
  have e : stepB op n tb = if op = 20 ∨ op = 21 then depthB n else decide (1 ≤ op ∧ op ≤ 22) && decide (n = 0) := by
    unfold stepB; rw [if_neg h22, if_neg h0, if_neg h1, if_neg (by omega)]
  refine Ev.succ ?_
  simp only [impl_stepOK.j1, depthOK_eq, within_eq, Option.bind_some]
  subst ht
  by_cases h : op = 20 ∨ op = 21
  · exact Ev.ite_pos (by simpa using h) (Ev.some (by rw [e, if_pos h]))
  · refine Ev.ite_neg (by simpa using h) ?_
    rw [e, if_neg h]
    by_cases h' : 1 ≤ op ∧ op ≤ 22
    · exact Ev.ite_pos (by simpa using h') (Ev.some (by rw [decide_eq_true h']; simp [beq_dec]))
    · exact Ev.ite_neg (by simpa using h') (Ev.some (by rw [decide_eq_false h']; rfl))
theorem stepOK_ev (op n : Int) (tb : List Int) (hl : tb.length ≤ 1048576) : Ev (fun k => impl_stepOK.f k op n tb) (stepB op n tb) := by
  unfold impl_stepOK.f
  by_cases h22 : op = 22
  · refine Ev.ite_pos h22 ?_
    have e : stepB op n tb = (depthB n && (decide (1 ≤ tb.length ∧ tb.length ≤ 4) && tb.all depthB)) := by unfold stepB; rw [if_pos h22]
    rw [e]
    simp only [depthOK_eq, within_eq, Option.bind_some]
    cases hd : depthB n with
    | false => exact Ev.ite_neg (by simp) (Ev.now _)
    | true =>
      refine Ev.ite_pos rfl ?_
      by_cases hb : 1 ≤ tb.length ∧ tb.length ≤ 4
      · refine Ev.ite_pos (by simp; omega) (Ev.bind (anyDepth_ev tb hl) (Ev.some ?_))
        rw [decide_eq_true hb, Bool.not_not]; rfl
      · refine Ev.ite_neg (by simp; omega) (Ev.some ?_)
        rw [decide_eq_false hb]; rfl
  · refine Ev.ite_neg h22 ?_
    by_cases h0 : 0 < tb.length
    · refine Ev.ite_pos (by omega) (Ev.some ?_)
      unfold stepB; rw [if_neg h22, if_pos h0]
    · refine Ev.ite_neg (by omega) ?_
      simp only [within_eq, Option.bind_some]
      by_cases h1 : op = 1
      · refine Ev.ite_pos h1 (Ev.some ?_)
        unfold stepB; rw [if_neg h22, if_neg h0, if_pos h1]
      · refine Ev.ite_neg h1 ?_
        by_cases h2 : op = 2
        · refine Ev.ite_pos h2 (Ev.succ ?_)
          simp only [impl_stepOK.j0, within_eq, Option.bind_some]
          refine Ev.ite_pos (by simpa using h2) (Ev.some ?_)
          unfold stepB; rw [if_neg h22, if_neg h0, if_neg h1, if_pos (.inl h2)]
        · refine Ev.ite_neg h2 (Ev.succ ?_)
          simp only [impl_stepOK.j0, within_eq, Option.bind_some]
          by_cases h3 : op = 3
          · refine Ev.ite_pos (by simpa using h3) (Ev.some ?_)
            unfold stepB; rw [if_neg h22, if_neg h0, if_neg h1, if_pos (.inr h3)]
          · refine Ev.ite_neg (by simpa using h3) ?_
            by_cases h20 : op = 20
            · exact Ev.ite_pos h20 (stepB_j1 op n tb _ h22 h0 h1 h2 h3 (by simp [h20]))
            · exact Ev.ite_neg h20 (stepB_j1 op n tb _ h22 h0 h1 h2 h3 (by simp [h20, beq_dec]))
theorem l3One_j2 (op n : Int) (tb : List Int) (t : Bool) (h22 : op ≠ 22) (h0 : ¬ 0 < tb.length) (h1 : op ≠ 1) (h2 : op ≠ 2) (h3 : op ≠ 3) (ht : t = decide (op = 20 ∨ op = 21)) :
    Ev (fun k => spec_l3One.j2 k t op n tb) (stepB op n tb) := by
  have e : stepB op n tb = if op = 20 ∨ op = 21 then depthB n else decide (1 ≤ op ∧ op ≤ 22) && decide (n = 0) := by
    unfold stepB; rw [if_neg h22, if_neg h0, if_neg h1, if_neg (by omega)]
  refine Ev.succ ?_
  simp only [spec_l3One.j2, l3Depth_eq, l1In_eq, Option.bind_some]
  subst ht
  by_cases h : op = 20 ∨ op = 21
  · exact Ev.ite_pos (by simpa using h) (Ev.some (by rw [e, if_pos h]))
  · refine Ev.ite_neg (by simpa using h) ?_
    rw [e, if_neg h]
    by_cases h' : 4 ≤ op ∧ op ≤ 19
    · exact Ev.ite_pos (by simpa using h') (Ev.some (by rw [decide_eq_true (show 1 ≤ op ∧ op ≤ 22 by omega)]; simp [beq_dec]))
    · exact Ev.ite_neg (by simpa using h') (Ev.some (by rw [decide_eq_false (show ¬ (1 ≤ op ∧ op ≤ 22) by omega)]; rfl))
theorem l3One_ev (op n : Int) (tb : List Int) (hl : tb.length ≤ 1048576) : Ev (fun k => spec_l3One.f k op n tb) (stepB op n tb) := by
  unfold spec_l3One.f
  by_cases h22 : op = 22
  · refine Ev.ite_pos h22 ?_
    have e : stepB op n tb = (tb.all depthB && (depthB n && decide (1 ≤ tb.length ∧ tb.length ≤ 4))) := by
      unfold stepB; rw [if_pos h22]
      cases depthB n <;> cases tb.all depthB <;> simp
    rw [e]
    refine Ev.range tb (fun k (_ : Unit) i => spec_l3One.l0 k tb (tb.length : Int) i op n tb) (fun _ q => q.all depthB && (depthB n && decide (1 ≤ tb.length ∧ tb.length ≤ 4))) (fun _ _ => True) ?_ ?_ () trivial
    · intro _ _
      refine Ev.succ ?_
      simp only [spec_l3One.l0, l3Depth_eq, l1In_eq, Option.bind_some]
      refine Ev.ite_neg (by omega) ?_
      cases hd : depthB n with
      | false => exact Ev.ite_neg (by simp) (Ev.some (by simp))
      | true => exact Ev.ite_pos rfl (Ev.some (by simp only [List.all_nil, Bool.true_and, decide_eq_decide]; omega))
    · intro _ p x q e _ ih
      have hl : tb.length = p.length + (q.length + 1) := by rw [e]; simp
      have hr : rd tb (p.length : Int) = x := by rw [e]; exact rd_mid p q x
      refine Ev.succ ?_
      simp only [spec_l3One.l0, l3Depth_eq, hr, Option.bind_some]
      refine Ev.ite_pos (by omega) (Ev.ite_pos (by omega) (Ev.ite_pos (by omega) ?_))
      cases hx : depthB x with
      | false => exact Ev.ite_neg (by simp) (Ev.some (by simp [hx]))
      | true =>
        refine Ev.ite_pos rfl ?_
        rw [wrap64_id (by omega) (by omega)]
        exact Ev.cast (ih () trivial) (by simp [hx])
  · refine Ev.ite_neg h22 ?_
    by_cases h0 : 0 < tb.length
    · refine Ev.ite_pos (by omega) (Ev.some ?_)
      unfold stepB; rw [if_neg h22, if_pos h0]
    · refine Ev.ite_neg (by omega) ?_
      simp only [l1In_eq, Option.bind_some]
      by_cases h1 : op = 1
      · refine Ev.ite_pos h1 (Ev.some ?_)
        unfold stepB; rw [if_neg h22, if_neg h0, if_pos h1]
      · refine Ev.ite_neg h1 ?_
        by_cases h2 : op = 2
        · refine Ev.ite_pos h2 (Ev.succ ?_)
          simp only [spec_l3One.j1, l1In_eq, Option.bind_some]
          refine Ev.ite_pos (by simpa using h2) (Ev.some ?_)
          unfold stepB; rw [if_neg h22, if_neg h0, if_neg h1, if_pos (.inl h2)]
        · refine Ev.ite_neg h2 (Ev.succ ?_)
          simp only [spec_l3One.j1, l1In_eq, Option.bind_some]
          by_cases h3 : op = 3
          · refine Ev.ite_pos (by simpa using h3) (Ev.some ?_)
            unfold stepB; rw [if_neg h22, if_neg h0, if_neg h1, if_pos (.inr h3)]
          · refine Ev.ite_neg (by simpa using h3) ?_
            by_cases h20 : op = 20
            · exact Ev.ite_pos h20 (l3One_j2 op n tb _ h22 h0 h1 h2 h3 (by simp [h20]))
            · exact Ev.ite_neg h20 (l3One_j2 op n tb _ h22 h0 h1 h2 h3 (by simp [h20, beq_dec]))

theorem isTwo_eq2 (a : Int) : impl_isTwo.f a = some (decide (4 ≤ a ∧ a ≤ 9)) := by
  unfold impl_isTwo.f; rw [within_eq]; rfl
/-- How many words an op takes off, and puts on. -/
def needsP (op : Int) : Int × Int :=
  if op = 1 ∨ op = 2 then (0, 1)
  else if 4 ≤ op ∧ op ≤ 9 then (2, 1)
  else if op = 10 then (1, 1)
  else if op = 11 then (2, 0)
  else if op = 3 ∨ op = 12 ∨ op = 13 ∨ op = 17 ∨ op = 21 ∨ op = 22 then (1, 0)
  else (0, 0)
theorem l4Needs_ev (op : Int) : Ev (fun k => spec_l4Needs.f k op) (needsP op) := by
  have j : ∀ t : Bool, t = decide (op = 1 ∨ op = 2) → Ev (fun k => spec_l4Needs.j0 k op t) (needsP op) := by
    intro t ht
    refine Ev.succ ?_
    simp only [spec_l4Needs.j0, l1In_eq, Option.bind_some]
    subst ht
    unfold needsP
    by_cases h1 : op = 1 ∨ op = 2
    · exact Ev.ite_pos (by simpa using h1) (Ev.some (by rw [if_pos h1]))
    · refine Ev.ite_neg (by simpa using h1) ?_
      rw [if_neg h1]
      by_cases h2 : 4 ≤ op ∧ op ≤ 9
      · exact Ev.ite_pos (by simpa using h2) (Ev.some (by rw [if_pos h2]))
      · refine Ev.ite_neg (by simpa using h2) ?_
        rw [if_neg h2]
        refine Ev.const ?_
        (repeat' split) <;> first | rfl | (exfalso; omega)
  unfold spec_l4Needs.f
  by_cases h1 : op = 1
  · exact Ev.ite_pos h1 (j _ (by simp [h1]))
  · exact Ev.ite_neg h1 (j _ (by simp [h1, beq_dec]))
theorem needsOf_ev (op : Int) : Ev (fun k => impl_needsOf.f k op) (needsP op) := by
  have j1 : ∀ t : Bool, ¬ (op = 1 ∨ op = 2) → t = decide (op = 3 ∨ op = 12 ∨ op = 13 ∨ op = 17 ∨ op = 21 ∨ op = 22) → Ev (fun k => impl_needsOf.j1 k op t) (needsP op) := by
    intro t h1 ht
    refine Ev.succ ?_
    simp only [impl_needsOf.j1, isTwo_eq2, Option.bind_some]
    subst ht
    unfold needsP
    rw [if_neg h1]
    by_cases h2 : op = 3 ∨ op = 12 ∨ op = 13 ∨ op = 17 ∨ op = 21 ∨ op = 22
    · refine Ev.ite_pos (by simpa using h2) (Ev.some ?_)
      rw [if_neg (by omega), if_neg (by omega), if_neg (by omega), if_pos h2]
    · refine Ev.ite_neg (by simpa using h2) ?_
      by_cases h3 : 4 ≤ op ∧ op ≤ 9
      · exact Ev.ite_pos (by simpa using h3) (Ev.some (by rw [if_pos h3]))
      · refine Ev.ite_neg (by simpa using h3) ?_
        rw [if_neg h3]
        refine Ev.const ?_
        (repeat' split) <;> first | rfl | (exfalso; omega)
  have j0 : ∀ t : Bool, t = decide (op = 1 ∨ op = 2) → Ev (fun k => impl_needsOf.j0 k op t) (needsP op) := by
    intro t ht
    refine Ev.succ ?_
    simp only [impl_needsOf.j0]
    subst ht
    by_cases h1 : op = 1 ∨ op = 2
    · exact Ev.ite_pos (by simpa using h1) (Ev.some (by unfold needsP; rw [if_pos h1]))
    · refine Ev.ite_neg (by simpa using h1) ?_
      by_cases a3 : op = 3
      · exact Ev.ite_pos a3 (j1 _ h1 (by simp [a3]))
      · refine Ev.ite_neg a3 ?_
        by_cases a12 : op = 12
        · exact Ev.ite_pos a12 (j1 _ h1 (by simp [a12]))
        · refine Ev.ite_neg a12 ?_
          by_cases a13 : op = 13
          · exact Ev.ite_pos a13 (j1 _ h1 (by simp [a13]))
          · refine Ev.ite_neg a13 ?_
            by_cases a17 : op = 17
            · exact Ev.ite_pos a17 (j1 _ h1 (by simp [a17]))
            · refine Ev.ite_neg a17 ?_
              by_cases a21 : op = 21
              · exact Ev.ite_pos a21 (j1 _ h1 (by simp [a21]))
              · exact Ev.ite_neg a21 (j1 _ h1 (by simp [a3, a12, a13, a17, a21, beq_dec]))
  unfold impl_needsOf.f
  by_cases h1 : op = 1
  · exact Ev.ite_pos h1 (j0 _ (by simp [h1]))
  · exact Ev.ite_neg h1 (j0 _ (by simp [h1, beq_dec]))

theorem FnExactNeedsOf : laws_FnExactNeedsOf.Pure := by
  intro op n c _ _ hc _
  refine Ev.rounds (g := fun k => laws_FnExactNeedsOf.f k op n c) ?_
  unfold laws_FnExactNeedsOf.f
  rw [szStep_some op n c 1048576 (by omega) (by omega) hc]
  simp only [Option.bind_some]
  by_cases h : (c.length : Int) ≤ 1048576
  · have hl : c.length ≤ 1048576 := by omega
    rw [if_pos h]
    have hs : Ev (fun k => spec_NeedsOf.f k op n c) (if stepB op n c = true then ((needsP op).1, (needsP op).2, true) else (0, 0, false)) := by
      unfold spec_NeedsOf.f
      refine Ev.bind (l3One_ev op n c hl) ?_
      cases stepB op n c with
      | true => exact Ev.ite_pos rfl (Ev.bind (l4Needs_ev op) (Ev.now _))
      | false => exact Ev.ite_neg (by simp) (Ev.now _)
    have hi : Ev (fun k => impl_NeedsOf.f k op n c) (if stepB op n c = true then ((needsP op).1, (needsP op).2, true) else (0, 0, false)) := by
      unfold impl_NeedsOf.f
      refine Ev.bind (stepOK_ev op n c hl) ?_
      cases stepB op n c with
      | true => exact Ev.ite_pos rfl (Ev.bind (needsOf_ev op) (Ev.now _))
      | false => exact Ev.ite_neg (by simp) (Ev.now _)
    generalize (if stepB op n c = true then ((needsP op).1, (needsP op).2, true) else (0, 0, false)) = r at hs hi
    obtain ⟨x, y, z⟩ := r
    refine Ev.ite_neg (by omega) (Ev.bind (toStep_ev op n c hl) (Ev.bind hs (Ev.bind (toStep_ev op n c hl) (Ev.bind hi ?_))))
    refine Ev.ite_pos (by trivial) (Ev.ite_pos (by trivial) (Ev.succ ?_))
    simp only [laws_FnExactNeedsOf.j0]
    refine Ev.ite_neg (by simp) (Ev.bind (toStep_ev op n c hl) (Ev.bind (a := true) ?_ (Ev.ite_pos rfl (Ev.now _))))
    unfold laws_eqStep.f
    exact Ev.ite_pos (by trivial) (Ev.ite_pos (by trivial) (Ev.bind (eqIntS_ev c c (by omega)) (Ev.ite_pos (by simp) (Ev.now _))))
  · rw [if_neg h]
    exact Ev.ite_pos (by omega) (Ev.now _)

end Go.Proofs.Ytcfhpjfkmjlkjaa.Pure
