/- Of every state the law of goodstate tells true. No condition beyond the row's own. -/
import Derived.Test.YtcfhpjfkmjlkjaaQ1
import Derived.Test.YtcfhpjfkmjlkjaaQ2
import Derived.Test.YtcfhpjfkmjlkjaaQ4
import Derived.Test.YtcfhpjfkmjlkjaaQ6
import Derived.Test.YtcfhpjfkmjlkjaaQ7
import Derived.Test.YtcfhpjfkmjlkjaaQ8
import Derived.Test.YtcfhpjfkmjlkjaaQ9
import Derived.Test.YtcfhpjfkmjlkjaaLib1
namespace Go.Proofs.Ytcfhpjfkmjlkjaa.Pure
open Go.RowKit Go.Proofs.Ytcfhpjfkmjlkjaa.Lib Go.Proofs.Ytcfhpjfkmjlkjaa.Q Go.Proofs.YtcfhpjfkmjlkjaaW.PrintWords Go.Proofs.YtcfhpjfkmjlkjaaW.PrintLast Go.Proofs.YtcfhpjfkmjlkjaaW.PrintMore
set_option linter.unusedVariables false
set_option linter.unusedSimpArgs false

theorem toIntS_l0 (q : List Int) : ∀ (p : List Int), p.length + q.length ≤ 1000000000000000 → Ev (fun k => laws_toIntS.l0 k (p ++ q) (p ++ List.replicate q.length 0) (p.length : Int)) (p ++ q) := by
  induction q with
  | nil =>
    intro p h0
    refine ⟨1, fun k hk => ?_⟩
    (try dsimp only)
    obtain ⟨k, rfl⟩ : ∃ m, k = m + 1 := ⟨k - 1, by omega⟩
    simp only [laws_toIntS.l0]
    rw [if_neg (by simp)]; simp
  | cons x q ih =>
    intro p h0
    simp only [List.length_cons] at h0
    obtain ⟨K, hK⟩ := ih (p ++ [x]) (by simp; omega)
    (try dsimp only at hK)
    refine ⟨K + 1, fun k hk => ?_⟩
    (try dsimp only)
    obtain ⟨k, rfl, hk'⟩ := within_lo hk
    simp only [laws_toIntS.l0]
    have hK' := hK k hk'
    simp only [List.append_assoc, List.cons_append, List.nil_append] at hK'
    have e1 : wrap64 ((p.length : Int) + 1) = ((p ++ [x]).length : Int) := by
      rw [wrap64_id (by omega) (by omega)]; simp
    rw [if_pos (by simp; omega), if_pos (by omega), if_pos (by simp; omega), Int.toNat_natCast, rd_mid, List.length_cons, List.replicate_succ, set_mid, e1, hK']
theorem toIntS_ev (l : List Int) (h : l.length ≤ 1048576) : Ev (fun k => laws_toIntS.f k l) l := by
  obtain ⟨K, hK⟩ := toIntS_l0 l [] (by simp; omega)
  (try dsimp only at hK)
  refine ⟨K, fun k hk => ?_⟩
  (try dsimp only)
  unfold laws_toIntS.f
  rw [if_pos (by omega), if_pos (by omega), Int.toNat_natCast]
  exact hK k hk

theorem eqIntS_l0 (d : Nat) : ∀ (p p' q q' : List Int), p.length = p'.length → q.length = d → q'.length = d → p.length + d ≤ 1000000000000000 → Ev (fun k => laws_eqIntS.l0 k (p ++ q) (p' ++ q') (p.length : Int)) (decide (q = q')) := by
  induction d with
  | zero =>
    intro p p' q q' hp hq hq' hb
    obtain rfl : q = [] := by simpa using hq
    obtain rfl : q' = [] := by simpa using hq'
    refine ⟨1, fun k hk => ?_⟩
    (try dsimp only)
    obtain ⟨k, rfl⟩ : ∃ m, k = m + 1 := ⟨k - 1, by omega⟩
    simp only [laws_eqIntS.l0]
    rw [if_neg (by simp)]; rfl
  | succ d ih =>
    intro p p' q q' hp hq hq' hb
    match q, q', hq, hq' with
    | x :: q, y :: q', hq, hq' =>
      simp only [List.length_cons] at hq hq'
      have r1 := rd_mid p q x
      have r2 := rd_mid p' q' y
      rw [← hp] at r2
      have e1 : wrap64 ((p.length : Int) + 1) = ((p ++ [x]).length : Int) := by
        rw [wrap64_id (by omega) (by omega)]; simp
      by_cases hxy : x = y
      · subst hxy
        obtain ⟨K, hK⟩ := ih (p ++ [x]) (p' ++ [x]) q q' (by simp [hp]) (by omega) (by omega) (by simp; omega)
        (try dsimp only at hK)
        refine ⟨K + 1, fun k hk => ?_⟩
        (try dsimp only)
        obtain ⟨k, rfl, hk'⟩ := within_lo hk
        simp only [laws_eqIntS.l0]
        have hK' := hK k hk'
        simp only [List.append_assoc, List.cons_append, List.nil_append] at hK'
        rw [if_pos (by simp; omega), if_pos (by omega), if_pos (by simp; omega), r1, r2, if_pos rfl, e1, hK']
        simp
      · refine ⟨1, fun k hk => ?_⟩
        (try dsimp only)
        obtain ⟨k, rfl⟩ : ∃ m, k = m + 1 := ⟨k - 1, by omega⟩
        simp only [laws_eqIntS.l0]
        rw [if_pos (by simp; omega), if_pos (by omega), if_pos (by simp; omega), r1, r2, if_neg hxy]
        simp [hxy]
theorem eqIntS_ev (a b : List Int) (h : a.length ≤ 1000000000000000) : Ev (fun k => laws_eqIntS.f k a b) (decide (a = b)) := by
  by_cases hl : a.length = b.length
  · obtain ⟨K, hK⟩ := eqIntS_l0 a.length [] [] a b rfl rfl hl.symm (by simpa using h)
    (try dsimp only at hK)
    refine ⟨K, fun k hk => ?_⟩
    (try dsimp only)
    unfold laws_eqIntS.f
    rw [if_pos (by omega)]
    exact hK k hk
  · refine ⟨0, fun k _ => ?_⟩
    (try dsimp only)
    unfold laws_eqIntS.f
    rw [if_neg (by omega)]
    congr 1; symm
    rw [decide_eq_false_iff_not]
    rintro rfl; exact hl rfl

theorem szIntS_some (l : List Int) (a : Int) (ha : a ≤ 1048576) (ha0 : 0 ≤ a) (hl : l.length ≤ maxLen) : laws_szIntS.f l a = some (if (l.length : Int) ≤ a then a - l.length else -1) := by
  unfold maxLen at hl
  unfold laws_szIntS.f
  rw [wrap64_id (by omega) (by omega)]
  by_cases h : (l.length : Int) ≤ a
  · rw [if_neg (by omega), if_pos h]
  · rw [if_pos (by omega), if_neg h]
theorem szState_some (a b c : List Int) (ha : a.length ≤ maxLen) (hb : b.length ≤ maxLen) (hc : c.length ≤ maxLen) :
    ∃ r, laws_szState.f a b c 1048576 = some r ∧ (r < 0 ∨ a.length ≤ 1048576 ∧ b.length ≤ 1048576 ∧ c.length ≤ 1048576) := by
  unfold laws_szState.f
  rw [szIntS_some a _ (by omega) (by omega) ha, Option.bind_some]
  by_cases h1 : (a.length : Int) ≤ 1048576
  · rw [if_pos h1, if_neg (by omega), szIntS_some b _ (by omega) (by omega) hb, Option.bind_some]
    by_cases h2 : (b.length : Int) ≤ 1048576 - a.length
    · rw [if_pos h2, if_neg (by omega), szIntS_some c _ (by omega) (by omega) hc, Option.bind_some]
      by_cases h3 : (c.length : Int) ≤ 1048576 - a.length - b.length
      · rw [if_pos h3, if_neg (by omega)]; exact ⟨_, rfl, .inr ⟨by omega, by omega, by omega⟩⟩
      · rw [if_neg h3, if_pos (by omega)]; exact ⟨_, rfl, .inl (by omega)⟩
    · rw [if_neg h2, if_pos (by omega)]; exact ⟨_, rfl, .inl (by omega)⟩
  · rw [if_neg h1, if_pos (by omega)]; exact ⟨_, rfl, .inl (by omega)⟩
theorem toState_ev (a b c : List Int) (ha : a.length ≤ 1048576) (hb : b.length ≤ 1048576) (hc : c.length ≤ 1048576) : Ev (fun k => laws_toState.f k a b c) (a, b, c) := by
  unfold laws_toState.f
  exact Ev.bind (toIntS_ev a ha) (Ev.bind (toIntS_ev b hb) (Ev.bind (toIntS_ev c hc) (Ev.now _)))
theorem eqState_ev (a b c : List Int) (ha : a.length ≤ 1048576) (hb : b.length ≤ 1048576) (hc : c.length ≤ 1048576) : Ev (fun k => laws_eqState.f k a b c a b c) true := by
  unfold laws_eqState.f
  exact Ev.bind (eqIntS_ev a a (by omega)) (Ev.ite_pos (by simp) (Ev.bind (eqIntS_ev b b (by omega)) (Ev.ite_pos (by simp) (Ev.bind (eqIntS_ev c c (by omega)) (Ev.ite_pos (by simp) (Ev.now _))))))

theorem l1In_eq (a b c : Int) : spec_l1In.f a b c = some (decide (b ≤ a ∧ a ≤ c)) := by
  unfold spec_l1In.f
  by_cases h : a ≥ b
  · rw [if_pos h]; simp [show b ≤ a from h]
  · rw [if_neg h]; simp; omega

theorem within_eq (a b c : Int) : impl_within.f a b c = some (decide (b ≤ a ∧ a ≤ c)) := by
  unfold impl_within.f
  by_cases h : a ≥ b
  · rw [if_pos h]; simp [show b ≤ a from h]
  · rw [if_neg h]; simp; omega

theorem isWord_eq (a : Int) : impl_isWord.f a = some (decide (0 ≤ a ∧ a ≤ 65535)) := by
  unfold impl_isWord.f; rw [within_eq]; rfl
theorem isTwo_eq (a : Int) : impl_isTwo.f a = some (decide (4 ≤ a ∧ a ≤ 9)) := by
  unfold impl_isTwo.f; rw [within_eq]; rfl
/-- Whether all numbers are words. -/
def wordsB (l : List Int) : Bool := l.all fun x => decide (0 ≤ x ∧ x ≤ 65535)
theorem l5Words_ev (l : List Int) (n : Int) (h : l.length ≤ 1048576) : Ev (fun k => spec_l5Words.f k l n) (wordsB l && ((l.length : Int) == n)) := by
  have main := Ev.range l (fun k (_ : Unit) i => spec_l5Words.l0 k l n l (l.length : Int) i) (fun _ q => wordsB q && ((l.length : Int) == n)) (fun _ _ => True) ?_ ?_ () trivial
  · exact main
  · intro b _
    refine Ev.succ ?_
    simp only [spec_l5Words.l0]
    refine Ev.ite_neg (by omega) (Ev.some ?_)
    simp [wordsB]
  · intro b p x q e _ ih
    have hl : l.length = p.length + (q.length + 1) := by rw [e]; simp
    have hr : rd l (p.length : Int) = x := by rw [e]; exact rd_mid p q x
    refine Ev.succ ?_
    simp only [spec_l5Words.l0]
    refine Ev.ite_pos (by omega) (Ev.ite_pos (by omega) (Ev.ite_pos (by omega) ?_))
    rw [hr]
    simp only [l1In_eq, Option.bind_some]
    by_cases hx : 0 ≤ x ∧ x ≤ 65535
    · refine Ev.ite_pos (by simpa using hx) ?_
      rw [wrap64_id (by omega) (by omega)]
      refine Ev.cast (ih () trivial) ?_
      simp [wordsB, hx]
    · refine Ev.ite_neg (by simpa using hx) (Ev.some ?_)
      simp only [wordsB, List.all_cons, decide_eq_false hx, Bool.false_and]

theorem findIdx_any {α : Type} (p : α → Bool) (l : List α) : decide ((match l.findIdx? p with | some j => (j : Int) | none => -1) ≥ 0) = l.any p := by
  rw [Bool.eq_iff_iff, decide_eq_true_iff, List.any_eq_true]
  cases hf : l.findIdx? p with
  | none =>
    rw [List.findIdx?_eq_none_iff] at hf
    constructor
    · intro h; simp only [ge_iff_le] at h; omega
    · rintro ⟨x, hx, h⟩; rw [hf x hx] at h; simp at h
  | some j =>
    constructor
    · intro _
      obtain ⟨hj, h1, _⟩ := List.findIdx?_eq_some_iff_getElem.mp hf
      exact ⟨l[j], List.getElem_mem hj, h1⟩
    · intro _; simp only [ge_iff_le]; omega
/-- A loop that looks for the first element that is so. -/
theorem Ev.index {α : Type} (l : List α) (F : Nat → Int → Option Int) (pr : α → Bool)
    (h0 : Ev (fun k => F k (l.length : Int)) (-1))
    (hs : ∀ p x q, l = p ++ x :: q → pr x = true → Ev (fun k => F k (p.length : Int)) (p.length : Int))
    (hn : ∀ p x q r, l = p ++ x :: q → pr x = false → Ev (fun k => F k ((p.length : Int) + 1)) r → Ev (fun k => F k (p.length : Int)) r) :
    Ev (fun k => F k 0) (match l.findIdx? pr with | some j => (j : Int) | none => -1) := by
  have main : ∀ (q p : List α), l = p ++ q → Ev (fun k => F k (p.length : Int)) (match q.findIdx? pr with | some j => ((p.length + j : Nat) : Int) | none => -1) := by
    intro q
    induction q with
    | nil => intro p e; rw [e, List.append_nil] at h0; exact h0
    | cons x q ih =>
      intro p e
      cases hx : pr x with
      | true =>
        have := hs p x q e hx
        rw [List.findIdx?_cons, hx]; simpa using this
      | false =>
        have := ih (p ++ [x]) (by rw [e]; simp)
        have e2 : ((p ++ [x]).length : Int) = (p.length : Int) + 1 := by simp
        rw [e2] at this
        have := hn p x q _ e hx this
        rw [List.findIdx?_cons, hx]
        refine Ev.cast this ?_
        cases q.findIdx? pr with
        | none => rfl
        | some j => simp; omega
  have := main l [] rfl
  refine Ev.cast this ?_
  cases l.findIdx? pr with
  | none => rfl
  | some j => simp

theorem wordsOK_ev (l : List Int) (h : l.length ≤ 1048576) : Ev (fun k => impl_wordsOK.f k l) (wordsB l) := by
  have hp : ∀ a : Int, impl_wordsOK_1.f a = some (!decide (0 ≤ a ∧ a ≤ 65535)) := by
    intro a; unfold impl_wordsOK_1.f; rw [isWord_eq]; rfl
  have main := Ev.index l (fun k i => slices_IndexFunc_int_int__impl_wordsOK_1.l0 k l (l.length : Int) i) (fun a => !decide (0 ≤ a ∧ a ≤ 65535)) ?_ ?_ ?_
  · unfold impl_wordsOK.f slices_ContainsFunc_int_int__impl_wordsOK_1.f slices_IndexFunc_int_int__impl_wordsOK_1.f
    refine Ev.bind (Ev.bind main (Ev.now _)) ?_
    refine Ev.some ?_
    rw [findIdx_any]
    unfold wordsB
    rw [List.not_any_eq_all_not]
    simp only [Bool.not_not]
  · refine Ev.succ ?_
    simp only [slices_IndexFunc_int_int__impl_wordsOK_1.l0]
    exact Ev.ite_neg (by omega) (Ev.now _)
  · intro p x q e hx
    have hl : l.length = p.length + (q.length + 1) := by rw [e]; simp
    have hr : rd l (p.length : Int) = x := by rw [e]; exact rd_mid p q x
    refine Ev.succ ?_
    simp only [slices_IndexFunc_int_int__impl_wordsOK_1.l0, hp, hr, hx, Option.bind_some]
    exact Ev.ite_pos (by omega) (Ev.ite_pos (by omega) (Ev.ite_pos (by omega) (Ev.ite_pos (by trivial) (Ev.now _))))
  · intro p x q r e hx hh
    have hl : l.length = p.length + (q.length + 1) := by rw [e]; simp
    have hr : rd l (p.length : Int) = x := by rw [e]; exact rd_mid p q x
    refine Ev.succ ?_
    simp only [slices_IndexFunc_int_int__impl_wordsOK_1.l0, hp, hr, hx, Option.bind_some]
    refine Ev.ite_pos (by omega) (Ev.ite_pos (by omega) (Ev.ite_pos (by omega) (Ev.ite_neg (by simp) ?_)))
    rw [wrap64_id (by omega) (by omega)]
    exact hh

/-- Whether a state is good. -/
def goodStateB (a b c : List Int) : Bool := decide (a.length = 8) && (decide (b.length = 16) && (decide (c.length ≤ 100) && (wordsB a && (wordsB b && wordsB c))))
theorem sGoodState_ev (a b c : List Int) (ha : a.length ≤ 1048576) (hb : b.length ≤ 1048576) (hc : c.length ≤ 1048576) : Ev (fun k => spec_GoodState.f k a b c) (goodStateB a b c) := by
  unfold spec_GoodState.f goodStateB
  refine Ev.bind (l5Words_ev a 8 ha) ?_
  by_cases h1 : a.length = 8 ∧ wordsB a = true
  · refine Ev.ite_pos (by simp [h1]) (Ev.bind (l5Words_ev b 16 hb) ?_)
    by_cases h2 : b.length = 16 ∧ wordsB b = true
    · refine Ev.ite_pos (by simp [h2]) ?_
      by_cases h3 : c.length ≤ 100
      · refine Ev.ite_pos (by omega) (Ev.bind (l5Words_ev c _ hc) (Ev.some ?_))
        simp [h1, h2, h3]
      · refine Ev.ite_neg (by omega) (Ev.some ?_)
        simp [h3]
    · refine Ev.ite_neg ?_ (Ev.some ?_)
      · simp only [Bool.and_eq_true, beq_iff_eq]; rintro ⟨h, h'⟩; exact h2 ⟨by omega, h⟩
      · symm; simp only [Bool.and_eq_false_iff, decide_eq_false_iff_not]
        by_cases h3 : b.length = 16
        · exact .inr (.inr (.inr (.inr (.inl (by cases hw : wordsB b <;> simp_all)))))
        · exact .inr (.inl h3)
  · refine Ev.ite_neg ?_ (Ev.some ?_)
    · simp only [Bool.and_eq_true, beq_iff_eq]; rintro ⟨h, h'⟩; exact h1 ⟨by omega, h⟩
    · symm; simp only [Bool.and_eq_false_iff, decide_eq_false_iff_not]
      by_cases h3 : a.length = 8
      · exact .inr (.inr (.inr (.inl (by cases hw : wordsB a <;> simp_all))))
      · exact .inl h3
theorem iGoodState_ev (a b c : List Int) (ha : a.length ≤ 1048576) (hb : b.length ≤ 1048576) (hc : c.length ≤ 1048576) : Ev (fun k => impl_GoodState.f k a b c) (goodStateB a b c) := by
  unfold impl_GoodState.f goodStateB
  by_cases h1 : a.length = 8
  · refine Ev.ite_pos (by omega) ?_
    by_cases h2 : b.length = 16
    · refine Ev.ite_pos (by omega) ?_
      by_cases h3 : c.length ≤ 100
      · refine Ev.ite_pos (by omega) (Ev.bind (wordsOK_ev a ha) ?_)
        cases wa : wordsB a with
        | false => exact Ev.ite_neg (by simp) (Ev.some (by simp))
        | true =>
          refine Ev.ite_pos rfl (Ev.bind (wordsOK_ev b hb) ?_)
          cases wb : wordsB b with
          | false => exact Ev.ite_neg (by simp) (Ev.some (by simp))
          | true => exact Ev.ite_pos rfl (Ev.bind (wordsOK_ev c hc) (Ev.some (by simp [h1, h2, h3])))
      · exact Ev.ite_neg (by omega) (Ev.some (by simp [h3]))
    · exact Ev.ite_neg (by omega) (Ev.some (by simp [h2]))
  · exact Ev.ite_neg (by omega) (Ev.some (by simp [h1]))

theorem FnExactGoodState : laws_FnExactGoodState.Pure := by
  intro a b c ha _ hb _ hc _
  refine Ev.rounds (g := fun k => laws_FnExactGoodState.f k a b c) ?_
  unfold laws_FnExactGoodState.f
  obtain ⟨r, hr, h⟩ := szState_some a b c ha hb hc
  rw [hr]
  simp only [Option.bind_some]
  by_cases hn : r < 0
  · exact Ev.ite_pos hn (Ev.now _)
  · obtain ⟨h1, h2, h3⟩ := h.resolve_left hn
    refine Ev.ite_neg hn (Ev.bind (toState_ev a b c h1 h2 h3) (Ev.bind (sGoodState_ev a b c h1 h2 h3) (Ev.bind (toState_ev a b c h1 h2 h3) (Ev.bind (iGoodState_ev a b c h1 h2 h3) ?_))))
    exact Ev.ite_neg (by simp) (Ev.bind (toState_ev a b c h1 h2 h3) (Ev.bind (eqState_ev a b c h1 h2 h3) (Ev.ite_pos rfl (Ev.now _))))

end Go.Proofs.Ytcfhpjfkmjlkjaa.Pure
