/- Of every op and all words the law of doword tells true. No condition beyond the row's own. -/
import Derived.Test.YtcfhpjfkmjlkjaaQ1
import Derived.Test.YtcfhpjfkmjlkjaaQ2
import Derived.Test.YtcfhpjfkmjlkjaaQ3
import Derived.Test.YtcfhpjfkmjlkjaaLib1
namespace Go.Proofs.Ytcfhpjfkmjlkjaa.Pure
open Go.RowKit Go.Proofs.Ytcfhpjfkmjlkjaa.Lib Go.Proofs.Ytcfhpjfkmjlkjaa.Q Go.Proofs.YtcfhpjfkmjlkjaaW.PrintWords Go.Proofs.YtcfhpjfkmjlkjaaW.PrintLast Go.Proofs.YtcfhpjfkmjlkjaaW.PrintMore
set_option linter.unusedVariables false
set_option linter.unusedSimpArgs false

theorem l1In_eq (a b c : Int) : spec_l1In.f a b c = some (decide (b ≤ a ∧ a ≤ c)) := by
  unfold spec_l1In.f
  by_cases h : a ≥ b
  · rw [if_pos h]; simp [show b ≤ a from h]
  · rw [if_neg h]; simp; omega

theorem within_eq (a b c : Int) : impl_within.f a b c = some (decide (b ≤ a ∧ a ≤ c)) := by
  unfold impl_within.f
  by_cases h : a ≥ b
  · rw [if_pos h]; simp [show b ≤ a from h]
  · rw [if_neg h]; simp; omega

theorem isWord_eq (a : Int) : impl_isWord.f a = some (decide (0 ≤ a ∧ a ≤ 65535)) := by
  unfold impl_isWord.f; rw [within_eq]; rfl
theorem isTwo_eq (a : Int) : impl_isTwo.f a = some (decide (4 ≤ a ∧ a ≤ 9)) := by
  unfold impl_isTwo.f; rw [within_eq]; rfl
/-- Whether all numbers are words. -/
def wordsB (l : List Int) : Bool := l.all fun x => decide (0 ≤ x ∧ x ≤ 65535)
theorem l5Words_ev (l : List Int) (n : Int) (h : l.length ≤ 1048576) : Ev (fun k => spec_l5Words.f k l n) (wordsB l && ((l.length : Int) == n)) := by
  have main := Ev.range l (fun k (_ : Unit) i => spec_l5Words.l0 k l n l (l.length : Int) i) (fun _ q => wordsB q && ((l.length : Int) == n)) (fun _ _ => True) ?_ ?_ () trivial
  · exact main
  · intro b _
    refine Ev.succ ?_
    simp only [spec_l5Words.l0]
    refine Ev.ite_neg (by omega) (Ev.some ?_)
    simp [wordsB]
  · intro b p x q e _ ih
    have hl : l.length = p.length + (q.length + 1) := by rw [e]; simp
    have hr : rd l (p.length : Int) = x := by rw [e]; exact rd_mid p q x
    refine Ev.succ ?_
    simp only [spec_l5Words.l0]
    refine Ev.ite_pos (by omega) (Ev.ite_pos (by omega) (Ev.ite_pos (by omega) ?_))
    rw [hr]
    simp only [l1In_eq, Option.bind_some]
    by_cases hx : 0 ≤ x ∧ x ≤ 65535
    · refine Ev.ite_pos (by simpa using hx) ?_
      rw [wrap64_id (by omega) (by omega)]
      refine Ev.cast (ih () trivial) ?_
      simp [wordsB, hx]
    · refine Ev.ite_neg (by simpa using hx) (Ev.some ?_)
      simp only [wordsB, List.all_cons, decide_eq_false hx, Bool.false_and]

theorem doWord_same (op a b : Int) : impl_doWord.f op a b = spec_l5Do.f op a b := by
  unfold impl_doWord.f spec_l5Do.f impl_oneIf.f spec_l5Bit.f; rfl
theorem l5Do_some (op a b : Int) : ∃ n d, spec_l5Do.f op a b = some (n, d) := by
  unfold spec_l5Do.f spec_l5Bit.f
  (repeat' split) <;> first | exact ⟨_, _, rfl⟩ | (dsimp only [Option.bind_some]; exact ⟨_, _, rfl⟩)
/-- What DoWord answers. -/
theorem doWord_both (op a b : Int) : ∃ r, Ev (fun k => spec_DoWord.f k op a b) r ∧ impl_DoWord.f op a b = some r := by
  have hw := l5Words_ev [a, b] 2 (by simp)
  obtain ⟨n, d, hd⟩ := l5Do_some op a b
  by_cases h : 4 ≤ op ∧ op ≤ 9
  · by_cases h2 : (0 ≤ a ∧ a ≤ 65535) ∧ (0 ≤ b ∧ b ≤ 65535)
    · refine ⟨(n, d, true), ?_, ?_⟩
      · unfold spec_DoWord.f
        simp only [l1In_eq, Option.bind_some]
        refine Ev.ite_pos (by simpa using h) (Ev.bind hw ?_)
        refine Ev.ite_pos (by simp [wordsB, h2.1, h2.2]) ?_
        rw [hd]; exact Ev.now _
      · unfold impl_DoWord.f
        rw [isTwo_eq, Option.bind_some, if_pos (by simpa using h), isWord_eq, Option.bind_some, if_pos (by simpa using h2.1), isWord_eq, Option.bind_some, if_pos (by simpa using h2.2), doWord_same, hd]; rfl
    · refine ⟨(0, false, false), ?_, ?_⟩
      · unfold spec_DoWord.f
        simp only [l1In_eq, Option.bind_some]
        refine Ev.ite_pos (by simpa using h) (Ev.bind hw ?_)
        refine Ev.ite_neg ?_ (Ev.now _)
        simp only [wordsB, List.all_cons, List.all_nil, Bool.and_true, Bool.and_eq_true, decide_eq_true_eq, List.length_cons, List.length_nil]
        intro hc; exact h2 ⟨hc.1.1, hc.1.2⟩
      · unfold impl_DoWord.f
        rw [isTwo_eq, Option.bind_some, if_pos (by simpa using h), isWord_eq, Option.bind_some]
        by_cases h3 : 0 ≤ a ∧ a ≤ 65535
        · rw [if_pos (by simpa using h3), isWord_eq, Option.bind_some, if_neg (by simpa using fun h4 => fun h5 => h2 ⟨h3, h4, h5⟩)]
        · rw [if_neg (by simpa using h3)]
  · refine ⟨(0, false, false), ?_, ?_⟩
    · unfold spec_DoWord.f
      simp only [l1In_eq, Option.bind_some]
      exact Ev.ite_neg (by simpa using h) (Ev.now _)
    · unfold impl_DoWord.f
      rw [isTwo_eq, Option.bind_some, if_neg (by simpa using h)]

theorem FnExactDoWord : laws_FnExactDoWord.Pure := by
  intro op a b _ _ _
  obtain ⟨⟨n, d, o⟩, h1, h2⟩ := doWord_both op a b
  refine Ev.rounds (g := fun k => laws_FnExactDoWord.f k op a b) ?_
  unfold laws_FnExactDoWord.f
  refine Ev.bind h1 ?_
  rw [h2]
  simp only [Option.bind_some]
  exact Ev.ite_pos (by trivial) (Ev.ite_neg (by simp) (Ev.ite_neg (by simp) (Ev.now _)))

end Go.Proofs.Ytcfhpjfkmjlkjaa.Pure
