/- Of all words the law of newstate tells true. No condition beyond the row's own. -/
import Derived.Test.YtcfhpjfkmjlkjaaQ1
import Derived.Test.YtcfhpjfkmjlkjaaQ10
import Derived.Test.YtcfhpjfkmjlkjaaQ2
import Derived.Test.YtcfhpjfkmjlkjaaQ3
import Derived.Test.YtcfhpjfkmjlkjaaQ4
import Derived.Test.YtcfhpjfkmjlkjaaQ5
import Derived.Test.YtcfhpjfkmjlkjaaQ6
import Derived.Test.YtcfhpjfkmjlkjaaQ7
import Derived.Test.YtcfhpjfkmjlkjaaQ8
import Derived.Test.YtcfhpjfkmjlkjaaQ9
import Derived.Test.YtcfhpjfkmjlkjaaLib1
namespace Go.Proofs.Ytcfhpjfkmjlkjaa.Pure
open Go.RowKit Go.Proofs.Ytcfhpjfkmjlkjaa.Lib Go.Proofs.Ytcfhpjfkmjlkjaa.Q Go.Proofs.YtcfhpjfkmjlkjaaW.PrintWords Go.Proofs.YtcfhpjfkmjlkjaaW.PrintLast Go.Proofs.YtcfhpjfkmjlkjaaW.PrintMore
set_option linter.unusedVariables false
set_option linter.unusedSimpArgs false

theorem l1In_eq (a b c : Int) : spec_l1In.f a b c = some (decide (b ≤ a ∧ a ≤ c)) := by
  unfold spec_l1In.f
  by_cases h : a ≥ b
  · rw [if_pos h]; simp [show b ≤ a from h]
  · rw [if_neg h]; simp; omega

theorem within_eq (a b c : Int) : impl_within.f a b c = some (decide (b ≤ a ∧ a ≤ c)) := by
  unfold impl_within.f
  by_cases h : a ≥ b
  · rw [if_pos h]; simp [show b ≤ a from h]
  · rw [if_neg h]; simp; omega

theorem isWord_eq (a : Int) : impl_isWord.f a = some (decide (0 ≤ a ∧ a ≤ 65535)) := by
  unfold impl_isWord.f; rw [within_eq]; rfl
theorem isTwo_eq (a : Int) : impl_isTwo.f a = some (decide (4 ≤ a ∧ a ≤ 9)) := by
  unfold impl_isTwo.f; rw [within_eq]; rfl
/-- Whether all numbers are words. -/
def wordsB (l : List Int) : Bool := l.all fun x => decide (0 ≤ x ∧ x ≤ 65535)
theorem l5Words_ev (l : List Int) (n : Int) (h : l.length ≤ 1048576) : Ev (fun k => spec_l5Words.f k l n) (wordsB l && ((l.length : Int) == n)) := by
  have main := Ev.range l (fun k (_ : Unit) i => spec_l5Words.l0 k l n l (l.length : Int) i) (fun _ q => wordsB q && ((l.length : Int) == n)) (fun _ _ => True) ?_ ?_ () trivial
  · exact main
  · intro b _
    refine Ev.succ ?_
    simp only [spec_l5Words.l0]
    refine Ev.ite_neg (by omega) (Ev.some ?_)
    simp [wordsB]
  · intro b p x q e _ ih
    have hl : l.length = p.length + (q.length + 1) := by rw [e]; simp
    have hr : rd l (p.length : Int) = x := by rw [e]; exact rd_mid p q x
    refine Ev.succ ?_
    simp only [spec_l5Words.l0]
    refine Ev.ite_pos (by omega) (Ev.ite_pos (by omega) (Ev.ite_pos (by omega) ?_))
    rw [hr]
    simp only [l1In_eq, Option.bind_some]
    by_cases hx : 0 ≤ x ∧ x ≤ 65535
    · refine Ev.ite_pos (by simpa using hx) ?_
      rw [wrap64_id (by omega) (by omega)]
      refine Ev.cast (ih () trivial) ?_
      simp [wordsB, hx]
    · refine Ev.ite_neg (by simpa using hx) (Ev.some ?_)
      simp only [wordsB, List.all_cons, decide_eq_false hx, Bool.false_and]

theorem toIntS_l0 (q : List Int) : ∀ (p : List Int), p.length + q.length ≤ 1000000000000000 → Ev (fun k => laws_toIntS.l0 k (p ++ q) (p ++ List.replicate q.length 0) (p.length : Int)) (p ++ q) := by
  induction q with
  | nil =>
    intro p h0
    refine ⟨1, fun k hk => ?_⟩
    (try dsimp only)
    obtain ⟨k, rfl⟩ : ∃ m, k = m + 1 := ⟨k - 1, by omega⟩
    simp only [laws_toIntS.l0]
    rw [if_neg (by simp)]; simp
  | cons x q ih =>
    intro p h0
    simp only [List.length_cons] at h0
    obtain ⟨K, hK⟩ := ih (p ++ [x]) (by simp; omega)
    (try dsimp only at hK)
    refine ⟨K + 1, fun k hk => ?_⟩
    (try dsimp only)
    obtain ⟨k, rfl, hk'⟩ := within_lo hk
    simp only [laws_toIntS.l0]
    have hK' := hK k hk'
    simp only [List.append_assoc, List.cons_append, List.nil_append] at hK'
    have e1 : wrap64 ((p.length : Int) + 1) = ((p ++ [x]).length : Int) := by
      rw [wrap64_id (by omega) (by omega)]; simp
    rw [if_pos (by simp; omega), if_pos (by omega), if_pos (by simp; omega), Int.toNat_natCast, rd_mid, List.length_cons, List.replicate_succ, set_mid, e1, hK']
theorem toIntS_ev (l : List Int) (h : l.length ≤ 1048576) : Ev (fun k => laws_toIntS.f k l) l := by
  obtain ⟨K, hK⟩ := toIntS_l0 l [] (by simp; omega)
  (try dsimp only at hK)
  refine ⟨K, fun k hk => ?_⟩
  (try dsimp only)
  unfold laws_toIntS.f
  rw [if_pos (by omega), if_pos (by omega), Int.toNat_natCast]
  exact hK k hk

theorem eqIntS_l0 (d : Nat) : ∀ (p p' q q' : List Int), p.length = p'.length → q.length = d → q'.length = d → p.length + d ≤ 1000000000000000 → Ev (fun k => laws_eqIntS.l0 k (p ++ q) (p' ++ q') (p.length : Int)) (decide (q = q')) := by
  induction d with
  | zero =>
    intro p p' q q' hp hq hq' hb
    obtain rfl : q = [] := by simpa using hq
    obtain rfl : q' = [] := by simpa using hq'
    refine ⟨1, fun k hk => ?_⟩
    (try dsimp only)
    obtain ⟨k, rfl⟩ : ∃ m, k = m + 1 := ⟨k - 1, by omega⟩
    simp only [laws_eqIntS.l0]
    rw [if_neg (by simp)]; rfl
  | succ d ih =>
    intro p p' q q' hp hq hq' hb
    match q, q', hq, hq' with
    | x :: q, y :: q', hq, hq' =>
      simp only [List.length_cons] at hq hq'
      have r1 := rd_mid p q x
      have r2 := rd_mid p' q' y
      rw [← hp] at r2
      have e1 : wrap64 ((p.length : Int) + 1) = ((p ++ [x]).length : Int) := by
        rw [wrap64_id (by omega) (by omega)]; simp
      by_cases hxy : x = y
      · subst hxy
        obtain ⟨K, hK⟩ := ih (p ++ [x]) (p' ++ [x]) q q' (by simp [hp]) (by omega) (by omega) (by simp; omega)
        (try dsimp only at hK)
        refine ⟨K + 1, fun k hk => ?_⟩
        (try dsimp only)
        obtain ⟨k, rfl, hk'⟩ := within_lo hk
        simp only [laws_eqIntS.l0]
        have hK' := hK k hk'
        simp only [List.append_assoc, List.cons_append, List.nil_append] at hK'
        rw [if_pos (by simp; omega), if_pos (by omega), if_pos (by simp; omega), r1, r2, if_pos rfl, e1, hK']
        simp
      · refine ⟨1, fun k hk => ?_⟩
        (try dsimp only)
        obtain ⟨k, rfl⟩ : ∃ m, k = m + 1 := ⟨k - 1, by omega⟩
        simp only [laws_eqIntS.l0]
        rw [if_pos (by simp; omega), if_pos (by omega), if_pos (by simp; omega), r1, r2, if_neg hxy]
        simp [hxy]
theorem eqIntS_ev (a b : List Int) (h : a.length ≤ 1000000000000000) : Ev (fun k => laws_eqIntS.f k a b) (decide (a = b)) := by
  by_cases hl : a.length = b.length
  · obtain ⟨K, hK⟩ := eqIntS_l0 a.length [] [] a b rfl rfl hl.symm (by simpa using h)
    (try dsimp only at hK)
    refine ⟨K, fun k hk => ?_⟩
    (try dsimp only)
    unfold laws_eqIntS.f
    rw [if_pos (by omega)]
    exact hK k hk
  · refine ⟨0, fun k _ => ?_⟩
    (try dsimp only)
    unfold laws_eqIntS.f
    rw [if_neg (by omega)]
    congr 1; symm
    rw [decide_eq_false_iff_not]
    rintro rfl; exact hl rfl

theorem szIntS_some (l : List Int) (a : Int) (ha : a ≤ 1048576) (ha0 : 0 ≤ a) (hl : l.length ≤ maxLen) : laws_szIntS.f l a = some (if (l.length : Int) ≤ a then a - l.length else -1) := by
  unfold maxLen at hl
  unfold laws_szIntS.f
  rw [wrap64_id (by omega) (by omega)]
  by_cases h : (l.length : Int) ≤ a
  · rw [if_neg (by omega), if_pos h]
  · rw [if_pos (by omega), if_neg h]
theorem szState_some (a b c : List Int) (ha : a.length ≤ maxLen) (hb : b.length ≤ maxLen) (hc : c.length ≤ maxLen) :
    ∃ r, laws_szState.f a b c 1048576 = some r ∧ (r < 0 ∨ a.length ≤ 1048576 ∧ b.length ≤ 1048576 ∧ c.length ≤ 1048576) := by
  unfold laws_szState.f
  rw [szIntS_some a _ (by omega) (by omega) ha, Option.bind_some]
  by_cases h1 : (a.length : Int) ≤ 1048576
  · rw [if_pos h1, if_neg (by omega), szIntS_some b _ (by omega) (by omega) hb, Option.bind_some]
    by_cases h2 : (b.length : Int) ≤ 1048576 - a.length
    · rw [if_pos h2, if_neg (by omega), szIntS_some c _ (by omega) (by omega) hc, Option.bind_some]
      by_cases h3 : (c.length : Int) ≤ 1048576 - a.length - b.length
      · rw [if_pos h3, if_neg (by omega)]; exact ⟨_, rfl, .inr ⟨by omega, by omega, by omega⟩⟩
      · rw [if_neg h3, if_pos (by omega)]; exact ⟨_, rfl, .inl (by omega)⟩
    · rw [if_neg h2, if_pos (by omega)]; exact ⟨_, rfl, .inl (by omega)⟩
  · rw [if_neg h1, if_pos (by omega)]; exact ⟨_, rfl, .inl (by omega)⟩
theorem toState_ev (a b c : List Int) (ha : a.length ≤ 1048576) (hb : b.length ≤ 1048576) (hc : c.length ≤ 1048576) : Ev (fun k => laws_toState.f k a b c) (a, b, c) := by
  unfold laws_toState.f
  exact Ev.bind (toIntS_ev a ha) (Ev.bind (toIntS_ev b hb) (Ev.bind (toIntS_ev c hc) (Ev.now _)))
theorem eqState_ev (a b c : List Int) (ha : a.length ≤ 1048576) (hb : b.length ≤ 1048576) (hc : c.length ≤ 1048576) : Ev (fun k => laws_eqState.f k a b c a b c) true := by
  unfold laws_eqState.f
  exact Ev.bind (eqIntS_ev a a (by omega)) (Ev.ite_pos (by simp) (Ev.bind (eqIntS_ev b b (by omega)) (Ev.ite_pos (by simp) (Ev.bind (eqIntS_ev c c (by omega)) (Ev.ite_pos (by simp) (Ev.now _))))))

theorem heldIntS_l0 (n : Nat) : ∀ (p : List Int) (a : Int), p.length + n ≤ 1000000000000000 → -1000000000000000 ≤ a → a + n ≤ 1000000000000000000 → Ev (fun k => laws_heldIntS.l0 k (p ++ upI a n) a (p.length : Int)) (a + n) := by
  induction n with
  | zero =>
    intro p a h0 h1 h2
    refine ⟨1, fun k hk => ?_⟩
    (try dsimp only)
    obtain ⟨k, rfl⟩ : ∃ m, k = m + 1 := ⟨k - 1, by omega⟩
    simp only [laws_heldIntS.l0]
    rw [if_neg (by simp [upI])]; simp
  | succ n ih =>
    intro p a h0 h1 h2
    obtain ⟨K, hK⟩ := ih (p ++ [a]) (a + 1) (by simp; omega) (by omega) (by omega)
    (try dsimp only at hK)
    refine ⟨K + 1, fun k hk => ?_⟩
    (try dsimp only)
    obtain ⟨k, rfl, hk'⟩ := within_lo hk
    rw [laws_heldIntS.l0, show upI a (n + 1) = a :: upI (a + 1) n from rfl]
    have hK' := hK k hk'
    simp only [List.append_assoc, List.cons_append, List.nil_append] at hK'
    have e1 : wrap64 ((p.length : Int) + 1) = ((p ++ [a]).length : Int) := by
      rw [wrap64_id (by omega) (by omega)]; simp
    rw [if_pos (by simp <;> omega), if_pos (by omega), rd_mid, if_pos rfl, e1, wrap64_id (by omega) (by omega), hK']
    congr 1; omega
theorem heldIntS_ev (n : Nat) (a : Int) (h0 : n ≤ 1000000000000000) (h1 : -1000000000000000 ≤ a) (h2 : a + n ≤ 1000000000000000000) : Ev (fun k => laws_heldIntS.f k (upI a n) a) (a + n) :=
  heldIntS_l0 n [] a (by simpa using h0) h1 h2

theorem markIntS_l0 (q : List Int) : ∀ (p : List Int) (a : Int), p.length + q.length ≤ 1000000000000000 → -1000000000000000 ≤ a → a + q.length ≤ 1000000000000000000 → Ev (fun k => laws_markIntS.l0 k (p ++ q) a (p.length : Int)) (a + q.length, p ++ upI a q.length) := by
  induction q with
  | nil =>
    intro p a h0 h1 h2
    refine ⟨1, fun k hk => ?_⟩
    (try dsimp only)
    obtain ⟨k, rfl⟩ : ∃ m, k = m + 1 := ⟨k - 1, by omega⟩
    simp only [laws_markIntS.l0]
    rw [if_neg (by simp)]; simp [upI]
  | cons x q ih =>
    intro p a h0 h1 h2
    simp only [List.length_cons] at h0 h2
    obtain ⟨K, hK⟩ := ih (p ++ [a]) (a + 1) (by simp; omega) (by omega) (by omega)
    (try dsimp only at hK)
    refine ⟨K + 1, fun k hk => ?_⟩
    (try dsimp only)
    obtain ⟨k, rfl, hk'⟩ := within_lo hk
    simp only [laws_markIntS.l0]
    have hK' := hK k hk'
    simp only [List.append_assoc, List.cons_append, List.nil_append] at hK'
    have e1 : wrap64 ((p.length : Int) + 1) = ((p ++ [a]).length : Int) := by
      rw [wrap64_id (by omega) (by omega)]; simp
    rw [if_pos (by simp; omega), if_pos (by omega), Int.toNat_natCast, set_mid, e1, wrap64_id (by omega) (by omega), hK']
    simp only [upI, List.length_cons]
    rw [show a + 1 + (q.length : Int) = a + ((q.length + 1 : Nat) : Int) from by omega]
theorem markIntS_ev (l : List Int) (a : Int) (h0 : l.length ≤ 1000000000000000) (h1 : -1000000000000000 ≤ a) (h2 : a + l.length ≤ 1000000000000000000) : Ev (fun k => laws_markIntS.f k l a) (a + l.length, upI a l.length) :=
  markIntS_l0 l [] a (by simpa using h0) h1 h2

/-- What NewState answers. -/
def newStateV (a b : Int) : List Int × List Int × List Int × Bool :=
  if (0 ≤ a ∧ a ≤ 65535) ∧ (0 ≤ b ∧ b ≤ 65535) then (a :: b :: List.replicate 6 0, List.replicate 16 0, [], true) else ([], [], [], false)
theorem sNewState_ev (a b : Int) : Ev (fun k => spec_NewState.f k a b) (newStateV a b) := by
  have hw := l5Words_ev [a, b] 2 (by simp)
  unfold spec_NewState.f newStateV
  refine Ev.bind hw ?_
  by_cases h : (0 ≤ a ∧ a ≤ 65535) ∧ (0 ≤ b ∧ b ≤ 65535)
  · refine Ev.ite_pos (by simp [wordsB, h.1, h.2]) ?_
    rw [if_pos h]
    refine Ev.ite_pos (by omega) ?_
    simp only [Option.bind_some]
    refine Ev.ite_pos (by simp) (Ev.ite_pos (by simp) (Ev.ite_pos (by omega) (Ev.some ?_)))
    rfl
  · rw [if_neg h]
    refine Ev.ite_neg ?_ (Ev.now _)
    simp only [wordsB, List.all_cons, List.all_nil, Bool.and_true, Bool.and_eq_true, decide_eq_true_eq, List.length_cons, List.length_nil]
    intro hc; exact h ⟨hc.1.1, hc.1.2⟩
theorem iNewState_some (a b : Int) : impl_NewState.f a b = some (newStateV a b) := by
  unfold impl_NewState.f newStateV
  rw [isWord_eq, Option.bind_some]
  by_cases h1 : 0 ≤ a ∧ a ≤ 65535
  · rw [if_pos (by simpa using h1), isWord_eq, Option.bind_some]
    by_cases h2 : 0 ≤ b ∧ b ≤ 65535
    · rw [if_pos (by simpa using h2), if_pos (by omega), Option.bind_some, if_pos (by omega), if_pos (by simp), if_pos (by simp), if_pos ⟨h1, h2⟩]
      rfl
    · rw [if_neg (by simpa using h2), if_neg (fun h => h2 h.2)]
  · rw [if_neg (by simpa using h1), if_neg (fun h => h1 h.1)]
theorem newStateV_len (a b : Int) : (newStateV a b).1.length ≤ 8 ∧ (newStateV a b).2.1.length ≤ 16 ∧ (newStateV a b).2.2.1.length = 0 := by
  unfold newStateV; split <;> simp
theorem markState_ev (a b c : List Int) (m : Int) (ha : a.length ≤ 1048576) (hb : b.length ≤ 1048576) (hc : c.length ≤ 1048576) (h0 : 0 ≤ m) (h1 : m ≤ 1048576) :
    Ev (fun k => laws_markState.f k a b c m) (m + a.length + b.length + c.length, upI m a.length, upI (m + a.length) b.length, upI (m + a.length + b.length) c.length) := by
  unfold laws_markState.f
  exact Ev.bind (markIntS_ev a m (by omega) (by omega) (by omega)) (Ev.bind (markIntS_ev b _ (by omega) (by omega) (by omega)) (Ev.bind (markIntS_ev c _ (by omega) (by omega) (by omega)) (Ev.now _)))
theorem heldState_ev (x y z : Nat) (m : Int) (ha : x ≤ 1048576) (hb : y ≤ 1048576) (hc : z ≤ 1048576) (h0 : 0 ≤ m) (h1 : m ≤ 1048576) :
    Ev (fun k => laws_heldState.f k (upI m x) (upI (m + x) y) (upI (m + x + y) z) m) (m + x + y + z) := by
  unfold laws_heldState.f
  exact Ev.bind (heldIntS_ev x m (by omega) (by omega) (by omega)) (Ev.ite_neg (by omega) (Ev.bind (heldIntS_ev y _ (by omega) (by omega) (by omega)) (Ev.ite_neg (by omega) (Ev.bind (heldIntS_ev z _ (by omega) (by omega) (by omega)) (Ev.ite_neg (by omega) (Ev.now _))))))

theorem FnExactNewState : laws_FnExactNewState.Pure := by
  intro a b _ _
  refine Ev.rounds (g := fun k => laws_FnExactNewState.f k a b) ?_
  obtain ⟨h1, h2, h3⟩ := newStateV_len a b
  have hs := sNewState_ev a b
  have hi := iNewState_some a b
  have he := eqState_ev (newStateV a b).1 (newStateV a b).2.1 (newStateV a b).2.2.1 (by omega) (by omega) (by omega)
  have hm := markState_ev (newStateV a b).1 (newStateV a b).2.1 (newStateV a b).2.2.1 1 (by omega) (by omega) (by omega) (by omega) (by omega)
  have hh := heldState_ev (newStateV a b).1.length (newStateV a b).2.1.length (newStateV a b).2.2.1.length 1 (by omega) (by omega) (by omega) (by omega) (by omega)
  unfold laws_FnExactNewState.f
  refine Ev.bind hs ?_
  refine Ev.bind (Ev.const hi) ?_
  refine Ev.bind he (Ev.ite_pos rfl ?_)
  refine Ev.succ ?_
  simp only [laws_FnExactNewState.j0]
  refine Ev.ite_neg (by simp) (Ev.bind hm ?_)
  refine Ev.bind hh (Ev.ite_neg (by omega) (Ev.ite_pos (by trivial) ?_))
  refine Ev.bind (Ev.const hi) (Ev.bind he (Ev.ite_pos rfl ?_))
  refine Ev.succ ?_
  simp only [laws_FnExactNewState.j1]
  exact Ev.ite_neg (by simp) (Ev.bind hh (Ev.ite_neg (by omega) (Ev.ite_pos (by trivial) (Ev.now _))))

end Go.Proofs.Ytcfhpjfkmjlkjaa.Pure
