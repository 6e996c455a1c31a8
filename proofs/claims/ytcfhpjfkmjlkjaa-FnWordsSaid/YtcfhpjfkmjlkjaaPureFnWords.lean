/- Of all drawn words the law of words tells true. No condition beyond the row's own. -/
import Derived.Test.YtcfhpjfkmjlkjaaQ1
import Derived.Test.YtcfhpjfkmjlkjaaQ10
import Derived.Test.YtcfhpjfkmjlkjaaQ11
import Derived.Test.YtcfhpjfkmjlkjaaQ13
import Derived.Test.YtcfhpjfkmjlkjaaQ14
import Derived.Test.YtcfhpjfkmjlkjaaQ15
import Derived.Test.YtcfhpjfkmjlkjaaQ2
import Derived.Test.YtcfhpjfkmjlkjaaQ3
import Derived.Test.YtcfhpjfkmjlkjaaQ4
import Derived.Test.YtcfhpjfkmjlkjaaQ5
import Derived.Test.YtcfhpjfkmjlkjaaQ6
import Derived.Test.YtcfhpjfkmjlkjaaQ7
import Derived.Test.YtcfhpjfkmjlkjaaQ9
import Derived.Test.YtcfhpjfkmjlkjaaLib1
namespace Go.Proofs.Ytcfhpjfkmjlkjaa.Pure
open Go.RowKit Go.Proofs.Ytcfhpjfkmjlkjaa.Lib Go.Proofs.Ytcfhpjfkmjlkjaa.Q Go.Proofs.YtcfhpjfkmjlkjaaW.PrintWords Go.Proofs.YtcfhpjfkmjlkjaaW.PrintLast Go.Proofs.YtcfhpjfkmjlkjaaW.PrintMore
set_option linter.unusedVariables false
set_option linter.unusedSimpArgs false

theorem l1In_eq (a b c : Int) : spec_l1In.f a b c = some (decide (b ≤ a ∧ a ≤ c)) := by
  unfold spec_l1In.f
  by_cases h : a ≥ b
  · rw [if_pos h]; simp [show b ≤ a from h]
  · rw [if_neg h]; simp; omega

theorem within_eq (a b c : Int) : impl_within.f a b c = some (decide (b ≤ a ∧ a ≤ c)) := by
  unfold impl_within.f
  by_cases h : a ≥ b
  · rw [if_pos h]; simp [show b ≤ a from h]
  · rw [if_neg h]; simp; omega

theorem isWord_eq (a : Int) : impl_isWord.f a = some (decide (0 ≤ a ∧ a ≤ 65535)) := by
  unfold impl_isWord.f; rw [within_eq]; rfl
theorem isTwo_eq (a : Int) : impl_isTwo.f a = some (decide (4 ≤ a ∧ a ≤ 9)) := by
  unfold impl_isTwo.f; rw [within_eq]; rfl
/-- Whether all numbers are words. -/
def wordsB (l : List Int) : Bool := l.all fun x => decide (0 ≤ x ∧ x ≤ 65535)
theorem l5Words_ev (l : List Int) (n : Int) (h : l.length ≤ 1048576) : Ev (fun k => spec_l5Words.f k l n) (wordsB l && ((l.length : Int) == n)) := by
  have main := Ev.range l (fun k (_ : Unit) i => spec_l5Words.l0 k l n l (l.length : Int) i) (fun _ q => wordsB q && ((l.length : Int) == n)) (fun _ _ => True) ?_ ?_ () trivial
  · exact main
  · intro b _
    refine Ev.succ ?_
    simp only [spec_l5Words.l0]
    refine Ev.ite_neg (by omega) (Ev.some ?_)
    simp [wordsB]
  · intro b p x q e _ ih
    have hl : l.length = p.length + (q.length + 1) := by rw [e]; simp
    have hr : rd l (p.length : Int) = x := by rw [e]; exact rd_mid p q x
    refine Ev.succ ?_
    simp only [spec_l5Words.l0]
    refine Ev.ite_pos (by omega) (Ev.ite_pos (by omega) (Ev.ite_pos (by omega) ?_))
    rw [hr]
    simp only [l1In_eq, Option.bind_some]
    by_cases hx : 0 ≤ x ∧ x ≤ 65535
    · refine Ev.ite_pos (by simpa using hx) ?_
      rw [wrap64_id (by omega) (by omega)]
      refine Ev.cast (ih () trivial) ?_
      simp [wordsB, hx]
    · refine Ev.ite_neg (by simpa using hx) (Ev.some ?_)
      simp only [wordsB, List.all_cons, decide_eq_false hx, Bool.false_and]

theorem toIntS_l0 (q : List Int) : ∀ (p : List Int), p.length + q.length ≤ 1000000000000000 → Ev (fun k => laws_toIntS.l0 k (p ++ q) (p ++ List.replicate q.length 0) (p.length : Int)) (p ++ q) := by
  induction q with
  | nil =>
    intro p h0
    refine ⟨1, fun k hk => ?_⟩
    (try dsimp only)
    obtain ⟨k, rfl⟩ : ∃ m, k = m + 1 := ⟨k - 1, by omega⟩
    simp only [laws_toIntS.l0]
    rw [if_neg (by simp)]; simp
  | cons x q ih =>
    intro p h0
    simp only [List.length_cons] at h0
    obtain ⟨K, hK⟩ := ih (p ++ [x]) (by simp; omega)
    (try dsimp only at hK)
    refine ⟨K + 1, fun k hk => ?_⟩
    (try dsimp only)
    obtain ⟨k, rfl, hk'⟩ := within_lo hk
    simp only [laws_toIntS.l0]
    have hK' := hK k hk'
    simp only [List.append_assoc, List.cons_append, List.nil_append] at hK'
    have e1 : wrap64 ((p.length : Int) + 1) = ((p ++ [x]).length : Int) := by
      rw [wrap64_id (by omega) (by omega)]; simp
    rw [if_pos (by simp; omega), if_pos (by omega), if_pos (by simp; omega), Int.toNat_natCast, rd_mid, List.length_cons, List.replicate_succ, set_mid, e1, hK']
theorem toIntS_ev (l : List Int) (h : l.length ≤ 1048576) : Ev (fun k => laws_toIntS.f k l) l := by
  obtain ⟨K, hK⟩ := toIntS_l0 l [] (by simp; omega)
  (try dsimp only at hK)
  refine ⟨K, fun k hk => ?_⟩
  (try dsimp only)
  unfold laws_toIntS.f
  rw [if_pos (by omega), if_pos (by omega), Int.toNat_natCast]
  exact hK k hk

theorem eqIntS_l0 (d : Nat) : ∀ (p p' q q' : List Int), p.length = p'.length → q.length = d → q'.length = d → p.length + d ≤ 1000000000000000 → Ev (fun k => laws_eqIntS.l0 k (p ++ q) (p' ++ q') (p.length : Int)) (decide (q = q')) := by
  induction d with
  | zero =>
    intro p p' q q' hp hq hq' hb
    obtain rfl : q = [] := by simpa using hq
    obtain rfl : q' = [] := by simpa using hq'
    refine ⟨1, fun k hk => ?_⟩
    (try dsimp only)
    obtain ⟨k, rfl⟩ : ∃ m, k = m + 1 := ⟨k - 1, by omega⟩
    simp only [laws_eqIntS.l0]
    rw [if_neg (by simp)]; rfl
  | succ d ih =>
    intro p p' q q' hp hq hq' hb
    match q, q', hq, hq' with
    | x :: q, y :: q', hq, hq' =>
      simp only [List.length_cons] at hq hq'
      have r1 := rd_mid p q x
      have r2 := rd_mid p' q' y
      rw [← hp] at r2
      have e1 : wrap64 ((p.length : Int) + 1) = ((p ++ [x]).length : Int) := by
        rw [wrap64_id (by omega) (by omega)]; simp
      by_cases hxy : x = y
      · subst hxy
        obtain ⟨K, hK⟩ := ih (p ++ [x]) (p' ++ [x]) q q' (by simp [hp]) (by omega) (by omega) (by simp; omega)
        (try dsimp only at hK)
        refine ⟨K + 1, fun k hk => ?_⟩
        (try dsimp only)
        obtain ⟨k, rfl, hk'⟩ := within_lo hk
        simp only [laws_eqIntS.l0]
        have hK' := hK k hk'
        simp only [List.append_assoc, List.cons_append, List.nil_append] at hK'
        rw [if_pos (by simp; omega), if_pos (by omega), if_pos (by simp; omega), r1, r2, if_pos rfl, e1, hK']
        simp
      · refine ⟨1, fun k hk => ?_⟩
        (try dsimp only)
        obtain ⟨k, rfl⟩ : ∃ m, k = m + 1 := ⟨k - 1, by omega⟩
        simp only [laws_eqIntS.l0]
        rw [if_pos (by simp; omega), if_pos (by omega), if_pos (by simp; omega), r1, r2, if_neg hxy]
        simp [hxy]
theorem eqIntS_ev (a b : List Int) (h : a.length ≤ 1000000000000000) : Ev (fun k => laws_eqIntS.f k a b) (decide (a = b)) := by
  by_cases hl : a.length = b.length
  · obtain ⟨K, hK⟩ := eqIntS_l0 a.length [] [] a b rfl rfl hl.symm (by simpa using h)
    (try dsimp only at hK)
    refine ⟨K, fun k hk => ?_⟩
    (try dsimp only)
    unfold laws_eqIntS.f
    rw [if_pos (by omega)]
    exact hK k hk
  · refine ⟨0, fun k _ => ?_⟩
    (try dsimp only)
    unfold laws_eqIntS.f
    rw [if_neg (by omega)]
    congr 1; symm
    rw [decide_eq_false_iff_not]
    rintro rfl; exact hl rfl

theorem szIntS_some (l : List Int) (a : Int) (ha : a ≤ 1048576) (ha0 : 0 ≤ a) (hl : l.length ≤ maxLen) : laws_szIntS.f l a = some (if (l.length : Int) ≤ a then a - l.length else -1) := by
  unfold maxLen at hl
  unfold laws_szIntS.f
  rw [wrap64_id (by omega) (by omega)]
  by_cases h : (l.length : Int) ≤ a
  · rw [if_neg (by omega), if_pos h]
  · rw [if_pos (by omega), if_neg h]
theorem szState_some (a b c : List Int) (ha : a.length ≤ maxLen) (hb : b.length ≤ maxLen) (hc : c.length ≤ maxLen) :
    ∃ r, laws_szState.f a b c 1048576 = some r ∧ (r < 0 ∨ a.length ≤ 1048576 ∧ b.length ≤ 1048576 ∧ c.length ≤ 1048576) := by
  unfold laws_szState.f
  rw [szIntS_some a _ (by omega) (by omega) ha, Option.bind_some]
  by_cases h1 : (a.length : Int) ≤ 1048576
  · rw [if_pos h1, if_neg (by omega), szIntS_some b _ (by omega) (by omega) hb, Option.bind_some]
    by_cases h2 : (b.length : Int) ≤ 1048576 - a.length
    · rw [if_pos h2, if_neg (by omega), szIntS_some c _ (by omega) (by omega) hc, Option.bind_some]
      by_cases h3 : (c.length : Int) ≤ 1048576 - a.length - b.length
      · rw [if_pos h3, if_neg (by omega)]; exact ⟨_, rfl, .inr ⟨by omega, by omega, by omega⟩⟩
      · rw [if_neg h3, if_pos (by omega)]; exact ⟨_, rfl, .inl (by omega)⟩
    · rw [if_neg h2, if_pos (by omega)]; exact ⟨_, rfl, .inl (by omega)⟩
  · rw [if_neg h1, if_pos (by omega)]; exact ⟨_, rfl, .inl (by omega)⟩
theorem toState_ev (a b c : List Int) (ha : a.length ≤ 1048576) (hb : b.length ≤ 1048576) (hc : c.length ≤ 1048576) : Ev (fun k => laws_toState.f k a b c) (a, b, c) := by
  unfold laws_toState.f
  exact Ev.bind (toIntS_ev a ha) (Ev.bind (toIntS_ev b hb) (Ev.bind (toIntS_ev c hc) (Ev.now _)))
theorem eqState_ev (a b c : List Int) (ha : a.length ≤ 1048576) (hb : b.length ≤ 1048576) (hc : c.length ≤ 1048576) : Ev (fun k => laws_eqState.f k a b c a b c) true := by
  unfold laws_eqState.f
  exact Ev.bind (eqIntS_ev a a (by omega)) (Ev.ite_pos (by simp) (Ev.bind (eqIntS_ev b b (by omega)) (Ev.ite_pos (by simp) (Ev.bind (eqIntS_ev c c (by omega)) (Ev.ite_pos (by simp) (Ev.now _))))))

theorem heldIntS_l0 (n : Nat) : ∀ (p : List Int) (a : Int), p.length + n ≤ 1000000000000000 → -1000000000000000 ≤ a → a + n ≤ 1000000000000000000 → Ev (fun k => laws_heldIntS.l0 k (p ++ upI a n) a (p.length : Int)) (a + n) := by
  induction n with
  | zero =>
    intro p a h0 h1 h2
    refine ⟨1, fun k hk => ?_⟩
    (try dsimp only)
    obtain ⟨k, rfl⟩ : ∃ m, k = m + 1 := ⟨k - 1, by omega⟩
    simp only [laws_heldIntS.l0]
    rw [if_neg (by simp [upI])]; simp
  | succ n ih =>
    intro p a h0 h1 h2
    obtain ⟨K, hK⟩ := ih (p ++ [a]) (a + 1) (by simp; omega) (by omega) (by omega)
    (try dsimp only at hK)
    refine ⟨K + 1, fun k hk => ?_⟩
    (try dsimp only)
    obtain ⟨k, rfl, hk'⟩ := within_lo hk
    rw [laws_heldIntS.l0, show upI a (n + 1) = a :: upI (a + 1) n from rfl]
    have hK' := hK k hk'
    simp only [List.append_assoc, List.cons_append, List.nil_append] at hK'
    have e1 : wrap64 ((p.length : Int) + 1) = ((p ++ [a]).length : Int) := by
      rw [wrap64_id (by omega) (by omega)]; simp
    rw [if_pos (by simp <;> omega), if_pos (by omega), rd_mid, if_pos rfl, e1, wrap64_id (by omega) (by omega), hK']
    congr 1; omega
theorem heldIntS_ev (n : Nat) (a : Int) (h0 : n ≤ 1000000000000000) (h1 : -1000000000000000 ≤ a) (h2 : a + n ≤ 1000000000000000000) : Ev (fun k => laws_heldIntS.f k (upI a n) a) (a + n) :=
  heldIntS_l0 n [] a (by simpa using h0) h1 h2

theorem markIntS_l0 (q : List Int) : ∀ (p : List Int) (a : Int), p.length + q.length ≤ 1000000000000000 → -1000000000000000 ≤ a → a + q.length ≤ 1000000000000000000 → Ev (fun k => laws_markIntS.l0 k (p ++ q) a (p.length : Int)) (a + q.length, p ++ upI a q.length) := by
  induction q with
  | nil =>
    intro p a h0 h1 h2
    refine ⟨1, fun k hk => ?_⟩
    (try dsimp only)
    obtain ⟨k, rfl⟩ : ∃ m, k = m + 1 := ⟨k - 1, by omega⟩
    simp only [laws_markIntS.l0]
    rw [if_neg (by simp)]; simp [upI]
  | cons x q ih =>
    intro p a h0 h1 h2
    simp only [List.length_cons] at h0 h2
    obtain ⟨K, hK⟩ := ih (p ++ [a]) (a + 1) (by simp; omega) (by omega) (by omega)
    (try dsimp only at hK)
    refine ⟨K + 1, fun k hk => ?_⟩
    (try dsimp only)
    obtain ⟨k, rfl, hk'⟩ := within_lo hk
    simp only [laws_markIntS.l0]
    have hK' := hK k hk'
    simp only [List.append_assoc, List.cons_append, List.nil_append] at hK'
    have e1 : wrap64 ((p.length : Int) + 1) = ((p ++ [a]).length : Int) := by
      rw [wrap64_id (by omega) (by omega)]; simp
    rw [if_pos (by simp; omega), if_pos (by omega), Int.toNat_natCast, set_mid, e1, wrap64_id (by omega) (by omega), hK']
    simp only [upI, List.length_cons]
    rw [show a + 1 + (q.length : Int) = a + ((q.length + 1 : Nat) : Int) from by omega]
theorem markIntS_ev (l : List Int) (a : Int) (h0 : l.length ≤ 1000000000000000) (h1 : -1000000000000000 ≤ a) (h2 : a + l.length ≤ 1000000000000000000) : Ev (fun k => laws_markIntS.f k l a) (a + l.length, upI a l.length) :=
  markIntS_l0 l [] a (by simpa using h0) h1 h2

/-- What NewState answers. -/
def newStateV (a b : Int) : List Int × List Int × List Int × Bool :=
  if (0 ≤ a ∧ a ≤ 65535) ∧ (0 ≤ b ∧ b ≤ 65535) then (a :: b :: List.replicate 6 0, List.replicate 16 0, [], true) else ([], [], [], false)
theorem sNewState_ev (a b : Int) : Ev (fun k => spec_NewState.f k a b) (newStateV a b) := by
  have hw := l5Words_ev [a, b] 2 (by simp)
  unfold spec_NewState.f newStateV
  refine Ev.bind hw ?_
  by_cases h : (0 ≤ a ∧ a ≤ 65535) ∧ (0 ≤ b ∧ b ≤ 65535)
  · refine Ev.ite_pos (by simp [wordsB, h.1, h.2]) ?_
    rw [if_pos h]
    refine Ev.ite_pos (by omega) ?_
    simp only [Option.bind_some]
    refine Ev.ite_pos (by simp) (Ev.ite_pos (by simp) (Ev.ite_pos (by omega) (Ev.some ?_)))
    rfl
  · rw [if_neg h]
    refine Ev.ite_neg ?_ (Ev.now _)
    simp only [wordsB, List.all_cons, List.all_nil, Bool.and_true, Bool.and_eq_true, decide_eq_true_eq, List.length_cons, List.length_nil]
    intro hc; exact h ⟨hc.1.1, hc.1.2⟩
theorem iNewState_some (a b : Int) : impl_NewState.f a b = some (newStateV a b) := by
  unfold impl_NewState.f newStateV
  rw [isWord_eq, Option.bind_some]
  by_cases h1 : 0 ≤ a ∧ a ≤ 65535
  · rw [if_pos (by simpa using h1), isWord_eq, Option.bind_some]
    by_cases h2 : 0 ≤ b ∧ b ≤ 65535
    · rw [if_pos (by simpa using h2), if_pos (by omega), Option.bind_some, if_pos (by omega), if_pos (by simp), if_pos (by simp), if_pos ⟨h1, h2⟩]
      rfl
    · rw [if_neg (by simpa using h2), if_neg (fun h => h2 h.2)]
  · rw [if_neg (by simpa using h1), if_neg (fun h => h1 h.1)]
theorem newStateV_len (a b : Int) : (newStateV a b).1.length ≤ 8 ∧ (newStateV a b).2.1.length ≤ 16 ∧ (newStateV a b).2.2.1.length = 0 := by
  unfold newStateV; split <;> simp
theorem markState_ev (a b c : List Int) (m : Int) (ha : a.length ≤ 1048576) (hb : b.length ≤ 1048576) (hc : c.length ≤ 1048576) (h0 : 0 ≤ m) (h1 : m ≤ 1048576) :
    Ev (fun k => laws_markState.f k a b c m) (m + a.length + b.length + c.length, upI m a.length, upI (m + a.length) b.length, upI (m + a.length + b.length) c.length) := by
  unfold laws_markState.f
  exact Ev.bind (markIntS_ev a m (by omega) (by omega) (by omega)) (Ev.bind (markIntS_ev b _ (by omega) (by omega) (by omega)) (Ev.bind (markIntS_ev c _ (by omega) (by omega) (by omega)) (Ev.now _)))
theorem heldState_ev (x y z : Nat) (m : Int) (ha : x ≤ 1048576) (hb : y ≤ 1048576) (hc : z ≤ 1048576) (h0 : 0 ≤ m) (h1 : m ≤ 1048576) :
    Ev (fun k => laws_heldState.f k (upI m x) (upI (m + x) y) (upI (m + x + y) z) m) (m + x + y + z) := by
  unfold laws_heldState.f
  exact Ev.bind (heldIntS_ev x m (by omega) (by omega) (by omega)) (Ev.ite_neg (by omega) (Ev.bind (heldIntS_ev y _ (by omega) (by omega) (by omega)) (Ev.ite_neg (by omega) (Ev.bind (heldIntS_ev z _ (by omega) (by omega) (by omega)) (Ev.ite_neg (by omega) (Ev.now _))))))

theorem doWord_same (op a b : Int) : impl_doWord.f op a b = spec_l5Do.f op a b := by
  unfold impl_doWord.f spec_l5Do.f impl_oneIf.f spec_l5Bit.f; rfl
theorem l5Do_some (op a b : Int) : ∃ n d, spec_l5Do.f op a b = some (n, d) := by
  unfold spec_l5Do.f spec_l5Bit.f
  (repeat' split) <;> first | exact ⟨_, _, rfl⟩ | (dsimp only [Option.bind_some]; exact ⟨_, _, rfl⟩)
/-- What DoWord answers. -/
theorem doWord_both (op a b : Int) : ∃ r, Ev (fun k => spec_DoWord.f k op a b) r ∧ impl_DoWord.f op a b = some r := by
  have hw := l5Words_ev [a, b] 2 (by simp)
  obtain ⟨n, d, hd⟩ := l5Do_some op a b
  by_cases h : 4 ≤ op ∧ op ≤ 9
  · by_cases h2 : (0 ≤ a ∧ a ≤ 65535) ∧ (0 ≤ b ∧ b ≤ 65535)
    · refine ⟨(n, d, true), ?_, ?_⟩
      · unfold spec_DoWord.f
        simp only [l1In_eq, Option.bind_some]
        refine Ev.ite_pos (by simpa using h) (Ev.bind hw ?_)
        refine Ev.ite_pos (by simp [wordsB, h2.1, h2.2]) ?_
        rw [hd]; exact Ev.now _
      · unfold impl_DoWord.f
        rw [isTwo_eq, Option.bind_some, if_pos (by simpa using h), isWord_eq, Option.bind_some, if_pos (by simpa using h2.1), isWord_eq, Option.bind_some, if_pos (by simpa using h2.2), doWord_same, hd]; rfl
    · refine ⟨(0, false, false), ?_, ?_⟩
      · unfold spec_DoWord.f
        simp only [l1In_eq, Option.bind_some]
        refine Ev.ite_pos (by simpa using h) (Ev.bind hw ?_)
        refine Ev.ite_neg ?_ (Ev.now _)
        simp only [wordsB, List.all_cons, List.all_nil, Bool.and_true, Bool.and_eq_true, decide_eq_true_eq, List.length_cons, List.length_nil]
        intro hc; exact h2 ⟨hc.1.1, hc.1.2⟩
      · unfold impl_DoWord.f
        rw [isTwo_eq, Option.bind_some, if_pos (by simpa using h), isWord_eq, Option.bind_some]
        by_cases h3 : 0 ≤ a ∧ a ≤ 65535
        · rw [if_pos (by simpa using h3), isWord_eq, Option.bind_some, if_neg (by simpa using fun h4 => fun h5 => h2 ⟨h3, h4, h5⟩)]
        · rw [if_neg (by simpa using h3)]
  · refine ⟨(0, false, false), ?_, ?_⟩
    · unfold spec_DoWord.f
      simp only [l1In_eq, Option.bind_some]
      exact Ev.ite_neg (by simpa using h) (Ev.now _)
    · unfold impl_DoWord.f
      rw [isTwo_eq, Option.bind_some, if_neg (by simpa using h)]

theorem i64_mask16 (n : Int) : Go.bits .and .i64 n 65535 = n % 65536 := by
  have h1 : (BitVec.ofInt 64 65535).toNat = 2 ^ 16 - 1 := by decide
  have key : (BitVec.ofInt 64 n &&& BitVec.ofInt 64 65535).toNat = (n % ((2 ^ 64 : Nat) : Int)).toNat % 2 ^ 16 := by
    rw [BitVec.toNat_and, BitVec.toNat_ofInt, h1, Nat.and_two_pow_sub_one_eq_mod]
  show IntKind.i64.wrap ((BitVec.ofInt 64 n &&& BitVec.ofInt 64 65535).toNat : Nat) = n % 65536
  rw [key, IntKind.wrap_i64]
  omega
theorem iDoWord_good {op a b n : Int} {d : Bool} (h : 4 ≤ op ∧ op ≤ 9) (ha : 0 ≤ a ∧ a ≤ 65535) (hb : 0 ≤ b ∧ b ≤ 65535) (hd : spec_l5Do.f op a b = some (n, d)) : impl_DoWord.f op a b = some (n, d, true) := by
  unfold impl_DoWord.f
  rw [isTwo_eq, Option.bind_some, if_pos (by simpa using h), isWord_eq, Option.bind_some, if_pos (by simpa using ha), isWord_eq, Option.bind_some, if_pos (by simpa using hb), doWord_same, hd]; rfl
theorem iDoWord_true {op a b n : Int} {d : Bool} (e : impl_DoWord.f op a b = some (n, d, true)) : (4 ≤ op ∧ op ≤ 9) ∧ (0 ≤ a ∧ a ≤ 65535) ∧ (0 ≤ b ∧ b ≤ 65535) ∧ spec_l5Do.f op a b = some (n, d) := by
  unfold impl_DoWord.f at e
  rw [isTwo_eq, Option.bind_some] at e
  by_cases h : 4 ≤ op ∧ op ≤ 9
  · rw [if_pos (by simpa using h), isWord_eq, Option.bind_some] at e
    by_cases ha : 0 ≤ a ∧ a ≤ 65535
    · rw [if_pos (by simpa using ha), isWord_eq, Option.bind_some] at e
      by_cases hb : 0 ≤ b ∧ b ≤ 65535
      · rw [if_pos (by simpa using hb), doWord_same] at e
        obtain ⟨m, d', hd⟩ := l5Do_some op a b
        rw [hd, Option.bind_some] at e
        simp only [Option.some.injEq, Prod.mk.injEq, and_true] at e
        exact ⟨h, ha, hb, by rw [hd, e.1, e.2]⟩
      · rw [if_neg (by simpa using hb)] at e; simp at e
    · rw [if_neg (by simpa using ha)] at e; simp at e
  · rw [if_neg (by simpa using h)] at e; simp at e
theorem l5Do_add (a b : Int) (ha : 0 ≤ a ∧ a ≤ 65535) (hb : 0 ≤ b ∧ b ≤ 65535) : spec_l5Do.f 4 a b = some ((a + b) % 65536, true) := by
  unfold spec_l5Do.f; rw [if_pos rfl, wrap64_id (by omega) (by omega), i64_mask16]
theorem l5Do_sub (a b : Int) (ha : 0 ≤ a ∧ a ≤ 65535) (hb : 0 ≤ b ∧ b ≤ 65535) : spec_l5Do.f 5 a b = some ((a - b) % 65536, true) := by
  unfold spec_l5Do.f; rw [if_neg (by omega), if_pos rfl, wrap64_id (by omega) (by omega), i64_mask16]
theorem l5Do_div (a b : Int) (ha : 0 ≤ a ∧ a ≤ 65535) (hb : 0 ≤ b ∧ b ≤ 65535) : spec_l5Do.f 7 a b = if b = 0 then some (0, false) else some (a / b, true) := by
  unfold spec_l5Do.f
  rw [if_neg (by omega), if_neg (by omega), if_neg (by omega), if_pos rfl]
  by_cases h : b = 0
  · rw [if_pos h, if_pos h]
  · rw [if_neg h, if_neg h, Int.tdiv_eq_ediv_of_nonneg ha.1]
    have h1 : 0 ≤ a / b := Int.ediv_nonneg ha.1 hb.1
    have h2 : a / b ≤ a := Int.ediv_le_self _ ha.1
    rw [wrap64_id (by omega) (by omega)]
/-- An op's answer is a word; where there is none, a division by zero asked for it. -/
theorem l5Do_word {op a b n : Int} {d : Bool} (ho : 4 ≤ op ∧ op ≤ 9) (ha : 0 ≤ a ∧ a ≤ 65535) (hb : 0 ≤ b ∧ b ≤ 65535) (e : spec_l5Do.f op a b = some (n, d)) : (0 ≤ n ∧ n ≤ 65535) ∧ (d = false → op = 7 ∧ b = 0) := by
  by_cases h7 : op = 7
  · subst h7
    rw [l5Do_div a b ha hb] at e
    by_cases h : b = 0
    · rw [if_pos h] at e; simp only [Option.some.injEq, Prod.mk.injEq] at e; exact ⟨by omega, fun _ => ⟨rfl, h⟩⟩
    · rw [if_neg h] at e; simp only [Option.some.injEq, Prod.mk.injEq] at e
      have h1 : 0 ≤ a / b := Int.ediv_nonneg ha.1 hb.1
      have h2 : a / b ≤ a := Int.ediv_le_self _ ha.1
      exact ⟨by omega, fun hd => by rw [← e.2] at hd; simp at hd⟩
  · unfold spec_l5Do.f at e
    rw [if_neg h7] at e
    simp only [i64_mask16] at e
    unfold spec_l5Bit.f at e
    by_cases h4 : op = 4
    · rw [if_pos h4] at e; simp only [Option.some.injEq, Prod.mk.injEq] at e; exact ⟨by omega, fun hd => by rw [← e.2] at hd; simp at hd⟩
    rw [if_neg h4] at e
    by_cases h5 : op = 5
    · rw [if_pos h5] at e; simp only [Option.some.injEq, Prod.mk.injEq] at e; exact ⟨by omega, fun hd => by rw [← e.2] at hd; simp at hd⟩
    rw [if_neg h5] at e
    by_cases h6 : op = 6
    · rw [if_pos h6] at e; simp only [Option.some.injEq, Prod.mk.injEq] at e; exact ⟨by omega, fun hd => by rw [← e.2] at hd; simp at hd⟩
    rw [if_neg h6] at e
    have bit : ∀ (c : Bool) (n : Int) (d : Bool), ((if c = true then some (1 : Int) else some 0).bind fun t => some (t, true)) = some (n, d) → (0 ≤ n ∧ n ≤ 65535) ∧ (d = false → op = 7 ∧ b = 0) := by
      intro c n d h
      cases c <;> simp at h <;> exact ⟨by omega, fun hd => by rw [h.2] at hd; simp at hd⟩
    by_cases h8 : op = 8
    · rw [if_pos h8] at e; exact bit _ _ _ e
    · rw [if_neg h8] at e; exact bit _ _ _ e

theorem u64_and255 (x : Int) (h0 : 0 ≤ x) (h1 : x < 18446744073709551616) : Go.bits .and .u64 x 255 = x % 256 := by
  have h := bits_mask .u64 64 (by decide) (fun n h₀ h₁ => by rw [IntKind.wrap_u64]; omega) 8 (by decide) x h0 h1
  rw [show ((255 : Int)) = 2 ^ 8 - 1 from rfl, h]
  rfl
theorem wf_u8 {x : Int} (h : (Lit.int .u8 x).wf = true) : 0 ≤ x ∧ x ≤ 255 := by
  have e1 : IntKind.u8.min = 0 := by decide
  have e2 : IntKind.u8.max = 255 := by decide
  simp only [Lit.wf, e1, e2, Bool.and_eq_true, decide_eq_true_eq] at h
  exact h
theorem u64_lo (x : Int) : 0 ≤ IntKind.u64.wrap x ∧ IntKind.u64.wrap x < 18446744073709551616 := by
  rw [IntKind.wrap_u64]; omega
theorem rd_mem (l : List Int) (i : Int) (h0 : 0 ≤ i) (h1 : i < l.length) : rd l i ∈ l := by
  unfold rd
  have : i.toNat < l.length := by omega
  simp [List.getD_eq_getElem?_getD, List.getElem?_eq_getElem this]
/-- A cursor's next number. -/
theorem next_some (l : List Int) (hl : ∀ x ∈ l, (Lit.int .u8 x).wf = true) (p s : Int) (h0 : 0 ≤ p) (h1 : p ≤ 4611686018427387904) :
    ∃ v s', spec_l1Cur_next.f l p s = some (v, p + 1, s') ∧ 0 ≤ v ∧ v ≤ 255 := by
  have key : ∀ z : Int, 0 ≤ wrap64 (Go.bits .and .u64 (IntKind.u64.wrap z / 1099511627776) 255) ∧ wrap64 (Go.bits .and .u64 (IntKind.u64.wrap z / 1099511627776) 255) ≤ 255 := by
    intro z
    have hz := u64_lo z
    rw [u64_and255 _ (by omega) (by omega), wrap64_id (by omega) (by omega)]
    omega
  unfold spec_l1Cur_next.f
  rw [show wrap64 (p + 1) = p + 1 from wrap64_id (by omega) (by omega)]
  by_cases h : p < (l.length : Int)
  · rw [if_pos h, if_pos h0, if_pos (by omega)]
    have hx := wf_u8 (hl _ (rd_mem l p h0 h))
    exact ⟨_, _, rfl, by rw [wrap64_id (by omega) (by omega)]; exact hx⟩
  · rw [if_neg h, if_neg (by omega)]
    exact ⟨_, _, rfl, key _⟩
/-- A cursor's pick of n. -/
theorem pick_some (l : List Int) (hl : ∀ x ∈ l, (Lit.int .u8 x).wf = true) (p s n : Int) (h0 : 0 ≤ p) (h1 : p ≤ 4611686018427387000) :
    ∃ v p' s', spec_l1Cur_pick.f l p s n = some (v, p', s') ∧ 0 ≤ v ∧ (v < n ∨ v = 0) ∧ v ≤ 65535 ∧ p ≤ p' ∧ p' ≤ p + 2 := by
  unfold spec_l1Cur_pick.f
  by_cases hn : n ≤ 1
  · rw [if_pos hn]; exact ⟨0, p, s, rfl, by omega, .inr rfl, by omega, by omega, by omega⟩
  · rw [if_neg hn]
    obtain ⟨v, s1, e1, hv0, hv1⟩ := next_some l hl p s h0 (by omega)
    rw [e1, Option.bind_some]
    have tm : ∀ z : Int, 0 ≤ z → 0 ≤ Int.tmod z n ∧ Int.tmod z n < n ∧ Int.tmod z n ≤ z := by
      intro z hz
      rw [Int.tmod_eq_emod_of_nonneg hz]
      have e1 : 0 ≤ z % n := Int.emod_nonneg _ (by omega)
      have e2 : z % n < n := Int.emod_lt_of_pos _ (by omega)
      refine ⟨e1, e2, ?_⟩
      by_cases hzn : z < n
      · rw [Int.emod_eq_of_lt hz hzn]; omega
      · omega
    by_cases hb : n > 200
    · rw [if_pos hb]
      obtain ⟨v2, s2, e2, hw0, hw1⟩ := next_some l hl (p + 1) s1 (by omega) (by omega)
      dsimp only
      rw [e2, Option.bind_some, if_neg (by omega)]
      dsimp only
      rw [wrap64_id (x := v * 256) (by omega) (by omega), wrap64_id (by omega) (by omega)]
      obtain ⟨t0, t1, t2⟩ := tm (v * 256 + v2) (by omega)
      exact ⟨_, _, _, rfl, t0, .inl t1, by omega, by omega, by omega⟩
    · rw [if_neg hb, if_neg (by omega)]
      dsimp only
      obtain ⟨t0, t1, t2⟩ := tm v (by omega)
      exact ⟨_, _, _, rfl, t0, .inl t1, by omega, by omega, by omega⟩

/-- A cursor's choice among some. -/
theorem among_some (l : List Int) (hl : ∀ x ∈ l, (Lit.int .u8 x).wf = true) (p s : Int) (m : List Int) (hm : m ≠ []) (h0 : 0 ≤ p) (h1 : p ≤ 4611686018427387000) :
    ∃ v p' s', spec_l1Cur_among.f l p s m = some (v, p', s') ∧ v ∈ m ∧ p ≤ p' ∧ p' ≤ p + 2 := by
  unfold spec_l1Cur_among.f
  obtain ⟨v, p', s', e, v0, v1, v2, q0, q1⟩ := pick_some l hl p s (m.length : Int) h0 h1
  have hpos : 0 < m.length := List.length_pos_iff.mpr hm
  rw [e, Option.bind_some]
  dsimp only
  rw [if_pos v0, if_pos (by omega)]
  exact ⟨_, _, _, rfl, rd_mem m v v0 (by omega), q0, q1⟩

theorem drawDoWord_some (l : List Int) (hl : ∀ x ∈ l, (Lit.int .u8 x).wf = true) : ∃ op a b, spec_DrawDoWord.f l = some (op, a, b) := by
  unfold spec_DrawDoWord.f
  obtain ⟨v, p1, s1, e1, _, _, _, q1, q1'⟩ := pick_some l hl 0 0 8 (by omega) (by omega)
  rw [e1, Option.bind_some]
  obtain ⟨a, p2, s2, e2, _, q2, q2'⟩ := among_some l hl p1 s1 [0, 1, 7, 65535, 65536] (by simp) (by omega) (by omega)
  dsimp only
  rw [e2, Option.bind_some]
  obtain ⟨b, p3, s3, e3, _, q3, q3'⟩ := among_some l hl p2 s2 [-1, 0, 1, 3, 65535] (by simp) (by omega) (by omega)
  dsimp only
  rw [e3, Option.bind_some]
  exact ⟨_, _, _, rfl⟩
theorem drawNewState_some (l : List Int) (hl : ∀ x ∈ l, (Lit.int .u8 x).wf = true) : ∃ a b, spec_DrawNewState.f l = some (a, b) := by
  unfold spec_DrawNewState.f
  obtain ⟨a, p2, s2, e2, _, q2, q2'⟩ := among_some l hl 0 0 [-1, 0, 65535, 65536] (by simp) (by omega) (by omega)
  rw [e2, Option.bind_some]
  obtain ⟨v, p1, s1, e1, _, _, _, q1, q1'⟩ := pick_some l hl p2 s2 4 (by omega) (by omega)
  dsimp only
  rw [e1, Option.bind_some]
  exact ⟨_, _, rfl⟩

theorem sameInts_l0 (q : List Int) : ∀ p : List Int, p.length + q.length ≤ 1000000000000000 → Ev (fun k => laws_sameInts.l0 k (p ++ q) (p ++ q) ((p ++ q).length : Int) (p.length : Int)) true := by
  induction q with
  | nil =>
    intro p h
    refine Ev.succ ?_
    simp only [laws_sameInts.l0]
    exact Ev.ite_neg (by simp) (Ev.now _)
  | cons x q ih =>
    intro p h
    simp only [List.length_cons] at h
    have hk := ih (p ++ [x]) (by simp; omega)
    simp only [List.append_assoc, List.cons_append, List.nil_append] at hk
    have e1 : wrap64 ((p.length : Int) + 1) = ((p ++ [x]).length : Int) := by
      rw [wrap64_id (by omega) (by omega)]; simp
    refine Ev.succ ?_
    simp only [laws_sameInts.l0]
    refine Ev.ite_pos (by simp; omega) (Ev.ite_pos (by omega) (Ev.ite_pos (by simp; omega) (Ev.ite_pos (by simp; omega) (Ev.ite_pos (by trivial) ?_))))
    rw [e1]; exact hk
theorem sameInts_ev (l : List Int) (h : l.length ≤ 1000000000000000) : Ev (fun k => laws_sameInts.f k l l) true := by
  unfold laws_sameInts.f
  exact Ev.ite_pos (by trivial) (sameInts_l0 l [] (by simpa using h))

theorem findIdx_any {α : Type} (p : α → Bool) (l : List α) : decide ((match l.findIdx? p with | some j => (j : Int) | none => -1) ≥ 0) = l.any p := by
  rw [Bool.eq_iff_iff, decide_eq_true_iff, List.any_eq_true]
  cases hf : l.findIdx? p with
  | none =>
    rw [List.findIdx?_eq_none_iff] at hf
    constructor
    · intro h; simp only [ge_iff_le] at h; omega
    · rintro ⟨x, hx, h⟩; rw [hf x hx] at h; simp at h
  | some j =>
    constructor
    · intro _
      obtain ⟨hj, h1, _⟩ := List.findIdx?_eq_some_iff_getElem.mp hf
      exact ⟨l[j], List.getElem_mem hj, h1⟩
    · intro _; simp only [ge_iff_le]; omega
/-- A loop that looks for the first element that is so. -/
theorem Ev.index {α : Type} (l : List α) (F : Nat → Int → Option Int) (pr : α → Bool)
    (h0 : Ev (fun k => F k (l.length : Int)) (-1))
    (hs : ∀ p x q, l = p ++ x :: q → pr x = true → Ev (fun k => F k (p.length : Int)) (p.length : Int))
    (hn : ∀ p x q r, l = p ++ x :: q → pr x = false → Ev (fun k => F k ((p.length : Int) + 1)) r → Ev (fun k => F k (p.length : Int)) r) :
    Ev (fun k => F k 0) (match l.findIdx? pr with | some j => (j : Int) | none => -1) := by
  have main : ∀ (q p : List α), l = p ++ q → Ev (fun k => F k (p.length : Int)) (match q.findIdx? pr with | some j => ((p.length + j : Nat) : Int) | none => -1) := by
    intro q
    induction q with
    | nil => intro p e; rw [e, List.append_nil] at h0; exact h0
    | cons x q ih =>
      intro p e
      cases hx : pr x with
      | true =>
        have := hs p x q e hx
        rw [List.findIdx?_cons, hx]; simpa using this
      | false =>
        have := ih (p ++ [x]) (by rw [e]; simp)
        have e2 : ((p ++ [x]).length : Int) = (p.length : Int) + 1 := by simp
        rw [e2] at this
        have := hn p x q _ e hx this
        rw [List.findIdx?_cons, hx]
        refine Ev.cast this ?_
        cases q.findIdx? pr with
        | none => rfl
        | some j => simp; omega
  have := main l [] rfl
  refine Ev.cast this ?_
  cases l.findIdx? pr with
  | none => rfl
  | some j => simp

theorem wordsOK_ev (l : List Int) (h : l.length ≤ 1048576) : Ev (fun k => impl_wordsOK.f k l) (wordsB l) := by
  have hp : ∀ a : Int, impl_wordsOK_1.f a = some (!decide (0 ≤ a ∧ a ≤ 65535)) := by
    intro a; unfold impl_wordsOK_1.f; rw [isWord_eq]; rfl
  have main := Ev.index l (fun k i => slices_IndexFunc_int_int__impl_wordsOK_1.l0 k l (l.length : Int) i) (fun a => !decide (0 ≤ a ∧ a ≤ 65535)) ?_ ?_ ?_
  · unfold impl_wordsOK.f slices_ContainsFunc_int_int__impl_wordsOK_1.f slices_IndexFunc_int_int__impl_wordsOK_1.f
    refine Ev.bind (Ev.bind main (Ev.now _)) ?_
    refine Ev.some ?_
    rw [findIdx_any]
    unfold wordsB
    rw [List.not_any_eq_all_not]
    simp only [Bool.not_not]
  · refine Ev.succ ?_
    simp only [slices_IndexFunc_int_int__impl_wordsOK_1.l0]
    exact Ev.ite_neg (by omega) (Ev.now _)
  · intro p x q e hx
    have hl : l.length = p.length + (q.length + 1) := by rw [e]; simp
    have hr : rd l (p.length : Int) = x := by rw [e]; exact rd_mid p q x
    refine Ev.succ ?_
    simp only [slices_IndexFunc_int_int__impl_wordsOK_1.l0, hp, hr, hx, Option.bind_some]
    exact Ev.ite_pos (by omega) (Ev.ite_pos (by omega) (Ev.ite_pos (by omega) (Ev.ite_pos (by trivial) (Ev.now _))))
  · intro p x q r e hx hh
    have hl : l.length = p.length + (q.length + 1) := by rw [e]; simp
    have hr : rd l (p.length : Int) = x := by rw [e]; exact rd_mid p q x
    refine Ev.succ ?_
    simp only [slices_IndexFunc_int_int__impl_wordsOK_1.l0, hp, hr, hx, Option.bind_some]
    refine Ev.ite_pos (by omega) (Ev.ite_pos (by omega) (Ev.ite_pos (by omega) (Ev.ite_neg (by simp) ?_)))
    rw [wrap64_id (by omega) (by omega)]
    exact hh

/-- Whether a state is good. -/
def goodStateB (a b c : List Int) : Bool := decide (a.length = 8) && (decide (b.length = 16) && (decide (c.length ≤ 100) && (wordsB a && (wordsB b && wordsB c))))
theorem sGoodState_ev (a b c : List Int) (ha : a.length ≤ 1048576) (hb : b.length ≤ 1048576) (hc : c.length ≤ 1048576) : Ev (fun k => spec_GoodState.f k a b c) (goodStateB a b c) := by
  unfold spec_GoodState.f goodStateB
  refine Ev.bind (l5Words_ev a 8 ha) ?_
  by_cases h1 : a.length = 8 ∧ wordsB a = true
  · refine Ev.ite_pos (by simp [h1]) (Ev.bind (l5Words_ev b 16 hb) ?_)
    by_cases h2 : b.length = 16 ∧ wordsB b = true
    · refine Ev.ite_pos (by simp [h2]) ?_
      by_cases h3 : c.length ≤ 100
      · refine Ev.ite_pos (by omega) (Ev.bind (l5Words_ev c _ hc) (Ev.some ?_))
        simp [h1, h2, h3]
      · refine Ev.ite_neg (by omega) (Ev.some ?_)
        simp [h3]
    · refine Ev.ite_neg ?_ (Ev.some ?_)
      · simp only [Bool.and_eq_true, beq_iff_eq]; rintro ⟨h, h'⟩; exact h2 ⟨by omega, h⟩
      · symm; simp only [Bool.and_eq_false_iff, decide_eq_false_iff_not]
        by_cases h3 : b.length = 16
        · exact .inr (.inr (.inr (.inr (.inl (by cases hw : wordsB b <;> simp_all)))))
        · exact .inr (.inl h3)
  · refine Ev.ite_neg ?_ (Ev.some ?_)
    · simp only [Bool.and_eq_true, beq_iff_eq]; rintro ⟨h, h'⟩; exact h1 ⟨by omega, h⟩
    · symm; simp only [Bool.and_eq_false_iff, decide_eq_false_iff_not]
      by_cases h3 : a.length = 8
      · exact .inr (.inr (.inr (.inl (by cases hw : wordsB a <;> simp_all))))
      · exact .inl h3
theorem iGoodState_ev (a b c : List Int) (ha : a.length ≤ 1048576) (hb : b.length ≤ 1048576) (hc : c.length ≤ 1048576) : Ev (fun k => impl_GoodState.f k a b c) (goodStateB a b c) := by
  unfold impl_GoodState.f goodStateB
  by_cases h1 : a.length = 8
  · refine Ev.ite_pos (by omega) ?_
    by_cases h2 : b.length = 16
    · refine Ev.ite_pos (by omega) ?_
      by_cases h3 : c.length ≤ 100
      · refine Ev.ite_pos (by omega) (Ev.bind (wordsOK_ev a ha) ?_)
        cases wa : wordsB a with
        | false => exact Ev.ite_neg (by simp) (Ev.some (by simp))
        | true =>
          refine Ev.ite_pos rfl (Ev.bind (wordsOK_ev b hb) ?_)
          cases wb : wordsB b with
          | false => exact Ev.ite_neg (by simp) (Ev.some (by simp))
          | true => exact Ev.ite_pos rfl (Ev.bind (wordsOK_ev c hc) (Ev.some (by simp [h1, h2, h3])))
      · exact Ev.ite_neg (by omega) (Ev.some (by simp [h3]))
    · exact Ev.ite_neg (by omega) (Ev.some (by simp [h2]))
  · exact Ev.ite_neg (by omega) (Ev.some (by simp [h1]))

theorem words_j4 (l : List Int) (hl : ∀ x ∈ l, (Lit.int .u8 x).wf = true) : Ev (fun k => laws_FnWords.j4 k l false) true := by
  obtain ⟨a, b, e⟩ := drawNewState_some l hl
  obtain ⟨h1, h2, h3⟩ := newStateV_len a b
  have hs := sNewState_ev a b
  have hi := iNewState_some a b
  have hg : (newStateV a b).2.2.2 = true → goodStateB (newStateV a b).1 (newStateV a b).2.1 (newStateV a b).2.2.1 = true := by
    unfold newStateV
    split
    · rename_i h
      intro _
      simp [goodStateB, wordsB, h.1, h.2]
    · intro h; simp at h
  have hG := iGoodState_ev (newStateV a b).1 (newStateV a b).2.1 (newStateV a b).2.2.1 (by omega) (by omega) (by omega)
  refine Ev.succ ?_
  simp only [laws_FnWords.j4]
  refine Ev.ite_neg (by simp) ?_
  rw [e]
  refine Ev.bind (Ev.now _) (Ev.bind (Ev.const hi) (Ev.bind hs (Ev.ite_pos (by simp) ?_)))
  have hss : Ev (fun k => laws_sameStates.f k (newStateV a b).1 (newStateV a b).2.1 (newStateV a b).2.2.1 (newStateV a b).1 (newStateV a b).2.1 (newStateV a b).2.2.1) true := by
    unfold laws_sameStates.f
    exact Ev.bind (sameInts_ev _ (by omega)) (Ev.ite_pos rfl (Ev.bind (sameInts_ev _ (by omega)) (Ev.ite_pos rfl (Ev.bind (sameInts_ev _ (by omega)) (Ev.now _)))))
  refine Ev.bind hss (Ev.ite_pos rfl ?_)
  by_cases ho : (newStateV a b).2.2.2 = true
  · exact Ev.ite_pos ho (Ev.bind hG (Ev.some (hg ho)))
  · exact Ev.ite_neg ho (Ev.now _)
theorem FnWords : laws_FnWords.Pure := by
  intro l0 l1 hm0 _ hl0 hm1 _ hl1
  refine Ev.rounds (g := fun k => laws_FnWords.f k l0 l1) ?_
  have j4 := words_j4 l1 hl1
  obtain ⟨op, a, b, e⟩ := drawDoWord_some l0 hl0
  obtain ⟨⟨n, d, o⟩, h1, h2⟩ := doWord_both op a b
  unfold laws_FnWords.f
  by_cases hbig : wrap64 ((l0.length : Int) + (l1.length : Int)) > 1048576
  · exact Ev.ite_pos hbig (Ev.now _)
  refine Ev.ite_neg hbig ?_
  rw [e]
  refine Ev.bind (Ev.now _) (Ev.bind (Ev.const h2) (Ev.bind h1 (Ev.ite_neg (by simp) (Ev.ite_neg (by simp) ?_))))
  have j3 : (o = true → d = false → op = 7 ∧ b = 0) → Ev (fun k => laws_FnWords.j3 k l1 op b d o) true := by
    intro hno
    refine Ev.succ ?_
    simp only [laws_FnWords.j3]
    cases o with
    | false => exact Ev.ite_neg (by simp) j4
    | true =>
      refine Ev.ite_pos rfl ?_
      cases d with
      | true => exact Ev.ite_pos rfl j4
      | false =>
        obtain ⟨h7, h0⟩ := hno rfl rfl
        refine Ev.ite_neg (by simp) (Ev.ite_pos h7 ?_)
        subst h0; exact j4
  rw [show (n != n) = false from by simp]
  dsimp only
  refine Ev.succ ?_
  simp only [laws_FnWords.j0]
  refine Ev.ite_neg (by simp) ?_
  cases o with
  | false =>
    refine Ev.ite_neg (by simp) (Ev.succ ?_)
    simp only [laws_FnWords.j1]
    exact Ev.ite_neg (by simp) (j3 (by simp))
  | true =>
    obtain ⟨ho, ha, hb, hd⟩ := iDoWord_true h2
    obtain ⟨hn, hz⟩ := l5Do_word ho ha hb hd
    have J3 := j3 (fun _ => hz)
    refine Ev.ite_pos rfl (Ev.succ ?_)
    simp only [laws_FnWords.j1]
    cases d with
    | false => exact Ev.ite_neg (by simp) J3
    | true =>
      refine Ev.ite_pos rfl (Ev.ite_neg (by omega) ?_)
      rw [show decide (n > 65535) = false from by simp; omega]
      refine Ev.succ ?_
      simp only [laws_FnWords.j2]
      refine Ev.ite_neg (by simp) ?_
      by_cases h4 : op = 4
      · subst h4
        rw [l5Do_add a b ha hb] at hd
        simp only [Option.some.injEq, Prod.mk.injEq] at hd
        refine Ev.ite_pos rfl (Ev.bind (Ev.const (iDoWord_good (by omega) hn hb (l5Do_sub n b hn hb))) (Ev.ite_pos rfl (Ev.ite_pos ?_ J3)))
        dsimp only
        omega
      · refine Ev.ite_neg h4 ?_
        by_cases h7 : op = 7
        · subst h7
          rw [l5Do_div a b ha hb] at hd
          by_cases h0 : b = 0
          · rw [if_pos h0] at hd; simp at hd
          rw [if_neg h0] at hd
          simp only [Option.some.injEq, Prod.mk.injEq] at hd
          have e1 : b * n + a % b = a := by rw [← hd.1]; exact Int.mul_ediv_add_emod a b
          have e2 : 0 ≤ a % b := Int.emod_nonneg _ h0
          have e3 : a % b < b := Int.emod_lt_of_pos _ (by omega)
          have e4 : 0 ≤ b * n := Int.mul_nonneg hb.1 hn.1
          rw [wrap64_id (x := b * n) (by omega) (by omega), wrap64_id (x := a - b * n) (by omega) (by omega)]
          exact Ev.ite_pos rfl (Ev.ite_neg (by omega) (Ev.ite_neg (by omega) J3))
        · exact Ev.ite_neg h7 J3

end Go.Proofs.Ytcfhpjfkmjlkjaa.Pure
