/- Of every graph the law of orderof tells true. No condition beyond the row's own. -/
import Derived.Test.YtbagmhcdhemopaaQ0
import Derived.Test.YtbagmhcdhemopaaQ1
import Derived.Test.YtbagmhcdhemopaaQ10
import Derived.Test.YtbagmhcdhemopaaQ11
import Derived.Test.YtbagmhcdhemopaaQ12
import Derived.Test.YtbagmhcdhemopaaQ13
import Derived.Test.YtbagmhcdhemopaaQ14
import Derived.Test.YtbagmhcdhemopaaQ2
import Derived.Test.YtbagmhcdhemopaaQ3
import Derived.Test.YtbagmhcdhemopaaQ4
import Derived.Test.YtbagmhcdhemopaaQ5
import Derived.Test.YtbagmhcdhemopaaQ6
import Derived.Test.YtbagmhcdhemopaaQ8
import Derived.Test.YtbagmhcdhemopaaQ9
import Derived.Test.YtbagmhcdhemopaaLib1
import Derived.Test.YtbagmhcdhemopaaLib2
import Derived.Test.YtbagmhcdhemopaaTab
namespace Go.Proofs.Ytbagmhcdhemopaa.Pure
open Go.RowKit Go.Proofs.Ytbagmhcdhemopaa.Lib Go.Proofs.Ytbagmhcdhemopaa.Q Go.Proofs.YtbagmhcdhemopaaW.PrintWords Go.Proofs.YtbagmhcdhemopaaW.PrintLast Go.Proofs.YtbagmhcdhemopaaW.PrintMore
set_option linter.unusedVariables false
set_option linter.unusedSimpArgs false

theorem toIntS_l0 (q : List Int) : ∀ (p : List Int), p.length + q.length ≤ 1000000000000000 → Ev (fun k => laws_toIntS.l0 k (p ++ q) (p ++ List.replicate q.length 0) (p.length : Int)) (p ++ q) := by
  induction q with
  | nil =>
    intro p h0
    refine ⟨1, fun k hk => ?_⟩
    (try dsimp only)
    obtain ⟨k, rfl⟩ : ∃ m, k = m + 1 := ⟨k - 1, by omega⟩
    simp only [laws_toIntS.l0]
    rw [if_neg (by simp)]; simp
  | cons x q ih =>
    intro p h0
    simp only [List.length_cons] at h0
    obtain ⟨K, hK⟩ := ih (p ++ [x]) (by simp; omega)
    (try dsimp only at hK)
    refine ⟨K + 1, fun k hk => ?_⟩
    (try dsimp only)
    obtain ⟨k, rfl, hk'⟩ := within_lo hk
    simp only [laws_toIntS.l0]
    have hK' := hK k hk'
    simp only [List.append_assoc, List.cons_append, List.nil_append] at hK'
    have e1 : wrap64 ((p.length : Int) + 1) = ((p ++ [x]).length : Int) := by
      rw [wrap64_id (by omega) (by omega)]; simp
    rw [if_pos (by simp; omega), if_pos (by omega), if_pos (by simp; omega), Int.toNat_natCast, rd_mid, List.length_cons, List.replicate_succ, set_mid, e1, hK']
theorem toIntS_ev (l : List Int) (h : l.length ≤ 1048576) : Ev (fun k => laws_toIntS.f k l) l := by
  obtain ⟨K, hK⟩ := toIntS_l0 l [] (by simp; omega)
  (try dsimp only at hK)
  refine ⟨K, fun k hk => ?_⟩
  (try dsimp only)
  unfold laws_toIntS.f
  rw [if_pos (by omega), if_pos (by omega), Int.toNat_natCast]
  exact hK k hk

theorem eqIntS_l0 (d : Nat) : ∀ (p p' q q' : List Int), p.length = p'.length → q.length = d → q'.length = d → p.length + d ≤ 1000000000000000 → Ev (fun k => laws_eqIntS.l0 k (p ++ q) (p' ++ q') (p.length : Int)) (decide (q = q')) := by
  induction d with
  | zero =>
    intro p p' q q' hp hq hq' hb
    obtain rfl : q = [] := by simpa using hq
    obtain rfl : q' = [] := by simpa using hq'
    refine ⟨1, fun k hk => ?_⟩
    (try dsimp only)
    obtain ⟨k, rfl⟩ : ∃ m, k = m + 1 := ⟨k - 1, by omega⟩
    simp only [laws_eqIntS.l0]
    rw [if_neg (by simp)]; rfl
  | succ d ih =>
    intro p p' q q' hp hq hq' hb
    match q, q', hq, hq' with
    | x :: q, y :: q', hq, hq' =>
      simp only [List.length_cons] at hq hq'
      have r1 := rd_mid p q x
      have r2 := rd_mid p' q' y
      rw [← hp] at r2
      have e1 : wrap64 ((p.length : Int) + 1) = ((p ++ [x]).length : Int) := by
        rw [wrap64_id (by omega) (by omega)]; simp
      by_cases hxy : x = y
      · subst hxy
        obtain ⟨K, hK⟩ := ih (p ++ [x]) (p' ++ [x]) q q' (by simp [hp]) (by omega) (by omega) (by simp; omega)
        (try dsimp only at hK)
        refine ⟨K + 1, fun k hk => ?_⟩
        (try dsimp only)
        obtain ⟨k, rfl, hk'⟩ := within_lo hk
        simp only [laws_eqIntS.l0]
        have hK' := hK k hk'
        simp only [List.append_assoc, List.cons_append, List.nil_append] at hK'
        rw [if_pos (by simp; omega), if_pos (by omega), if_pos (by simp; omega), r1, r2, if_pos rfl, e1, hK']
        simp
      · refine ⟨1, fun k hk => ?_⟩
        (try dsimp only)
        obtain ⟨k, rfl⟩ : ∃ m, k = m + 1 := ⟨k - 1, by omega⟩
        simp only [laws_eqIntS.l0]
        rw [if_pos (by simp; omega), if_pos (by omega), if_pos (by simp; omega), r1, r2, if_neg hxy]
        simp [hxy]
theorem eqIntS_ev (a b : List Int) (h : a.length ≤ 1000000000000000) : Ev (fun k => laws_eqIntS.f k a b) (decide (a = b)) := by
  by_cases hl : a.length = b.length
  · obtain ⟨K, hK⟩ := eqIntS_l0 a.length [] [] a b rfl rfl hl.symm (by simpa using h)
    (try dsimp only at hK)
    refine ⟨K, fun k hk => ?_⟩
    (try dsimp only)
    unfold laws_eqIntS.f
    rw [if_pos (by omega)]
    exact hK k hk
  · refine ⟨0, fun k _ => ?_⟩
    (try dsimp only)
    unfold laws_eqIntS.f
    rw [if_neg (by omega)]
    congr 1; symm
    rw [decide_eq_false_iff_not]
    rintro rfl; exact hl rfl

theorem szIntS_some3 (l : List Int) (a : Int) (ha : a ≤ 1048576) (ha0 : 0 ≤ a) (hl : l.length ≤ maxLen) : laws_szIntS.f l a = some (if (l.length : Int) ≤ a then a - l.length else -1) := by
  unfold maxLen at hl
  unfold laws_szIntS.f
  rw [wrap64_id (by omega) (by omega)]
  by_cases h : (l.length : Int) ≤ a
  · rw [if_neg (by omega), if_pos h]
  · rw [if_pos (by omega), if_neg h]
/-- The sizes of what is left of rows of rows: less than nothing, or all are small. -/
def szSS (a : Int) : List (List Int) → Int
  | [] => a
  | x :: q => if (x.length : Int) ≤ a then szSS (a - x.length) q else -1
theorem szSS_some (q : List (List Int)) : ∀ a : Int, 0 ≤ a → szSS a q < 0 ∨ ∀ x ∈ q, (x.length : Int) ≤ a := by
  induction q with
  | nil => intro a _; exact .inr (by simp)
  | cons x q ih =>
    intro a ha
    unfold szSS
    by_cases h : (x.length : Int) ≤ a
    · rw [if_pos h]
      rcases ih (a - x.length) (by omega) with h1 | h1
      · exact .inl h1
      · refine .inr fun y hy => ?_
        rcases List.mem_cons.mp hy with rfl | hy
        · exact h
        · have := h1 y hy; omega
    · rw [if_neg h]; exact .inl (by omega)
theorem szSS_le (q : List (List Int)) : ∀ a : Int, 0 ≤ a → szSS a q ≤ a ∧ -1 ≤ szSS a q := by
  induction q with
  | nil => intro a _; unfold szSS; omega
  | cons x q ih =>
    intro a ha
    unfold szSS
    by_cases h : (x.length : Int) ≤ a
    · rw [if_pos h]; have := ih (a - x.length) (by omega); omega
    · rw [if_neg h]; omega
theorem szIntSS_ev (l : List (List Int)) (a : Int) (ha : a ≤ 1048576) (ha0 : 0 ≤ a) (hl : l.length ≤ maxLen) (hx : ∀ x ∈ l, x.length ≤ maxLen) : Ev (fun k => laws_szIntSS.f k l a) (if (l.length : Int) ≤ a then szSS (a - l.length) l else -1) := by
  unfold maxLen at hl
  unfold laws_szIntSS.f
  rw [wrap64_id (by omega) (by omega)]
  by_cases h : (l.length : Int) ≤ a
  · rw [if_pos h]
    refine Ev.ite_neg (by omega) ?_
    refine Ev.rangeI l (fun k b i => laws_szIntSS.l0 k l b i) (fun b _ q => szSS b q) (fun b _ => 0 ≤ b ∧ b ≤ a) (fun b _ => ?_) (fun b p x q e hb ih => ?_) _ ⟨by omega, by omega⟩
    · refine Ev.succ ?_
      simp only [laws_szIntSS.l0]
      exact Ev.ite_neg (by omega) (Ev.some rfl)
    · refine Ev.succ ?_
      simp only [laws_szIntSS.l0]
      have hlen : p.length < l.length := by rw [e]; simp
      refine Ev.ite_pos (by omega) (Ev.ite_pos (by omega) ?_)
      have hrd : rd_L1 l (p.length : Int) = x := by unfold rd_L1; rw [e]; exact getD_mid _ _ _ _
      rw [hrd, szIntS_some3 x b (by omega) hb.1 (hx x (by rw [e]; simp))]
      simp only [Option.bind_some]
      by_cases h1 : (x.length : Int) ≤ b
      · simp only [if_pos h1]
        refine Ev.ite_neg (by omega) ?_
        rw [wrap_succ (by omega), szSS, if_pos h1]
        exact ih _ ⟨by omega, by omega⟩
      · simp only [if_neg h1]
        refine Ev.ite_pos (by omega) (Ev.some ?_)
        rw [szSS, if_neg h1]
  · rw [if_neg h]
    exact Ev.ite_pos (by omega) (Ev.some rfl)
theorem toIntSS_ev (l : List (List Int)) (hl : l.length ≤ 1048576) (hx : ∀ x ∈ l, x.length ≤ 1048576) : Ev (fun k => laws_toIntSS.f k l) l := by
  unfold laws_toIntSS.f
  refine Ev.ite_pos (by omega) (Ev.ite_pos (by omega) ?_)
  rw [Int.toNat_natCast]
  have := Ev.rangeI (ρ := List (List Int)) l (fun k b i => laws_toIntSS.l0 k l b i) (fun _ _ _ => l) (fun b p => b = p ++ List.replicate (l.length - p.length) []) (fun b hb => ?_) (fun b p x q e hb ih => ?_) (List.replicate l.length []) (by simp)
  · exact this
  · refine Ev.succ ?_
    simp only [laws_toIntSS.l0]
    refine Ev.ite_neg (by omega) (Ev.some ?_)
    rw [hb]; simp
  · refine Ev.succ ?_
    simp only [laws_toIntSS.l0]
    have hlen : p.length < l.length := by rw [e]; simp
    have hbl : b.length = l.length := by rw [hb]; simp; omega
    have hrd : rd_L1 l (p.length : Int) = x := by unfold rd_L1; rw [e]; exact getD_mid _ _ _ _
    refine Ev.ite_pos (by omega) (Ev.ite_pos (by omega) ?_)
    rw [hrd]
    refine Ev.bind (toIntS_ev x (hx x (by rw [e]; simp))) (Ev.ite_pos (by omega) ?_)
    rw [Int.toNat_natCast, wrap_succ (by omega)]
    refine ih _ ?_
    rw [hb, show l.length - p.length = (l.length - (p ++ [x]).length) + 1 from by simp; omega, List.replicate_succ, set_mid]
    simp
theorem eqIntSS_ev (a b : List (List Int)) (h : a.length ≤ 1000000000000000) (hx : ∀ x ∈ a, x.length ≤ 1000000000000000) : Ev (fun k => laws_eqIntSS.f k a b) (decide (a = b)) := by
  unfold laws_eqIntSS.f
  by_cases hl : a.length = b.length
  · refine Ev.ite_pos (by omega) ?_
    refine Ev.rangeI a (fun k (_ : Unit) i => laws_eqIntSS.l0 k a b i) (fun _ _ _ => decide (a = b)) (fun _ p => p = b.take p.length) (fun _ hp => ?_) (fun _ p x q e hp ih => ?_) () (by simp)
    · refine Ev.succ ?_
      simp only [laws_eqIntSS.l0]
      refine Ev.ite_neg (by omega) (Ev.some ?_)
      rw [hl, List.take_length] at hp
      simp [hp]
    · refine Ev.succ ?_
      simp only [laws_eqIntSS.l0]
      have hlen : p.length < a.length := by rw [e]; simp
      have hrd : rd_L1 a (p.length : Int) = x := by unfold rd_L1; rw [e]; exact getD_mid _ _ _ _
      refine Ev.ite_pos (by omega) (Ev.ite_pos (by omega) (Ev.ite_pos (by omega) ?_))
      rw [hrd]
      have hrb : rd_L1 b (p.length : Int) = b[p.length]'(by omega) := by
        unfold rd_L1; rw [Int.toNat_natCast, List.getD_eq_getElem?_getD, List.getElem?_eq_getElem (by omega)]; rfl
      rw [hrb]
      refine Ev.bind (eqIntS_ev x _ (hx x (by rw [e]; simp))) ?_
      by_cases hxy : x = b[p.length]'(by omega)
      · refine Ev.ite_pos (by simpa using hxy) ?_
        rw [wrap_succ (by omega)]
        refine ih () ?_
        rw [List.length_append, List.length_singleton, List.take_succ_eq_append_getElem (by omega), ← hp, ← hxy]
      · refine Ev.ite_neg (by simpa using hxy) (Ev.some ?_)
        symm
        rw [decide_eq_false_iff_not]
        rintro rfl
        apply hxy
        simp [e]
  · refine Ev.ite_neg (by omega) (Ev.some ?_)
    symm
    rw [decide_eq_false_iff_not]
    rintro rfl
    exact hl rfl

theorem szGraph_ev (l : List (List Int)) (hl : l.length ≤ maxLen) (hx : ∀ x ∈ l, x.length ≤ maxLen) :
    ∃ r, Ev (fun k => laws_szGraph.f k l 1048576) r ∧ (r < 0 ∨ l.length ≤ 1048576 ∧ ∀ x ∈ l, x.length ≤ 1048576) := by
  have h := szIntSS_ev l 1048576 (by omega) (by omega) hl hx
  by_cases hlen : (l.length : Int) ≤ 1048576
  · rw [if_pos hlen] at h
    refine ⟨if szSS (1048576 - l.length) l < 0 then -1 else szSS (1048576 - l.length) l, ?_, ?_⟩
    · unfold laws_szGraph.f
      refine Ev.bind h ?_
      by_cases h1 : szSS (1048576 - l.length) l < 0
      · exact Ev.ite_pos h1 (Ev.some (if_pos h1).symm)
      · exact Ev.ite_neg h1 (Ev.some (if_neg h1).symm)
    · rcases szSS_some l (1048576 - l.length) (by omega) with h1 | h1
      · rw [if_pos h1]; exact .inl (by omega)
      · exact .inr ⟨by omega, fun x hx => by have := h1 x hx; omega⟩
  · rw [if_neg hlen] at h
    refine ⟨-1, ?_, .inl (by omega)⟩
    unfold laws_szGraph.f
    exact Ev.bind h (Ev.ite_pos (by omega) (Ev.some rfl))
theorem toGraph_ev (l : List (List Int)) (hl : l.length ≤ 1048576) (hx : ∀ x ∈ l, x.length ≤ 1048576) : Ev (fun k => laws_toGraph.f k l) l := by
  unfold laws_toGraph.f
  exact Ev.bind (toIntSS_ev l hl hx) (Ev.some rfl)
theorem eqGraph_ev (a b : List (List Int)) (h : a.length ≤ 1000000000000000) (hx : ∀ x ∈ a, x.length ≤ 1000000000000000) : Ev (fun k => laws_eqGraph.f k a b) (decide (a = b)) := by
  unfold laws_eqGraph.f
  refine Ev.bind (eqIntSS_ev a b h hx) ?_
  by_cases hab : a = b
  · exact Ev.ite_pos (by simpa using hab) (Ev.some (by simp [hab]))
  · exact Ev.ite_neg (by simpa using hab) (Ev.some (by simp [hab]))

theorem markIntS_l0 (q : List Int) : ∀ (p : List Int) (a : Int), p.length + q.length ≤ 1000000000000000 → -1000000000000000 ≤ a → a + q.length ≤ 1000000000000000000 → Ev (fun k => laws_markIntS.l0 k (p ++ q) a (p.length : Int)) (a + q.length, p ++ upI a q.length) := by
  induction q with
  | nil =>
    intro p a h0 h1 h2
    refine ⟨1, fun k hk => ?_⟩
    (try dsimp only)
    obtain ⟨k, rfl⟩ : ∃ m, k = m + 1 := ⟨k - 1, by omega⟩
    simp only [laws_markIntS.l0]
    rw [if_neg (by simp)]; simp [upI]
  | cons x q ih =>
    intro p a h0 h1 h2
    simp only [List.length_cons] at h0 h2
    obtain ⟨K, hK⟩ := ih (p ++ [a]) (a + 1) (by simp; omega) (by omega) (by omega)
    (try dsimp only at hK)
    refine ⟨K + 1, fun k hk => ?_⟩
    (try dsimp only)
    obtain ⟨k, rfl, hk'⟩ := within_lo hk
    simp only [laws_markIntS.l0]
    have hK' := hK k hk'
    simp only [List.append_assoc, List.cons_append, List.nil_append] at hK'
    have e1 : wrap64 ((p.length : Int) + 1) = ((p ++ [a]).length : Int) := by
      rw [wrap64_id (by omega) (by omega)]; simp
    rw [if_pos (by simp; omega), if_pos (by omega), Int.toNat_natCast, set_mid, e1, wrap64_id (by omega) (by omega), hK']
    simp only [upI, List.length_cons]
    rw [show a + 1 + (q.length : Int) = a + ((q.length + 1 : Nat) : Int) from by omega]
theorem markIntS_ev (l : List Int) (a : Int) (h0 : l.length ≤ 1000000000000000) (h1 : -1000000000000000 ≤ a) (h2 : a + l.length ≤ 1000000000000000000) : Ev (fun k => laws_markIntS.f k l a) (a + l.length, upI a l.length) :=
  markIntS_l0 l [] a (by simpa using h0) h1 h2

/-- Rows filled with numbers that run on from a. -/
def upSS : Int → List (List Int) → List (List Int)
  | _, [] => []
  | a, x :: q => upI a x.length :: upSS (a + x.length) q
def totSS : List (List Int) → Int
  | [] => 0
  | x :: q => x.length + totSS q
theorem totSS_le : ∀ q : List (List Int), (∀ x ∈ q, x.length ≤ 1048576) → 0 ≤ totSS q ∧ totSS q ≤ 1048576 * (q.length : Int)
  | [], _ => by simp [totSS]
  | x :: q, h => by
    have h1 := h x (by simp)
    have h2 := totSS_le q (fun y hy => h y (by simp [hy]))
    simp only [totSS, List.length_cons]; omega
theorem upSS_length : ∀ (a : Int) (q : List (List Int)), (upSS a q).length = q.length
  | _, [] => rfl
  | a, x :: q => by simp [upSS, upSS_length (a + x.length) q]
theorem markIntSS_l0 (q : List (List Int)) : ∀ (p : List (List Int)) (a : Int), p.length + q.length ≤ 1048576 → 0 ≤ a → a + 1048576 * q.length ≤ 100000000000000000 → (∀ x ∈ q, x.length ≤ 1048576) →
    Ev (fun k => laws_markIntSS.l0 k (p ++ q) a (p.length : Int)) (a + totSS q, p ++ upSS a q) := by
  induction q with
  | nil =>
    intro p a h0 h1 h2 h3
    refine Ev.succ ?_
    simp only [laws_markIntSS.l0]
    exact Ev.ite_neg (by simp) (Ev.some (by simp [totSS, upSS]))
  | cons x q ih =>
    intro p a h0 h1 h2 h3
    simp only [List.length_cons] at h0 h2
    have hx := h3 x (by simp)
    have h := ih (p ++ [upI a x.length]) (a + x.length) (by simp; omega) (by omega) (by omega) (fun y hy => h3 y (by simp [hy]))
    refine Ev.succ ?_
    simp only [laws_markIntSS.l0]
    refine Ev.ite_pos (by simp; omega) (Ev.ite_pos (by omega) ?_)
    rw [getD_mid]
    refine Ev.bind (markIntS_ev x a (by omega) (by omega) (by omega)) ?_
    rw [wrap_succ (by omega), Int.toNat_natCast, set_mid]
    simp only [List.append_assoc, List.cons_append, List.nil_append, List.length_append, List.length_singleton, List.length_cons, List.length_nil] at h
    refine Ev.cast h ?_
    simp only [totSS, upSS]
    rw [Int.add_assoc]
theorem markIntSS_ev (l : List (List Int)) (h0 : l.length ≤ 1048576) (h3 : ∀ x ∈ l, x.length ≤ 1048576) : Ev (fun k => laws_markIntSS.f k l 1) (1 + totSS l, upSS 1 l) :=
  markIntSS_l0 l [] 1 (by simpa using h0) (by omega) (by omega) h3
theorem markGraph_ev (l : List (List Int)) (h0 : l.length ≤ 1048576) (h3 : ∀ x ∈ l, x.length ≤ 1048576) : Ev (fun k => laws_markGraph.f k l 1) (1 + totSS l, upSS 1 l) := by
  unfold laws_markGraph.f
  exact Ev.bind (markIntSS_ev l h0 h3) (Ev.now _)

theorem within_eq (a b c : Int) : impl_within.f a b c = some (decide (b ≤ a ∧ a ≤ c)) := by
  unfold impl_within.f
  by_cases h : a ≥ b
  · rw [if_pos h]; simp [show b ≤ a from h]
  · rw [if_neg h]; simp; omega

theorem l1In_eq (a b c : Int) : spec_l1In.f a b c = some (decide (b ≤ a ∧ a ≤ c)) := by
  unfold spec_l1In.f
  by_cases h : a ≥ b
  · rw [if_pos h]; simp [show b ≤ a from h]
  · rw [if_neg h]; simp; omega

theorem findIdx_any {α : Type} (p : α → Bool) (l : List α) : decide ((match l.findIdx? p with | some j => (j : Int) | none => -1) ≥ 0) = l.any p := by
  rw [Bool.eq_iff_iff, decide_eq_true_iff, List.any_eq_true]
  cases hf : l.findIdx? p with
  | none =>
    rw [List.findIdx?_eq_none_iff] at hf
    constructor
    · intro h; simp only [ge_iff_le] at h; omega
    · rintro ⟨x, hx, h⟩; rw [hf x hx] at h; simp at h
  | some j =>
    constructor
    · intro _
      obtain ⟨hj, h1, _⟩ := List.findIdx?_eq_some_iff_getElem.mp hf
      exact ⟨l[j], List.getElem_mem hj, h1⟩
    · intro _; simp only [ge_iff_le]; omega
/-- A loop that looks for the first element that is so. -/
theorem Ev.index {α : Type} (l : List α) (F : Nat → Int → Option Int) (pr : α → Bool)
    (h0 : Ev (fun k => F k (l.length : Int)) (-1))
    (hs : ∀ p x q, l = p ++ x :: q → pr x = true → Ev (fun k => F k (p.length : Int)) (p.length : Int))
    (hn : ∀ p x q r, l = p ++ x :: q → pr x = false → Ev (fun k => F k ((p.length : Int) + 1)) r → Ev (fun k => F k (p.length : Int)) r) :
    Ev (fun k => F k 0) (match l.findIdx? pr with | some j => (j : Int) | none => -1) := by
  have main : ∀ (q p : List α), l = p ++ q → Ev (fun k => F k (p.length : Int)) (match q.findIdx? pr with | some j => ((p.length + j : Nat) : Int) | none => -1) := by
    intro q
    induction q with
    | nil => intro p e; rw [e, List.append_nil] at h0; exact h0
    | cons x q ih =>
      intro p e
      cases hx : pr x with
      | true =>
        have := hs p x q e hx
        rw [List.findIdx?_cons, hx]; simpa using this
      | false =>
        have := ih (p ++ [x]) (by rw [e]; simp)
        have e2 : ((p ++ [x]).length : Int) = (p.length : Int) + 1 := by simp
        rw [e2] at this
        have := hn p x q _ e hx this
        rw [List.findIdx?_cons, hx]
        refine Ev.cast this ?_
        cases q.findIdx? pr with
        | none => rfl
        | some j => simp; omega
  have := main l [] rfl
  refine Ev.cast this ?_
  cases l.findIdx? pr with
  | none => rfl
  | some j => simp

/-- Whether numbers rise from 0 below n, behind what came ahead of them. -/
def risesL (n : Int) : List Int → List Int → Bool
  | _, [] => true
  | p, x :: q => decide (0 ≤ x ∧ x ≤ n - 1) && ((match p.getLast? with | none => true | some y => decide (y < x)) && risesL n (p ++ [x]) q)
def goodGraphB (l : List (List Int)) : Bool := decide (1 ≤ l.length ∧ l.length ≤ 12) && l.all (risesL l.length [])
theorem rd_before (p q : List Int) (x : Int) (h : 0 < p.length) : ∃ y, p.getLast? = some y ∧ rd (p ++ x :: q) ((p.length : Int) - 1) = y := by
  cases hp : p.getLast? with
  | none => rw [List.getLast?_eq_none_iff] at hp; subst hp; simp at h
  | some y =>
    refine ⟨y, rfl, ?_⟩
    unfold rd
    rw [show ((p.length : Int) - 1).toNat = p.length - 1 from by omega, List.getD_eq_getElem?_getD, List.getElem?_append_left (by omega)]
    rw [List.getLast?_eq_getElem?] at hp
    rw [hp]; rfl
theorem risesIn_ev (l : List Int) (n : Int) (hl : l.length ≤ 1048576) (hn : 0 ≤ n) (hn' : n ≤ 1048576) : Ev (fun k => impl_risesIn.f k l n) (risesL n [] l) := by
  unfold impl_risesIn.f
  refine Ev.rangeP l (fun k (_ : Unit) i => impl_risesIn.l0 k l n l (l.length : Int) i) (fun _ p q => risesL n p q) (fun _ => ?_) (fun _ p x q e ih => ?_) ()
  · refine Ev.succ ?_
    simp only [impl_risesIn.l0]
    exact Ev.ite_neg (by omega) (Ev.some rfl)
  · refine Ev.succ ?_
    simp only [impl_risesIn.l0]
    have hlen : p.length < l.length := by rw [e]; simp
    have hr : rd l (p.length : Int) = x := by rw [e]; exact rd_mid _ _ _
    refine Ev.ite_pos (by omega) (Ev.ite_pos (by omega) (Ev.ite_pos (by omega) ?_))
    rw [hr, wrap64_id (by omega) (by omega), within_eq]
    simp only [Option.bind_some]
    rw [risesL]
    by_cases h1 : 0 ≤ x ∧ x ≤ n - 1
    · refine Ev.ite_pos (by simpa using h1) ?_
      rw [decide_eq_true h1, Bool.true_and, wrap_succ (by omega)]
      by_cases h2 : 0 < p.length
      · obtain ⟨y, hy, hry⟩ := rd_before p q x h2
        rw [← e] at hry
        rw [wrap64_id (by omega) (by omega), hry, hy]
        refine Ev.ite_pos (by omega) (Ev.ite_pos (by omega) (Ev.ite_pos (by omega) ?_))
        by_cases h3 : y < x
        · refine Ev.ite_neg (by omega) ?_
          dsimp only
          rw [decide_eq_true h3, Bool.true_and]
          exact ih ()
        · refine Ev.ite_pos (by omega) (Ev.some ?_)
          dsimp only
          rw [decide_eq_false h3, Bool.false_and]
      · have hp : p = [] := List.eq_nil_of_length_eq_zero (by omega)
        subst hp
        refine Ev.ite_neg (by simp) ?_
        simpa using ih ()
    · refine Ev.ite_neg (by simpa using h1) (Ev.some ?_)
      rw [decide_eq_false h1, Bool.false_and]
theorem goodIx_ev (l : List (List Int)) (n : Int) (hn : 0 ≤ n) (hn' : n ≤ 1048576) (hl : l.length ≤ 1048576) (hx : ∀ x ∈ l, x.length ≤ 1048576) :
    Ev (fun k => impl_GoodGraph_ix.l0 k n l 0) (match l.findIdx? (fun x => !risesL n [] x) with | some j => (j : Int) | none => -1) := by
  refine Ev.index l (fun k i => impl_GoodGraph_ix.l0 k n l i) (fun x => !risesL n [] x) ?_ (fun p x q e hp => ?_) (fun p x q r e hp ih => ?_)
  · refine Ev.succ ?_
    simp only [impl_GoodGraph_ix.l0]
    exact Ev.ite_neg (by omega) (Ev.some rfl)
  all_goals
    have hlen : p.length < l.length := by rw [e]; simp
    refine Ev.succ ?_
    simp only [impl_GoodGraph_ix.l0]
    refine Ev.ite_pos (by omega) (Ev.ite_pos (by omega) ?_)
    have hg : l.getD (p.length : Int).toNat [] = x := by rw [e]; exact getD_mid _ _ _ _
    rw [hg]
    unfold impl_GoodGraph_1.f
    refine Ev.bind (Ev.bind (risesIn_ev x n (hx x (by rw [e]; simp)) hn hn') (Ev.some rfl)) ?_
    rw [hp]
  · exact Ev.ite_pos rfl (Ev.some rfl)
  · refine Ev.ite_neg (by simp) ?_
    rw [wrap_succ (by omega)]
    exact ih
theorem iGoodGraph_ev (l : List (List Int)) (hl : l.length ≤ 1048576) (hx : ∀ x ∈ l, x.length ≤ 1048576) : Ev (fun k => impl_GoodGraph.f k l) (goodGraphB l) := by
  unfold impl_GoodGraph.f goodGraphB
  rw [within_eq]
  simp only [Option.bind_some]
  by_cases h : 1 ≤ l.length ∧ l.length ≤ 12
  · refine Ev.ite_pos (by simp; omega) (Ev.bind (goodIx_ev l l.length (by omega) (by omega) hl hx) (Ev.some ?_))
    rw [findIdx_any, decide_eq_true h, Bool.true_and, List.not_any_eq_all_not]
    simp
  · refine Ev.ite_neg (by simp; omega) (Ev.some ?_)
    rw [decide_eq_false h, Bool.false_and]
theorem sGoodRow_ev (l : List (List Int)) (n : Int) (g : List (List Int)) (m j : Int) (hn : 0 ≤ n) (hn' : n ≤ 1048576) (r : Bool) (x : List Int) (hl : x.length ≤ 1048576)
    (hnext : Ev (fun k => spec_GoodGraph.l0 k n g m (wrap64 (j + 1))) r) :
    Ev (fun k => spec_GoodGraph.l1 k n x g m j x (x.length : Int) 0) (risesL n [] x && r) := by
  refine Ev.rangeP x (fun k (_ : Unit) i => spec_GoodGraph.l1 k n x g m j x (x.length : Int) i) (fun _ p q => risesL n p q && r) (fun _ => ?_) (fun _ p y q e ih => ?_) ()
  · refine Ev.succ ?_
    simp only [spec_GoodGraph.l1]
    exact Ev.ite_neg (by omega) hnext
  · refine Ev.succ ?_
    simp only [spec_GoodGraph.l1]
    have hlen : p.length < x.length := by rw [e]; simp
    have hr : rd x (p.length : Int) = y := by rw [e]; exact rd_mid _ _ _
    refine Ev.ite_pos (by omega) (Ev.ite_pos (by omega) (Ev.ite_pos (by omega) ?_))
    rw [hr, risesL]
    by_cases h1 : y < 0
    · refine Ev.ite_pos h1 (Ev.some ?_)
      rw [decide_eq_false (by omega)]; rfl
    refine Ev.ite_neg h1 ?_
    by_cases h1' : y ≥ n
    · refine Ev.ite_pos h1' (Ev.some ?_)
      rw [decide_eq_false (by omega)]; rfl
    refine Ev.ite_neg h1' ?_
    rw [decide_eq_true (by omega), Bool.true_and, wrap_succ (by omega)]
    by_cases h2 : 0 < p.length
    · obtain ⟨z, hz, hrz⟩ := rd_before p q y h2
      rw [← e] at hrz
      rw [wrap64_id (by omega) (by omega), hrz, hz]
      refine Ev.ite_pos (by omega) (Ev.ite_pos (by omega) (Ev.ite_pos (by omega) ?_))
      by_cases h3 : z < y
      · refine Ev.ite_neg (by omega) ?_
        dsimp only
        rw [decide_eq_true h3, Bool.true_and]
        exact ih ()
      · refine Ev.ite_pos (by omega) (Ev.some ?_)
        dsimp only
        rw [decide_eq_false h3]; rfl
    · have hp : p = [] := List.eq_nil_of_length_eq_zero (by omega)
      subst hp
      refine Ev.ite_neg (by simp) ?_
      simpa using ih ()
theorem sGoodGraph_ev (l : List (List Int)) (hl : l.length ≤ 1048576) (hx : ∀ x ∈ l, x.length ≤ 1048576) : Ev (fun k => spec_GoodGraph.f k l) (goodGraphB l) := by
  unfold spec_GoodGraph.f goodGraphB
  have := Ev.rangeP l (fun k (_ : Unit) i => spec_GoodGraph.l0 k (l.length : Int) l (l.length : Int) i) (fun _ _ q => q.all (risesL l.length []) && decide (1 ≤ l.length ∧ l.length ≤ 12)) (fun _ => ?_) (fun _ p x q e ih => ?_) ()
  · rw [Bool.and_comm]; exact this
  · refine Ev.succ ?_
    simp only [spec_GoodGraph.l0]
    refine Ev.ite_neg (by omega) ?_
    rw [l1In_eq]
    simp only [Option.bind_some]
    refine Ev.some ?_
    rw [List.all_nil, Bool.true_and, Bool.eq_iff_iff]; simp only [decide_eq_true_eq]; omega
  · refine Ev.succ ?_
    simp only [spec_GoodGraph.l0]
    have hlen : p.length < l.length := by rw [e]; simp
    have hrd : rd_L1 l (p.length : Int) = x := by unfold rd_L1; rw [e]; exact getD_mid _ _ _ _
    refine Ev.ite_pos (by omega) (Ev.ite_pos (by omega) (Ev.ite_pos (by omega) ?_))
    rw [hrd]
    have h2 := sGoodRow_ev l l.length l l.length p.length (by omega) (by omega) _ x (hx x (by rw [e]; simp)) (by rw [wrap_succ (by omega)]; exact ih ())
    rw [List.all_cons, Bool.and_assoc]
    exact h2

/-- A graph whose goals lie in it. -/
structure GW (g : List (List Int)) : Prop where
  lo : 1 ≤ g.length
  hi : g.length ≤ 12
  row : ∀ r ∈ g, r.length ≤ 1048576
  inn : ∀ r ∈ g, ∀ x ∈ r, 0 ≤ x ∧ x < g.length
/-- A graph that is well made. -/
structure GG (g : List (List Int)) : Prop extends GW g where
  rise : ∀ r ∈ g, risesL g.length [] r = true
theorem risesL_in (n : Int) : ∀ (q p : List Int), risesL n p q = true → ∀ x ∈ q, 0 ≤ x ∧ x < n
  | [], _, _, _, hx => by simp at hx
  | y :: q, p, h, x, hx => by
    rw [risesL, Bool.and_eq_true, Bool.and_eq_true, decide_eq_true_iff] at h
    rcases List.mem_cons.1 hx with rfl | hx
    · omega
    · exact risesL_in n q _ h.2.2 x hx
theorem goodGraph_GG {g : List (List Int)} (h : goodGraphB g = true) (hx : ∀ x ∈ g, x.length ≤ 1048576) : GG g := by
  unfold goodGraphB at h
  rw [Bool.and_eq_true, decide_eq_true_iff, List.all_eq_true] at h
  exact ⟨⟨h.1.1, h.1.2, hx, fun r hr => risesL_in _ _ _ (h.2 r hr)⟩, fun r hr => h.2 r hr⟩
/-- Row x of g. -/
def rowG (g : List (List Int)) (x : Int) : List Int := g.getD x.toNat []
theorem rowG_mem {g : List (List Int)} {x : Int} (h0 : 0 ≤ x) (h1 : x < g.length) : rowG g x ∈ g := by
  unfold rowG
  rw [List.getD_eq_getElem?_getD, List.getElem?_eq_getElem (by omega)]
  exact List.getElem_mem _

theorem reverse_l0 : ∀ (n : Nat) (mid p s : List Int), mid.length ≤ n → p.length = s.length → p.length + mid.length + s.length ≤ 1000000000 →
    Ev (fun k => slices_Reverse_int_int.l0 k (p ++ mid ++ s) (p.length : Int) ((p.length : Int) + mid.length - 1)) (p ++ mid.reverse ++ s)
  | n, [], p, s, _, _, _ => by
    refine Ev.succ ?_
    simp only [slices_Reverse_int_int.l0]
    exact Ev.ite_neg (by simp; omega) (Ev.some (by simp))
  | n, a :: t, p, s, hn, hps, hb => by
    rcases List.eq_nil_or_concat t with rfl | ⟨m, b, rfl⟩
    · refine Ev.succ ?_
      simp only [slices_Reverse_int_int.l0]
      exact Ev.ite_neg (by simp) (Ev.some (by simp))
    · rw [List.concat_eq_append] at hn hb ⊢
      simp only [List.length_cons, List.length_append, List.length_singleton, List.length_nil] at hn hb
      cases n with
      | zero => omega
      | succ n =>
        have ih := reverse_l0 n m (p ++ [b]) (a :: s) (by omega) (by simp; omega) (by simp; omega)
        refine Ev.succ ?_
        simp only [slices_Reverse_int_int.l0]
        have e3 : (p.length : Int) + ((a :: (m ++ [b])).length : Nat) - 1 = ((p ++ a :: m).length : Nat) := by simp; omega
        rw [e3]
        have eL : p ++ a :: (m ++ [b]) ++ s = (p ++ a :: m) ++ b :: s := by simp
        have eL2 : p ++ a :: (m ++ [b]) ++ s = p ++ a :: (m ++ b :: s) := by simp
        have r1 : rd (p ++ a :: (m ++ [b]) ++ s) ((p ++ a :: m).length : Int) = b := by rw [eL]; exact rd_mid _ _ _
        have r2 : rd (p ++ a :: (m ++ [b]) ++ s) (p.length : Int) = a := by rw [eL2]; exact rd_mid _ _ _
        refine Ev.ite_pos (by simp; omega) (Ev.ite_pos (by omega) (Ev.ite_pos (by simp; omega) (Ev.ite_pos (by omega) (Ev.ite_pos (by simp; omega) ?_))))
        rw [r1, r2, Int.toNat_natCast, Int.toNat_natCast]
        have s1 : (p ++ a :: (m ++ [b]) ++ s).set p.length b = p ++ b :: (m ++ b :: s) := by rw [eL2, set_mid]
        have s2 : (p ++ b :: (m ++ b :: s)).set (p ++ a :: m).length a = p ++ b :: (m ++ a :: s) := by
          have : p ++ b :: (m ++ b :: s) = (p ++ b :: m) ++ b :: s := by simp
          rw [this, show (p ++ a :: m).length = (p ++ b :: m).length by simp, set_mid]
          simp
        rw [s1, s2, wrap_succ (by omega), wrap64_id (by simp; omega) (by simp; omega)]
        have e4 : p ++ [b] ++ m ++ a :: s = p ++ b :: (m ++ a :: s) := by simp
        have e5 : (((p ++ [b]).length : Nat) : Int) = (p.length : Int) + 1 := by simp
        have e6 : (p.length : Int) + 1 + m.length - 1 = ((p ++ a :: m).length : Nat) - 1 := by simp; omega
        rw [e4, e5, e6] at ih
        refine Ev.cast ih ?_
        simp
theorem reverse_ev (l : List Int) (h : l.length ≤ 1000000000) : Ev (fun k => slices_Reverse_int_int.f k l) l.reverse := by
  unfold slices_Reverse_int_int.f
  have := reverse_l0 l.length l [] [] (Nat.le_refl _) rfl (by simpa using h)
  rw [wrap64_id (by omega) (by omega)]
  simp only [List.nil_append, List.append_nil, List.length_nil] at this
  rw [show ((0 : Nat) : Int) + (l.length : Int) - 1 = (l.length : Int) - 1 by omega] at this
  exact this
/-- How many are not marked. -/
def unsn : List Bool → Nat
  | [] => 0
  | b :: q => (if b = true then 0 else 1) + unsn q
theorem unsn_set : ∀ (l : List Bool) (i : Nat), l[i]? = some false → unsn (l.set i true) + 1 = unsn l
  | [], i, h => by simp at h
  | b :: q, 0, h => by
    simp only [List.getElem?_cons_zero, Option.some.injEq] at h
    subst h
    simp [unsn]; omega
  | b :: q, i + 1, h => by
    rw [List.getElem?_cons_succ] at h
    have := unsn_set q i h
    simp only [List.set_cons_succ, unsn]; omega
theorem rdOf_some {l : List Bool} {x : Int} (h0 : 0 ≤ x) (h1 : x < (l.length : Int)) : l[x.toNat]? = some (rdOf false l x) := by
  unfold rdOf
  rw [List.getD_eq_getElem?_getD, List.getElem?_eq_getElem (by omega)]; rfl
/-- What a visit leaves behind. -/
structure Visit (g : List (List Int)) (sn : List Bool) (out : List Int) (sn2 : List Bool) (out2 : List Int) : Prop where
  len : sn2.length = g.length
  sum : out2.length + unsn sn2 = out.length + unsn sn
  le : unsn sn2 ≤ unsn sn
theorem visit_ev {g : List (List Int)} (hg : GG g) : ∀ (m : Nat) (a : Int) (sn : List Bool) (out : List Int), unsn sn ≤ m → sn.length = g.length → out.length + unsn sn ≤ 100 → 0 ≤ a → a < g.length → rdOf false sn a = false →
    ∃ out2 sn2, Ev (fun k => spec_l7Post.f k g a sn out.reverse) (out2.reverse, sn2) ∧ Ev (fun k => impl_Graph_order_1.l1 k g a sn out) (out2, sn2) ∧ Visit g sn out sn2 out2
  | 0, a, sn, out, hm, hl, hb, h0, h1, hf => by
    have hs := rdOf_some h0 (show a < (sn.length : Int) by omega)
    rw [hf] at hs
    have := unsn_set _ _ hs
    omega
  | m + 1, a, sn, out, hm, hl, hb, h0, h1, hf => by
    have hs := rdOf_some h0 (show a < (sn.length : Int) by omega)
    rw [hf] at hs
    have hu := unsn_set _ _ hs
    have hr := rowG_mem h0 h1
    have hrow := hg.row _ hr
    have hin := hg.inn _ hr
    have hhi := hg.hi
    have loop : ∀ (q p : List Int) (sn1 : List Bool) (out1 : List Int), rowG g a = p ++ q → unsn sn1 ≤ m → sn1.length = g.length → out1.length + unsn sn1 + 1 ≤ 100 →
        ∃ out2 sn2, Ev (fun k => spec_l7Post.l0 k a sn1 out1.reverse (rowG g a) ((rowG g a).length : Int) (p.length : Int) g) (out2.reverse, sn2) ∧ Ev (fun k => impl_Graph_order_1.l0 k g a sn1 out1 (rowG g a) (p.length : Int)) (out2, sn2) ∧ sn2.length = g.length ∧ out2.length + unsn sn2 = out1.length + unsn sn1 + 1 ∧ unsn sn2 ≤ unsn sn1 := by
      intro q
      induction q with
      | nil =>
        intro p sn1 out1 e hu1 hl1 hb1
        rw [List.append_nil] at e
        refine ⟨out1 ++ [a], sn1, ?_, ?_, hl1, by simp; omega, Nat.le_refl _⟩
        · refine Ev.succ ?_
          simp only [spec_l7Post.l0]
          refine Ev.ite_neg (by rw [e]; omega) (Ev.bind (Ev.now _) (Ev.ite_pos (by simp; omega) (Ev.some ?_)))
          simp
        · refine Ev.succ ?_
          simp only [impl_Graph_order_1.l0]
          exact Ev.ite_neg (by rw [e]; omega) (Ev.ite_pos (by omega) (Ev.now _))
      | cons x q ih =>
        intro p sn1 out1 e hu1 hl1 hb1
        have hlen : p.length < (rowG g a).length := by rw [e]; simp
        have hrd : rd (rowG g a) (p.length : Int) = x := by rw [e]; exact rd_mid _ _ _
        have hx := hin x (by rw [e]; simp)
        have e2 : rowG g a = (p ++ [x]) ++ q := by rw [e]; simp
        have e3 : (((p ++ [x]).length : Nat) : Int) = (p.length : Int) + 1 := by simp
        have hp : p.length ≤ 1048576 := by omega
        cases hsx : rdOf false sn1 x with
        | true =>
          obtain ⟨out2, sn2, h1', h2', h3'⟩ := ih (p ++ [x]) sn1 out1 e2 hu1 hl1 hb1
          rw [e3] at h1' h2'
          refine ⟨out2, sn2, ?_, ?_, h3'⟩
          · refine Ev.succ ?_
            simp only [spec_l7Post.l0]
            rw [hrd, wrap_succ (by omega)]
            exact Ev.ite_pos (by omega) (Ev.ite_pos (by omega) (Ev.ite_pos (by omega) (Ev.ite_pos hx.1 (Ev.ite_pos (by omega) (Ev.ite_pos hsx h1')))))
          · refine Ev.succ ?_
            simp only [impl_Graph_order_1.l0]
            rw [hrd, wrap_succ (by omega)]
            exact Ev.ite_pos (by omega) (Ev.ite_pos (by omega) (Ev.ite_pos hx.1 (Ev.ite_pos (by omega) (Ev.ite_pos hsx h2'))))
        | false =>
          obtain ⟨o3, s3, v1, v2, v3⟩ := visit_ev hg m x sn1 out1 hu1 hl1 (by omega) hx.1 hx.2 hsx
          obtain ⟨out2, sn2, h1', h2', h3', h4', h5'⟩ := ih (p ++ [x]) s3 o3 e2 (by have := v3.le; omega) v3.len (by have := v3.sum; omega)
          rw [e3] at h1' h2'
          refine ⟨out2, sn2, ?_, ?_, h3', by have := v3.sum; omega, by have := v3.le; omega⟩
          · refine Ev.succ ?_
            simp only [spec_l7Post.l0]
            rw [hrd, wrap_succ (by omega)]
            exact Ev.ite_pos (by omega) (Ev.ite_pos (by omega) (Ev.ite_pos (by omega) (Ev.ite_pos hx.1 (Ev.ite_pos (by omega) (Ev.ite_neg (by rw [hsx]; decide) (Ev.bind v1 h1'))))))
          · refine Ev.succ ?_
            simp only [impl_Graph_order_1.l0]
            rw [hrd, wrap_succ (by omega)]
            exact Ev.ite_pos (by omega) (Ev.ite_pos (by omega) (Ev.ite_pos hx.1 (Ev.ite_pos (by omega) (Ev.ite_neg (by rw [hsx]; decide) (Ev.bind v2 h2')))))
    obtain ⟨out2, sn2, h1', h2', h3', h4', h5'⟩ := loop (rowG g a) [] (sn.set a.toNat true) out rfl (by omega) (by rw [List.length_set]; exact hl) (by omega)
    refine ⟨out2, sn2, ?_, ?_, h3', by omega, by omega⟩
    · refine Ev.succ ?_
      simp only [spec_l7Post.f]
      exact Ev.ite_pos h0 (Ev.ite_pos (by omega) (Ev.ite_pos h1 h1'))
    · refine Ev.succ ?_
      simp only [impl_Graph_order_1.l1]
      exact Ev.ite_pos h0 (Ev.ite_pos (by omega) (Ev.ite_pos h1 h2'))
theorem unsn_rep (n : Nat) : unsn (List.replicate n false) = n := by
  induction n with
  | zero => rfl
  | succ n ih => rw [List.replicate_succ, unsn, ih]; simp; omega
theorem order_ev {g : List (List Int)} (hg : GG g) : ∃ r, Ev (fun k => spec_l7Order.f k g) r ∧ Ev (fun k => impl_Graph_order.f k g) r ∧ r.length ≤ 12 := by
  have hlo := hg.lo
  have hhi := hg.hi
  have hu := unsn_rep g.length
  obtain ⟨out2, sn2, h1, h2, h3⟩ := visit_ev hg g.length 0 (List.replicate g.length false) [] (by omega) (by simp) (by simp; omega) (by omega) (by omega) (by
    unfold rdOf
    rw [List.getD_eq_getElem?_getD, List.getElem?_replicate]
    split <;> rfl)
  have hsum := h3.sum
  rw [List.length_nil] at hsum
  refine ⟨out2.reverse, ?_, ?_, by rw [List.length_reverse]; omega⟩
  · unfold spec_l7Order.f
    rw [Int.toNat_natCast]
    exact Ev.ite_pos (by omega) (Ev.ite_pos (by omega) (Ev.bind h1 (Ev.now _)))
  · unfold impl_Graph_order.f
    exact Ev.ite_pos (by omega) (Ev.bind h2 (reverse_ev out2 (by omega)))
theorem orderIn_ev (g : List (List Int)) (h0 : g.length ≤ 1048576) (hx : ∀ x ∈ g, x.length ≤ 1048576) : ∃ r, Ev (fun k => spec_OrderOf.f k g) r ∧ Ev (fun k => impl_OrderOf.f k g) r ∧ r.1.length ≤ 12 := by
  by_cases h : goodGraphB g = true
  · obtain ⟨r, h1, h2, h3⟩ := order_ev (goodGraph_GG h hx)
    refine ⟨(r, true), ?_, ?_, h3⟩
    · unfold spec_OrderOf.f
      exact Ev.bind (sGoodGraph_ev g h0 hx) (Ev.ite_pos h (Ev.bind h1 (Ev.now _)))
    · unfold impl_OrderOf.f
      exact Ev.bind (iGoodGraph_ev g h0 hx) (Ev.ite_pos h (Ev.bind h2 (Ev.now _)))
  · refine ⟨([], false), ?_, ?_, by simp⟩
    · unfold spec_OrderOf.f
      exact Ev.bind (sGoodGraph_ev g h0 hx) (Ev.ite_neg h (Ev.now _))
    · unfold impl_OrderOf.f
      exact Ev.bind (iGoodGraph_ev g h0 hx) (Ev.ite_neg h (Ev.now _))

theorem heldIntS_l0 (n : Nat) : ∀ (p : List Int) (a : Int), p.length + n ≤ 1000000000000000 → -1000000000000000 ≤ a → a + n ≤ 1000000000000000000 → Ev (fun k => laws_heldIntS.l0 k (p ++ upI a n) a (p.length : Int)) (a + n) := by
  induction n with
  | zero =>
    intro p a h0 h1 h2
    refine ⟨1, fun k hk => ?_⟩
    (try dsimp only)
    obtain ⟨k, rfl⟩ : ∃ m, k = m + 1 := ⟨k - 1, by omega⟩
    simp only [laws_heldIntS.l0]
    rw [if_neg (by simp [upI])]; simp
  | succ n ih =>
    intro p a h0 h1 h2
    obtain ⟨K, hK⟩ := ih (p ++ [a]) (a + 1) (by simp; omega) (by omega) (by omega)
    (try dsimp only at hK)
    refine ⟨K + 1, fun k hk => ?_⟩
    (try dsimp only)
    obtain ⟨k, rfl, hk'⟩ := within_lo hk
    rw [laws_heldIntS.l0, show upI a (n + 1) = a :: upI (a + 1) n from rfl]
    have hK' := hK k hk'
    simp only [List.append_assoc, List.cons_append, List.nil_append] at hK'
    have e1 : wrap64 ((p.length : Int) + 1) = ((p ++ [a]).length : Int) := by
      rw [wrap64_id (by omega) (by omega)]; simp
    rw [if_pos (by simp <;> omega), if_pos (by omega), rd_mid, if_pos rfl, e1, wrap64_id (by omega) (by omega), hK']
    congr 1; omega
theorem heldIntS_ev (n : Nat) (a : Int) (h0 : n ≤ 1000000000000000) (h1 : -1000000000000000 ≤ a) (h2 : a + n ≤ 1000000000000000000) : Ev (fun k => laws_heldIntS.f k (upI a n) a) (a + n) :=
  heldIntS_l0 n [] a (by simpa using h0) h1 h2

theorem FnExactOrderOf : laws_FnExactOrderOf.Pure := by
  intro a ha hx
  refine Ev.rounds (g := fun k => laws_FnExactOrderOf.f k a) ?_
  unfold laws_FnExactOrderOf.f
  obtain ⟨r, hr, h⟩ := szGraph_ev a ha (fun x hxm => (hx x hxm).1)
  refine Ev.bind hr ?_
  by_cases hn : r < 0
  · exact Ev.ite_pos hn (Ev.now _)
  · obtain ⟨h1, h2⟩ := h.resolve_left hn
    obtain ⟨v, hs, hi, hv⟩ := orderIn_ev a h1 h2
    have hta := totSS_le _ h2
    have tg := toGraph_ev a h1 h2
    have eq := eqIntS_ev v.1 v.1 (by omega)
    have mk := markIntS_ev v.1 1 (by omega) (by omega) (by omega)
    have hd := heldIntS_ev v.1.length 1 (by omega) (by omega) (by omega)
    have eg := eqGraph_ev a a (by omega) (fun x hxm => by have := h2 x hxm; omega)
    refine Ev.ite_neg hn (Ev.bind tg (Ev.bind hs (Ev.bind tg (Ev.bind hi ?_))))
    refine Ev.bind eq (Ev.ite_pos (by simp) (Ev.ite_pos rfl (Ev.bind tg (Ev.bind eg (Ev.ite_pos (by simp) (Ev.bind (markGraph_ev a h1 h2) (Ev.ite_neg (by dsimp only; omega) ?_)))))))
    refine Ev.bind eq (Ev.ite_pos (by simp) (Ev.ite_pos rfl (Ev.bind mk (Ev.bind hd (Ev.ite_neg (by omega) (Ev.ite_pos rfl ?_))))))
    refine Ev.bind tg (Ev.bind hi (Ev.bind eq (Ev.ite_pos (by simp) (Ev.ite_pos rfl (Ev.bind hd (Ev.ite_neg (by omega) (Ev.ite_pos rfl (Ev.now _))))))))

end Go.Proofs.Ytbagmhcdhemopaa.Pure
