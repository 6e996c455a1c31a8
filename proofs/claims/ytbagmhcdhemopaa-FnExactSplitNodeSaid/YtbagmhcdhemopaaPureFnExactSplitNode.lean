/- Of every graph and all numbers the law of splitnode tells true. No condition beyond the row's own. -/
import Derived.Test.YtbagmhcdhemopaaQ0
import Derived.Test.YtbagmhcdhemopaaQ1
import Derived.Test.YtbagmhcdhemopaaQ2
import Derived.Test.YtbagmhcdhemopaaQ3
import Derived.Test.YtbagmhcdhemopaaQ4
import Derived.Test.YtbagmhcdhemopaaQ5
import Derived.Test.YtbagmhcdhemopaaQ6
import Derived.Test.YtbagmhcdhemopaaQ7
import Derived.Test.YtbagmhcdhemopaaQ8
import Derived.Test.YtbagmhcdhemopaaLib1
import Derived.Test.YtbagmhcdhemopaaLib2
import Derived.Test.YtbagmhcdhemopaaTab
namespace Go.Proofs.Ytbagmhcdhemopaa.Pure
open Go.RowKit Go.Proofs.Ytbagmhcdhemopaa.Lib Go.Proofs.Ytbagmhcdhemopaa.Q Go.Proofs.YtbagmhcdhemopaaW.PrintWords Go.Proofs.YtbagmhcdhemopaaW.PrintLast Go.Proofs.YtbagmhcdhemopaaW.PrintMore
set_option linter.unusedVariables false
set_option linter.unusedSimpArgs false

theorem toIntS_l0 (q : List Int) : ∀ (p : List Int), p.length + q.length ≤ 1000000000000000 → Ev (fun k => laws_toIntS.l0 k (p ++ q) (p ++ List.replicate q.length 0) (p.length : Int)) (p ++ q) := by
  induction q with
  | nil =>
    intro p h0
    refine ⟨1, fun k hk => ?_⟩
    (try dsimp only)
    obtain ⟨k, rfl⟩ : ∃ m, k = m + 1 := ⟨k - 1, by omega⟩
    simp only [laws_toIntS.l0]
    rw [if_neg (by simp)]; simp
  | cons x q ih =>
    intro p h0
    simp only [List.length_cons] at h0
    obtain ⟨K, hK⟩ := ih (p ++ [x]) (by simp; omega)
    (try dsimp only at hK)
    refine ⟨K + 1, fun k hk => ?_⟩
    (try dsimp only)
    obtain ⟨k, rfl, hk'⟩ := within_lo hk
    simp only [laws_toIntS.l0]
    have hK' := hK k hk'
    simp only [List.append_assoc, List.cons_append, List.nil_append] at hK'
    have e1 : wrap64 ((p.length : Int) + 1) = ((p ++ [x]).length : Int) := by
      rw [wrap64_id (by omega) (by omega)]; simp
    rw [if_pos (by simp; omega), if_pos (by omega), if_pos (by simp; omega), Int.toNat_natCast, rd_mid, List.length_cons, List.replicate_succ, set_mid, e1, hK']
theorem toIntS_ev (l : List Int) (h : l.length ≤ 1048576) : Ev (fun k => laws_toIntS.f k l) l := by
  obtain ⟨K, hK⟩ := toIntS_l0 l [] (by simp; omega)
  (try dsimp only at hK)
  refine ⟨K, fun k hk => ?_⟩
  (try dsimp only)
  unfold laws_toIntS.f
  rw [if_pos (by omega), if_pos (by omega), Int.toNat_natCast]
  exact hK k hk

theorem eqIntS_l0 (d : Nat) : ∀ (p p' q q' : List Int), p.length = p'.length → q.length = d → q'.length = d → p.length + d ≤ 1000000000000000 → Ev (fun k => laws_eqIntS.l0 k (p ++ q) (p' ++ q') (p.length : Int)) (decide (q = q')) := by
  induction d with
  | zero =>
    intro p p' q q' hp hq hq' hb
    obtain rfl : q = [] := by simpa using hq
    obtain rfl : q' = [] := by simpa using hq'
    refine ⟨1, fun k hk => ?_⟩
    (try dsimp only)
    obtain ⟨k, rfl⟩ : ∃ m, k = m + 1 := ⟨k - 1, by omega⟩
    simp only [laws_eqIntS.l0]
    rw [if_neg (by simp)]; rfl
  | succ d ih =>
    intro p p' q q' hp hq hq' hb
    match q, q', hq, hq' with
    | x :: q, y :: q', hq, hq' =>
      simp only [List.length_cons] at hq hq'
      have r1 := rd_mid p q x
      have r2 := rd_mid p' q' y
      rw [← hp] at r2
      have e1 : wrap64 ((p.length : Int) + 1) = ((p ++ [x]).length : Int) := by
        rw [wrap64_id (by omega) (by omega)]; simp
      by_cases hxy : x = y
      · subst hxy
        obtain ⟨K, hK⟩ := ih (p ++ [x]) (p' ++ [x]) q q' (by simp [hp]) (by omega) (by omega) (by simp; omega)
        (try dsimp only at hK)
        refine ⟨K + 1, fun k hk => ?_⟩
        (try dsimp only)
        obtain ⟨k, rfl, hk'⟩ := within_lo hk
        simp only [laws_eqIntS.l0]
        have hK' := hK k hk'
        simp only [List.append_assoc, List.cons_append, List.nil_append] at hK'
        rw [if_pos (by simp; omega), if_pos (by omega), if_pos (by simp; omega), r1, r2, if_pos rfl, e1, hK']
        simp
      · refine ⟨1, fun k hk => ?_⟩
        (try dsimp only)
        obtain ⟨k, rfl⟩ : ∃ m, k = m + 1 := ⟨k - 1, by omega⟩
        simp only [laws_eqIntS.l0]
        rw [if_pos (by simp; omega), if_pos (by omega), if_pos (by simp; omega), r1, r2, if_neg hxy]
        simp [hxy]
theorem eqIntS_ev (a b : List Int) (h : a.length ≤ 1000000000000000) : Ev (fun k => laws_eqIntS.f k a b) (decide (a = b)) := by
  by_cases hl : a.length = b.length
  · obtain ⟨K, hK⟩ := eqIntS_l0 a.length [] [] a b rfl rfl hl.symm (by simpa using h)
    (try dsimp only at hK)
    refine ⟨K, fun k hk => ?_⟩
    (try dsimp only)
    unfold laws_eqIntS.f
    rw [if_pos (by omega)]
    exact hK k hk
  · refine ⟨0, fun k _ => ?_⟩
    (try dsimp only)
    unfold laws_eqIntS.f
    rw [if_neg (by omega)]
    congr 1; symm
    rw [decide_eq_false_iff_not]
    rintro rfl; exact hl rfl

theorem szIntS_some3 (l : List Int) (a : Int) (ha : a ≤ 1048576) (ha0 : 0 ≤ a) (hl : l.length ≤ maxLen) : laws_szIntS.f l a = some (if (l.length : Int) ≤ a then a - l.length else -1) := by
  unfold maxLen at hl
  unfold laws_szIntS.f
  rw [wrap64_id (by omega) (by omega)]
  by_cases h : (l.length : Int) ≤ a
  · rw [if_neg (by omega), if_pos h]
  · rw [if_pos (by omega), if_neg h]
/-- The sizes of what is left of rows of rows: less than nothing, or all are small. -/
def szSS (a : Int) : List (List Int) → Int
  | [] => a
  | x :: q => if (x.length : Int) ≤ a then szSS (a - x.length) q else -1
theorem szSS_some (q : List (List Int)) : ∀ a : Int, 0 ≤ a → szSS a q < 0 ∨ ∀ x ∈ q, (x.length : Int) ≤ a := by
  induction q with
  | nil => intro a _; exact .inr (by simp)
  | cons x q ih =>
    intro a ha
    unfold szSS
    by_cases h : (x.length : Int) ≤ a
    · rw [if_pos h]
      rcases ih (a - x.length) (by omega) with h1 | h1
      · exact .inl h1
      · refine .inr fun y hy => ?_
        rcases List.mem_cons.mp hy with rfl | hy
        · exact h
        · have := h1 y hy; omega
    · rw [if_neg h]; exact .inl (by omega)
theorem szSS_le (q : List (List Int)) : ∀ a : Int, 0 ≤ a → szSS a q ≤ a ∧ -1 ≤ szSS a q := by
  induction q with
  | nil => intro a _; unfold szSS; omega
  | cons x q ih =>
    intro a ha
    unfold szSS
    by_cases h : (x.length : Int) ≤ a
    · rw [if_pos h]; have := ih (a - x.length) (by omega); omega
    · rw [if_neg h]; omega
theorem szIntSS_ev (l : List (List Int)) (a : Int) (ha : a ≤ 1048576) (ha0 : 0 ≤ a) (hl : l.length ≤ maxLen) (hx : ∀ x ∈ l, x.length ≤ maxLen) : Ev (fun k => laws_szIntSS.f k l a) (if (l.length : Int) ≤ a then szSS (a - l.length) l else -1) := by
  unfold maxLen at hl
  unfold laws_szIntSS.f
  rw [wrap64_id (by omega) (by omega)]
  by_cases h : (l.length : Int) ≤ a
  · rw [if_pos h]
    refine Ev.ite_neg (by omega) ?_
    refine Ev.rangeI l (fun k b i => laws_szIntSS.l0 k l b i) (fun b _ q => szSS b q) (fun b _ => 0 ≤ b ∧ b ≤ a) (fun b _ => ?_) (fun b p x q e hb ih => ?_) _ ⟨by omega, by omega⟩
    · refine Ev.succ ?_
      simp only [laws_szIntSS.l0]
      exact Ev.ite_neg (by omega) (Ev.some rfl)
    · refine Ev.succ ?_
      simp only [laws_szIntSS.l0]
      have hlen : p.length < l.length := by rw [e]; simp
      refine Ev.ite_pos (by omega) (Ev.ite_pos (by omega) ?_)
      have hrd : rd_L1 l (p.length : Int) = x := by unfold rd_L1; rw [e]; exact getD_mid _ _ _ _
      rw [hrd, szIntS_some3 x b (by omega) hb.1 (hx x (by rw [e]; simp))]
      simp only [Option.bind_some]
      by_cases h1 : (x.length : Int) ≤ b
      · simp only [if_pos h1]
        refine Ev.ite_neg (by omega) ?_
        rw [wrap_succ (by omega), szSS, if_pos h1]
        exact ih _ ⟨by omega, by omega⟩
      · simp only [if_neg h1]
        refine Ev.ite_pos (by omega) (Ev.some ?_)
        rw [szSS, if_neg h1]
  · rw [if_neg h]
    exact Ev.ite_pos (by omega) (Ev.some rfl)
theorem toIntSS_ev (l : List (List Int)) (hl : l.length ≤ 1048576) (hx : ∀ x ∈ l, x.length ≤ 1048576) : Ev (fun k => laws_toIntSS.f k l) l := by
  unfold laws_toIntSS.f
  refine Ev.ite_pos (by omega) (Ev.ite_pos (by omega) ?_)
  rw [Int.toNat_natCast]
  have := Ev.rangeI (ρ := List (List Int)) l (fun k b i => laws_toIntSS.l0 k l b i) (fun _ _ _ => l) (fun b p => b = p ++ List.replicate (l.length - p.length) []) (fun b hb => ?_) (fun b p x q e hb ih => ?_) (List.replicate l.length []) (by simp)
  · exact this
  · refine Ev.succ ?_
    simp only [laws_toIntSS.l0]
    refine Ev.ite_neg (by omega) (Ev.some ?_)
    rw [hb]; simp
  · refine Ev.succ ?_
    simp only [laws_toIntSS.l0]
    have hlen : p.length < l.length := by rw [e]; simp
    have hbl : b.length = l.length := by rw [hb]; simp; omega
    have hrd : rd_L1 l (p.length : Int) = x := by unfold rd_L1; rw [e]; exact getD_mid _ _ _ _
    refine Ev.ite_pos (by omega) (Ev.ite_pos (by omega) ?_)
    rw [hrd]
    refine Ev.bind (toIntS_ev x (hx x (by rw [e]; simp))) (Ev.ite_pos (by omega) ?_)
    rw [Int.toNat_natCast, wrap_succ (by omega)]
    refine ih _ ?_
    rw [hb, show l.length - p.length = (l.length - (p ++ [x]).length) + 1 from by simp; omega, List.replicate_succ, set_mid]
    simp
theorem eqIntSS_ev (a b : List (List Int)) (h : a.length ≤ 1000000000000000) (hx : ∀ x ∈ a, x.length ≤ 1000000000000000) : Ev (fun k => laws_eqIntSS.f k a b) (decide (a = b)) := by
  unfold laws_eqIntSS.f
  by_cases hl : a.length = b.length
  · refine Ev.ite_pos (by omega) ?_
    refine Ev.rangeI a (fun k (_ : Unit) i => laws_eqIntSS.l0 k a b i) (fun _ _ _ => decide (a = b)) (fun _ p => p = b.take p.length) (fun _ hp => ?_) (fun _ p x q e hp ih => ?_) () (by simp)
    · refine Ev.succ ?_
      simp only [laws_eqIntSS.l0]
      refine Ev.ite_neg (by omega) (Ev.some ?_)
      rw [hl, List.take_length] at hp
      simp [hp]
    · refine Ev.succ ?_
      simp only [laws_eqIntSS.l0]
      have hlen : p.length < a.length := by rw [e]; simp
      have hrd : rd_L1 a (p.length : Int) = x := by unfold rd_L1; rw [e]; exact getD_mid _ _ _ _
      refine Ev.ite_pos (by omega) (Ev.ite_pos (by omega) (Ev.ite_pos (by omega) ?_))
      rw [hrd]
      have hrb : rd_L1 b (p.length : Int) = b[p.length]'(by omega) := by
        unfold rd_L1; rw [Int.toNat_natCast, List.getD_eq_getElem?_getD, List.getElem?_eq_getElem (by omega)]; rfl
      rw [hrb]
      refine Ev.bind (eqIntS_ev x _ (hx x (by rw [e]; simp))) ?_
      by_cases hxy : x = b[p.length]'(by omega)
      · refine Ev.ite_pos (by simpa using hxy) ?_
        rw [wrap_succ (by omega)]
        refine ih () ?_
        rw [List.length_append, List.length_singleton, List.take_succ_eq_append_getElem (by omega), ← hp, ← hxy]
      · refine Ev.ite_neg (by simpa using hxy) (Ev.some ?_)
        symm
        rw [decide_eq_false_iff_not]
        rintro rfl
        apply hxy
        simp [e]
  · refine Ev.ite_neg (by omega) (Ev.some ?_)
    symm
    rw [decide_eq_false_iff_not]
    rintro rfl
    exact hl rfl

theorem szGraph_ev (l : List (List Int)) (hl : l.length ≤ maxLen) (hx : ∀ x ∈ l, x.length ≤ maxLen) :
    ∃ r, Ev (fun k => laws_szGraph.f k l 1048576) r ∧ (r < 0 ∨ l.length ≤ 1048576 ∧ ∀ x ∈ l, x.length ≤ 1048576) := by
  have h := szIntSS_ev l 1048576 (by omega) (by omega) hl hx
  by_cases hlen : (l.length : Int) ≤ 1048576
  · rw [if_pos hlen] at h
    refine ⟨if szSS (1048576 - l.length) l < 0 then -1 else szSS (1048576 - l.length) l, ?_, ?_⟩
    · unfold laws_szGraph.f
      refine Ev.bind h ?_
      by_cases h1 : szSS (1048576 - l.length) l < 0
      · exact Ev.ite_pos h1 (Ev.some (if_pos h1).symm)
      · exact Ev.ite_neg h1 (Ev.some (if_neg h1).symm)
    · rcases szSS_some l (1048576 - l.length) (by omega) with h1 | h1
      · rw [if_pos h1]; exact .inl (by omega)
      · exact .inr ⟨by omega, fun x hx => by have := h1 x hx; omega⟩
  · rw [if_neg hlen] at h
    refine ⟨-1, ?_, .inl (by omega)⟩
    unfold laws_szGraph.f
    exact Ev.bind h (Ev.ite_pos (by omega) (Ev.some rfl))
theorem toGraph_ev (l : List (List Int)) (hl : l.length ≤ 1048576) (hx : ∀ x ∈ l, x.length ≤ 1048576) : Ev (fun k => laws_toGraph.f k l) l := by
  unfold laws_toGraph.f
  exact Ev.bind (toIntSS_ev l hl hx) (Ev.some rfl)
theorem eqGraph_ev (a b : List (List Int)) (h : a.length ≤ 1000000000000000) (hx : ∀ x ∈ a, x.length ≤ 1000000000000000) : Ev (fun k => laws_eqGraph.f k a b) (decide (a = b)) := by
  unfold laws_eqGraph.f
  refine Ev.bind (eqIntSS_ev a b h hx) ?_
  by_cases hab : a = b
  · exact Ev.ite_pos (by simpa using hab) (Ev.some (by simp [hab]))
  · exact Ev.ite_neg (by simpa using hab) (Ev.some (by simp [hab]))

theorem markIntS_l0 (q : List Int) : ∀ (p : List Int) (a : Int), p.length + q.length ≤ 1000000000000000 → -1000000000000000 ≤ a → a + q.length ≤ 1000000000000000000 → Ev (fun k => laws_markIntS.l0 k (p ++ q) a (p.length : Int)) (a + q.length, p ++ upI a q.length) := by
  induction q with
  | nil =>
    intro p a h0 h1 h2
    refine ⟨1, fun k hk => ?_⟩
    (try dsimp only)
    obtain ⟨k, rfl⟩ : ∃ m, k = m + 1 := ⟨k - 1, by omega⟩
    simp only [laws_markIntS.l0]
    rw [if_neg (by simp)]; simp [upI]
  | cons x q ih =>
    intro p a h0 h1 h2
    simp only [List.length_cons] at h0 h2
    obtain ⟨K, hK⟩ := ih (p ++ [a]) (a + 1) (by simp; omega) (by omega) (by omega)
    (try dsimp only at hK)
    refine ⟨K + 1, fun k hk => ?_⟩
    (try dsimp only)
    obtain ⟨k, rfl, hk'⟩ := within_lo hk
    simp only [laws_markIntS.l0]
    have hK' := hK k hk'
    simp only [List.append_assoc, List.cons_append, List.nil_append] at hK'
    have e1 : wrap64 ((p.length : Int) + 1) = ((p ++ [a]).length : Int) := by
      rw [wrap64_id (by omega) (by omega)]; simp
    rw [if_pos (by simp; omega), if_pos (by omega), Int.toNat_natCast, set_mid, e1, wrap64_id (by omega) (by omega), hK']
    simp only [upI, List.length_cons]
    rw [show a + 1 + (q.length : Int) = a + ((q.length + 1 : Nat) : Int) from by omega]
theorem markIntS_ev (l : List Int) (a : Int) (h0 : l.length ≤ 1000000000000000) (h1 : -1000000000000000 ≤ a) (h2 : a + l.length ≤ 1000000000000000000) : Ev (fun k => laws_markIntS.f k l a) (a + l.length, upI a l.length) :=
  markIntS_l0 l [] a (by simpa using h0) h1 h2

/-- Rows filled with numbers that run on from a. -/
def upSS : Int → List (List Int) → List (List Int)
  | _, [] => []
  | a, x :: q => upI a x.length :: upSS (a + x.length) q
def totSS : List (List Int) → Int
  | [] => 0
  | x :: q => x.length + totSS q
theorem totSS_le : ∀ q : List (List Int), (∀ x ∈ q, x.length ≤ 1048576) → 0 ≤ totSS q ∧ totSS q ≤ 1048576 * (q.length : Int)
  | [], _ => by simp [totSS]
  | x :: q, h => by
    have h1 := h x (by simp)
    have h2 := totSS_le q (fun y hy => h y (by simp [hy]))
    simp only [totSS, List.length_cons]; omega
theorem upSS_length : ∀ (a : Int) (q : List (List Int)), (upSS a q).length = q.length
  | _, [] => rfl
  | a, x :: q => by simp [upSS, upSS_length (a + x.length) q]
theorem markIntSS_l0 (q : List (List Int)) : ∀ (p : List (List Int)) (a : Int), p.length + q.length ≤ 1048576 → 0 ≤ a → a + 1048576 * q.length ≤ 100000000000000000 → (∀ x ∈ q, x.length ≤ 1048576) →
    Ev (fun k => laws_markIntSS.l0 k (p ++ q) a (p.length : Int)) (a + totSS q, p ++ upSS a q) := by
  induction q with
  | nil =>
    intro p a h0 h1 h2 h3
    refine Ev.succ ?_
    simp only [laws_markIntSS.l0]
    exact Ev.ite_neg (by simp) (Ev.some (by simp [totSS, upSS]))
  | cons x q ih =>
    intro p a h0 h1 h2 h3
    simp only [List.length_cons] at h0 h2
    have hx := h3 x (by simp)
    have h := ih (p ++ [upI a x.length]) (a + x.length) (by simp; omega) (by omega) (by omega) (fun y hy => h3 y (by simp [hy]))
    refine Ev.succ ?_
    simp only [laws_markIntSS.l0]
    refine Ev.ite_pos (by simp; omega) (Ev.ite_pos (by omega) ?_)
    rw [getD_mid]
    refine Ev.bind (markIntS_ev x a (by omega) (by omega) (by omega)) ?_
    rw [wrap_succ (by omega), Int.toNat_natCast, set_mid]
    simp only [List.append_assoc, List.cons_append, List.nil_append, List.length_append, List.length_singleton, List.length_cons, List.length_nil] at h
    refine Ev.cast h ?_
    simp only [totSS, upSS]
    rw [Int.add_assoc]
theorem markIntSS_ev (l : List (List Int)) (h0 : l.length ≤ 1048576) (h3 : ∀ x ∈ l, x.length ≤ 1048576) : Ev (fun k => laws_markIntSS.f k l 1) (1 + totSS l, upSS 1 l) :=
  markIntSS_l0 l [] 1 (by simpa using h0) (by omega) (by omega) h3
theorem markGraph_ev (l : List (List Int)) (h0 : l.length ≤ 1048576) (h3 : ∀ x ∈ l, x.length ≤ 1048576) : Ev (fun k => laws_markGraph.f k l 1) (1 + totSS l, upSS 1 l) := by
  unfold laws_markGraph.f
  exact Ev.bind (markIntSS_ev l h0 h3) (Ev.now _)

theorem heldIntS_l0 (n : Nat) : ∀ (p : List Int) (a : Int), p.length + n ≤ 1000000000000000 → -1000000000000000 ≤ a → a + n ≤ 1000000000000000000 → Ev (fun k => laws_heldIntS.l0 k (p ++ upI a n) a (p.length : Int)) (a + n) := by
  induction n with
  | zero =>
    intro p a h0 h1 h2
    refine ⟨1, fun k hk => ?_⟩
    (try dsimp only)
    obtain ⟨k, rfl⟩ : ∃ m, k = m + 1 := ⟨k - 1, by omega⟩
    simp only [laws_heldIntS.l0]
    rw [if_neg (by simp [upI])]; simp
  | succ n ih =>
    intro p a h0 h1 h2
    obtain ⟨K, hK⟩ := ih (p ++ [a]) (a + 1) (by simp; omega) (by omega) (by omega)
    (try dsimp only at hK)
    refine ⟨K + 1, fun k hk => ?_⟩
    (try dsimp only)
    obtain ⟨k, rfl, hk'⟩ := within_lo hk
    rw [laws_heldIntS.l0, show upI a (n + 1) = a :: upI (a + 1) n from rfl]
    have hK' := hK k hk'
    simp only [List.append_assoc, List.cons_append, List.nil_append] at hK'
    have e1 : wrap64 ((p.length : Int) + 1) = ((p ++ [a]).length : Int) := by
      rw [wrap64_id (by omega) (by omega)]; simp
    rw [if_pos (by simp <;> omega), if_pos (by omega), rd_mid, if_pos rfl, e1, wrap64_id (by omega) (by omega), hK']
    congr 1; omega
theorem heldIntS_ev (n : Nat) (a : Int) (h0 : n ≤ 1000000000000000) (h1 : -1000000000000000 ≤ a) (h2 : a + n ≤ 1000000000000000000) : Ev (fun k => laws_heldIntS.f k (upI a n) a) (a + n) :=
  heldIntS_l0 n [] a (by simpa using h0) h1 h2

theorem heldIntSS_l0 (q : List (List Int)) : ∀ (p : List (List Int)) (a : Int), p.length + q.length ≤ 1048576 → 0 ≤ a → a + 1048576 * q.length ≤ 100000000000000000 → (∀ x ∈ q, x.length ≤ 1048576) →
    Ev (fun k => laws_heldIntSS.l0 k (p ++ upSS a q) a (p.length : Int)) (a + totSS q) := by
  induction q with
  | nil =>
    intro p a h0 h1 h2 h3
    refine Ev.succ ?_
    simp only [laws_heldIntSS.l0]
    exact Ev.ite_neg (by simp [upSS]) (Ev.some (by simp [totSS]))
  | cons x q ih =>
    intro p a h0 h1 h2 h3
    simp only [List.length_cons] at h0 h2
    have hx := h3 x (by simp)
    have h := ih (p ++ [upI a x.length]) (a + x.length) (by simp; omega) (by omega) (by omega) (fun y hy => h3 y (by simp [hy]))
    refine Ev.succ ?_
    simp only [laws_heldIntSS.l0]
    rw [show upSS a (x :: q) = upI a x.length :: upSS (a + x.length) q from rfl]
    refine Ev.ite_pos (by simp; omega) (Ev.ite_pos (by omega) ?_)
    rw [show rd_L1 (p ++ upI a x.length :: upSS (a + x.length) q) (p.length : Int) = upI a x.length from getD_mid _ _ _ _]
    refine Ev.bind (heldIntS_ev x.length a (by omega) (by omega) (by omega)) (Ev.ite_neg (by omega) ?_)
    rw [wrap_succ (by omega)]
    simp only [List.append_assoc, List.cons_append, List.nil_append, List.length_append, List.length_singleton, List.length_cons, List.length_nil] at h
    refine Ev.cast h ?_
    simp only [totSS]; omega
theorem heldIntSS_ev (l : List (List Int)) (h0 : l.length ≤ 1048576) (h3 : ∀ x ∈ l, x.length ≤ 1048576) : Ev (fun k => laws_heldIntSS.f k (upSS 1 l) 1) (1 + totSS l) :=
  heldIntSS_l0 l [] 1 (by simpa using h0) (by omega) (by omega) h3

theorem within_eq (a b c : Int) : impl_within.f a b c = some (decide (b ≤ a ∧ a ≤ c)) := by
  unfold impl_within.f
  by_cases h : a ≥ b
  · rw [if_pos h]; simp [show b ≤ a from h]
  · rw [if_neg h]; simp; omega

theorem l1In_eq (a b c : Int) : spec_l1In.f a b c = some (decide (b ≤ a ∧ a ≤ c)) := by
  unfold spec_l1In.f
  by_cases h : a ≥ b
  · rw [if_pos h]; simp [show b ≤ a from h]
  · rw [if_neg h]; simp; omega

theorem findIdx_any {α : Type} (p : α → Bool) (l : List α) : decide ((match l.findIdx? p with | some j => (j : Int) | none => -1) ≥ 0) = l.any p := by
  rw [Bool.eq_iff_iff, decide_eq_true_iff, List.any_eq_true]
  cases hf : l.findIdx? p with
  | none =>
    rw [List.findIdx?_eq_none_iff] at hf
    constructor
    · intro h; simp only [ge_iff_le] at h; omega
    · rintro ⟨x, hx, h⟩; rw [hf x hx] at h; simp at h
  | some j =>
    constructor
    · intro _
      obtain ⟨hj, h1, _⟩ := List.findIdx?_eq_some_iff_getElem.mp hf
      exact ⟨l[j], List.getElem_mem hj, h1⟩
    · intro _; simp only [ge_iff_le]; omega
/-- A loop that looks for the first element that is so. -/
theorem Ev.index {α : Type} (l : List α) (F : Nat → Int → Option Int) (pr : α → Bool)
    (h0 : Ev (fun k => F k (l.length : Int)) (-1))
    (hs : ∀ p x q, l = p ++ x :: q → pr x = true → Ev (fun k => F k (p.length : Int)) (p.length : Int))
    (hn : ∀ p x q r, l = p ++ x :: q → pr x = false → Ev (fun k => F k ((p.length : Int) + 1)) r → Ev (fun k => F k (p.length : Int)) r) :
    Ev (fun k => F k 0) (match l.findIdx? pr with | some j => (j : Int) | none => -1) := by
  have main : ∀ (q p : List α), l = p ++ q → Ev (fun k => F k (p.length : Int)) (match q.findIdx? pr with | some j => ((p.length + j : Nat) : Int) | none => -1) := by
    intro q
    induction q with
    | nil => intro p e; rw [e, List.append_nil] at h0; exact h0
    | cons x q ih =>
      intro p e
      cases hx : pr x with
      | true =>
        have := hs p x q e hx
        rw [List.findIdx?_cons, hx]; simpa using this
      | false =>
        have := ih (p ++ [x]) (by rw [e]; simp)
        have e2 : ((p ++ [x]).length : Int) = (p.length : Int) + 1 := by simp
        rw [e2] at this
        have := hn p x q _ e hx this
        rw [List.findIdx?_cons, hx]
        refine Ev.cast this ?_
        cases q.findIdx? pr with
        | none => rfl
        | some j => simp; omega
  have := main l [] rfl
  refine Ev.cast this ?_
  cases l.findIdx? pr with
  | none => rfl
  | some j => simp

/-- Whether numbers rise from 0 below n, behind what came ahead of them. -/
def risesL (n : Int) : List Int → List Int → Bool
  | _, [] => true
  | p, x :: q => decide (0 ≤ x ∧ x ≤ n - 1) && ((match p.getLast? with | none => true | some y => decide (y < x)) && risesL n (p ++ [x]) q)
def goodGraphB (l : List (List Int)) : Bool := decide (1 ≤ l.length ∧ l.length ≤ 12) && l.all (risesL l.length [])
theorem rd_before (p q : List Int) (x : Int) (h : 0 < p.length) : ∃ y, p.getLast? = some y ∧ rd (p ++ x :: q) ((p.length : Int) - 1) = y := by
  cases hp : p.getLast? with
  | none => rw [List.getLast?_eq_none_iff] at hp; subst hp; simp at h
  | some y =>
    refine ⟨y, rfl, ?_⟩
    unfold rd
    rw [show ((p.length : Int) - 1).toNat = p.length - 1 from by omega, List.getD_eq_getElem?_getD, List.getElem?_append_left (by omega)]
    rw [List.getLast?_eq_getElem?] at hp
    rw [hp]; rfl
theorem risesIn_ev (l : List Int) (n : Int) (hl : l.length ≤ 1048576) (hn : 0 ≤ n) (hn' : n ≤ 1048576) : Ev (fun k => impl_risesIn.f k l n) (risesL n [] l) := by
  unfold impl_risesIn.f
  refine Ev.rangeP l (fun k (_ : Unit) i => impl_risesIn.l0 k l n l (l.length : Int) i) (fun _ p q => risesL n p q) (fun _ => ?_) (fun _ p x q e ih => ?_) ()
  · refine Ev.succ ?_
    simp only [impl_risesIn.l0]
    exact Ev.ite_neg (by omega) (Ev.some rfl)
  · refine Ev.succ ?_
    simp only [impl_risesIn.l0]
    have hlen : p.length < l.length := by rw [e]; simp
    have hr : rd l (p.length : Int) = x := by rw [e]; exact rd_mid _ _ _
    refine Ev.ite_pos (by omega) (Ev.ite_pos (by omega) (Ev.ite_pos (by omega) ?_))
    rw [hr, wrap64_id (by omega) (by omega), within_eq]
    simp only [Option.bind_some]
    rw [risesL]
    by_cases h1 : 0 ≤ x ∧ x ≤ n - 1
    · refine Ev.ite_pos (by simpa using h1) ?_
      rw [decide_eq_true h1, Bool.true_and, wrap_succ (by omega)]
      by_cases h2 : 0 < p.length
      · obtain ⟨y, hy, hry⟩ := rd_before p q x h2
        rw [← e] at hry
        rw [wrap64_id (by omega) (by omega), hry, hy]
        refine Ev.ite_pos (by omega) (Ev.ite_pos (by omega) (Ev.ite_pos (by omega) ?_))
        by_cases h3 : y < x
        · refine Ev.ite_neg (by omega) ?_
          dsimp only
          rw [decide_eq_true h3, Bool.true_and]
          exact ih ()
        · refine Ev.ite_pos (by omega) (Ev.some ?_)
          dsimp only
          rw [decide_eq_false h3, Bool.false_and]
      · have hp : p = [] := List.eq_nil_of_length_eq_zero (by omega)
        subst hp
        refine Ev.ite_neg (by simp) ?_
        simpa using ih ()
    · refine Ev.ite_neg (by simpa using h1) (Ev.some ?_)
      rw [decide_eq_false h1, Bool.false_and]
theorem goodIx_ev (l : List (List Int)) (n : Int) (hn : 0 ≤ n) (hn' : n ≤ 1048576) (hl : l.length ≤ 1048576) (hx : ∀ x ∈ l, x.length ≤ 1048576) :
    Ev (fun k => impl_GoodGraph_ix.l0 k n l 0) (match l.findIdx? (fun x => !risesL n [] x) with | some j => (j : Int) | none => -1) := by
  refine Ev.index l (fun k i => impl_GoodGraph_ix.l0 k n l i) (fun x => !risesL n [] x) ?_ (fun p x q e hp => ?_) (fun p x q r e hp ih => ?_)
  · refine Ev.succ ?_
    simp only [impl_GoodGraph_ix.l0]
    exact Ev.ite_neg (by omega) (Ev.some rfl)
  all_goals
    have hlen : p.length < l.length := by rw [e]; simp
    refine Ev.succ ?_
    simp only [impl_GoodGraph_ix.l0]
    refine Ev.ite_pos (by omega) (Ev.ite_pos (by omega) ?_)
    have hg : l.getD (p.length : Int).toNat [] = x := by rw [e]; exact getD_mid _ _ _ _
    rw [hg]
    unfold impl_GoodGraph_1.f
    refine Ev.bind (Ev.bind (risesIn_ev x n (hx x (by rw [e]; simp)) hn hn') (Ev.some rfl)) ?_
    rw [hp]
  · exact Ev.ite_pos rfl (Ev.some rfl)
  · refine Ev.ite_neg (by simp) ?_
    rw [wrap_succ (by omega)]
    exact ih
theorem iGoodGraph_ev (l : List (List Int)) (hl : l.length ≤ 1048576) (hx : ∀ x ∈ l, x.length ≤ 1048576) : Ev (fun k => impl_GoodGraph.f k l) (goodGraphB l) := by
  unfold impl_GoodGraph.f goodGraphB
  rw [within_eq]
  simp only [Option.bind_some]
  by_cases h : 1 ≤ l.length ∧ l.length ≤ 12
  · refine Ev.ite_pos (by simp; omega) (Ev.bind (goodIx_ev l l.length (by omega) (by omega) hl hx) (Ev.some ?_))
    rw [findIdx_any, decide_eq_true h, Bool.true_and, List.not_any_eq_all_not]
    simp
  · refine Ev.ite_neg (by simp; omega) (Ev.some ?_)
    rw [decide_eq_false h, Bool.false_and]
theorem sGoodRow_ev (l : List (List Int)) (n : Int) (g : List (List Int)) (m j : Int) (hn : 0 ≤ n) (hn' : n ≤ 1048576) (r : Bool) (x : List Int) (hl : x.length ≤ 1048576)
    (hnext : Ev (fun k => spec_GoodGraph.l0 k n g m (wrap64 (j + 1))) r) :
    Ev (fun k => spec_GoodGraph.l1 k n x g m j x (x.length : Int) 0) (risesL n [] x && r) := by
  refine Ev.rangeP x (fun k (_ : Unit) i => spec_GoodGraph.l1 k n x g m j x (x.length : Int) i) (fun _ p q => risesL n p q && r) (fun _ => ?_) (fun _ p y q e ih => ?_) ()
  · refine Ev.succ ?_
    simp only [spec_GoodGraph.l1]
    exact Ev.ite_neg (by omega) hnext
  · refine Ev.succ ?_
    simp only [spec_GoodGraph.l1]
    have hlen : p.length < x.length := by rw [e]; simp
    have hr : rd x (p.length : Int) = y := by rw [e]; exact rd_mid _ _ _
    refine Ev.ite_pos (by omega) (Ev.ite_pos (by omega) (Ev.ite_pos (by omega) ?_))
    rw [hr, risesL]
    by_cases h1 : y < 0
    · refine Ev.ite_pos h1 (Ev.some ?_)
      rw [decide_eq_false (by omega)]; rfl
    refine Ev.ite_neg h1 ?_
    by_cases h1' : y ≥ n
    · refine Ev.ite_pos h1' (Ev.some ?_)
      rw [decide_eq_false (by omega)]; rfl
    refine Ev.ite_neg h1' ?_
    rw [decide_eq_true (by omega), Bool.true_and, wrap_succ (by omega)]
    by_cases h2 : 0 < p.length
    · obtain ⟨z, hz, hrz⟩ := rd_before p q y h2
      rw [← e] at hrz
      rw [wrap64_id (by omega) (by omega), hrz, hz]
      refine Ev.ite_pos (by omega) (Ev.ite_pos (by omega) (Ev.ite_pos (by omega) ?_))
      by_cases h3 : z < y
      · refine Ev.ite_neg (by omega) ?_
        dsimp only
        rw [decide_eq_true h3, Bool.true_and]
        exact ih ()
      · refine Ev.ite_pos (by omega) (Ev.some ?_)
        dsimp only
        rw [decide_eq_false h3]; rfl
    · have hp : p = [] := List.eq_nil_of_length_eq_zero (by omega)
      subst hp
      refine Ev.ite_neg (by simp) ?_
      simpa using ih ()
theorem sGoodGraph_ev (l : List (List Int)) (hl : l.length ≤ 1048576) (hx : ∀ x ∈ l, x.length ≤ 1048576) : Ev (fun k => spec_GoodGraph.f k l) (goodGraphB l) := by
  unfold spec_GoodGraph.f goodGraphB
  have := Ev.rangeP l (fun k (_ : Unit) i => spec_GoodGraph.l0 k (l.length : Int) l (l.length : Int) i) (fun _ _ q => q.all (risesL l.length []) && decide (1 ≤ l.length ∧ l.length ≤ 12)) (fun _ => ?_) (fun _ p x q e ih => ?_) ()
  · rw [Bool.and_comm]; exact this
  · refine Ev.succ ?_
    simp only [spec_GoodGraph.l0]
    refine Ev.ite_neg (by omega) ?_
    rw [l1In_eq]
    simp only [Option.bind_some]
    refine Ev.some ?_
    rw [List.all_nil, Bool.true_and, Bool.eq_iff_iff]; simp only [decide_eq_true_eq]; omega
  · refine Ev.succ ?_
    simp only [spec_GoodGraph.l0]
    have hlen : p.length < l.length := by rw [e]; simp
    have hrd : rd_L1 l (p.length : Int) = x := by unfold rd_L1; rw [e]; exact getD_mid _ _ _ _
    refine Ev.ite_pos (by omega) (Ev.ite_pos (by omega) (Ev.ite_pos (by omega) ?_))
    rw [hrd]
    have h2 := sGoodRow_ev l l.length l l.length p.length (by omega) (by omega) _ x (hx x (by rw [e]; simp)) (by rw [wrap_succ (by omega)]; exact ih ())
    rw [List.all_cons, Bool.and_assoc]
    exact h2

/-- A graph whose goals lie in it. -/
structure GW (g : List (List Int)) : Prop where
  lo : 1 ≤ g.length
  hi : g.length ≤ 12
  row : ∀ r ∈ g, r.length ≤ 1048576
  inn : ∀ r ∈ g, ∀ x ∈ r, 0 ≤ x ∧ x < g.length
/-- A graph that is well made. -/
structure GG (g : List (List Int)) : Prop extends GW g where
  rise : ∀ r ∈ g, risesL g.length [] r = true
theorem risesL_in (n : Int) : ∀ (q p : List Int), risesL n p q = true → ∀ x ∈ q, 0 ≤ x ∧ x < n
  | [], _, _, _, hx => by simp at hx
  | y :: q, p, h, x, hx => by
    rw [risesL, Bool.and_eq_true, Bool.and_eq_true, decide_eq_true_iff] at h
    rcases List.mem_cons.1 hx with rfl | hx
    · omega
    · exact risesL_in n q _ h.2.2 x hx
theorem goodGraph_GG {g : List (List Int)} (h : goodGraphB g = true) (hx : ∀ x ∈ g, x.length ≤ 1048576) : GG g := by
  unfold goodGraphB at h
  rw [Bool.and_eq_true, decide_eq_true_iff, List.all_eq_true] at h
  exact ⟨⟨h.1.1, h.1.2, hx, fun r hr => risesL_in _ _ _ (h.2 r hr)⟩, fun r hr => h.2 r hr⟩
/-- Row x of g. -/
def rowG (g : List (List Int)) (x : Int) : List Int := g.getD x.toNat []
theorem rowG_mem {g : List (List Int)} {x : Int} (h0 : 0 ≤ x) (h1 : x < g.length) : rowG g x ∈ g := by
  unfold rowG
  rw [List.getD_eq_getElem?_getD, List.getElem?_eq_getElem (by omega)]
  exact List.getElem_mem _

theorem risesL_pair (n : Int) : ∀ (q p : List Int), risesL n p q = true → (∀ y, p.getLast? = some y → ∀ x ∈ q, y < x) ∧ q.Pairwise (· < ·)
  | [], _, _ => by simp
  | z :: q, p, h => by
    rw [risesL, Bool.and_eq_true, Bool.and_eq_true] at h
    have ih := risesL_pair n q (p ++ [z]) h.2.2
    have hz := ih.1 z (by simp)
    refine ⟨fun y hy x hx => ?_, List.pairwise_cons.2 ⟨hz, ih.2⟩⟩
    have h2 := h.2.1
    rw [hy] at h2
    have h3 : y < z := by simpa using h2
    rcases List.mem_cons.1 hx with rfl | hx
    · exact h3
    · have := hz x hx; omega
theorem rise_nodup {q : List Int} (h : q.Pairwise (· < ·)) : q.Nodup := h.imp (fun hab e => by omega)
theorem GG.ok {g : List (List Int)} (hg : GG g) {r : List Int} (hr : r ∈ g) : OkS g.length r := ⟨rise_nodup (risesL_pair _ r [] (hg.rise r hr)).2, hg.inn r hr⟩

theorem l1Has_ev (l : List Int) (x : Int) (hl : l.length ≤ 1000000000000000) : Ev (fun k => spec_l1Has.f k l x) (decide (x ∈ l)) := by
  unfold spec_l1Has.f
  refine Ev.rangeI l (fun k (_ : Unit) i => spec_l1Has.l0 k x l (l.length : Int) i) (fun _ _ _ => decide (x ∈ l)) (fun _ p => x ∉ p) (fun _ hp => ?_) (fun _ p y q e hp ih => ?_) () (by simp)
  · refine Ev.succ ?_
    simp only [spec_l1Has.l0]
    exact Ev.ite_neg (by omega) (Ev.some (decide_eq_false hp).symm)
  · refine Ev.succ ?_
    simp only [spec_l1Has.l0]
    have hlen : p.length < l.length := by rw [e]; simp
    have hr : rd l (p.length : Int) = y := by rw [e]; exact rd_mid _ _ _
    refine Ev.ite_pos (by omega) (Ev.ite_pos (by omega) (Ev.ite_pos (by omega) ?_))
    rw [hr]
    by_cases h : y = x
    · exact Ev.ite_pos h (Ev.some (by symm; rw [decide_eq_true_iff, e]; simp [h]))
    · refine Ev.ite_neg h ?_
      rw [wrap_succ (by omega)]
      exact ih () (by simp [hp]; omega)
theorem contains_ev (l : List Int) (x : Int) (hl : l.length ≤ 1000000000000000) : Ev (fun k => slices_Contains_int_int.f k l x) (decide (x ∈ l)) := by
  unfold slices_Contains_int_int.f
  have h : Ev (fun k => slices_Index_int_int.f k l x) (match l.findIdx? (fun y => decide (x = y)) with | some j => (j : Int) | none => -1) := by
    unfold slices_Index_int_int.f
    refine Ev.index l (fun k i => slices_Index_int_int.l0 k l x (l.length : Int) i) (fun y => decide (x = y)) ?_ (fun p y q e hp => ?_) (fun p y q r e hp ih => ?_)
    · refine Ev.succ ?_
      simp only [slices_Index_int_int.l0]
      exact Ev.ite_neg (by omega) (Ev.some rfl)
    all_goals
      have hlen : p.length < l.length := by rw [e]; simp
      have hr : rd l (p.length : Int) = y := by rw [e]; exact rd_mid _ _ _
      refine Ev.succ ?_
      simp only [slices_Index_int_int.l0]
      refine Ev.ite_pos (by omega) (Ev.ite_pos (by omega) (Ev.ite_pos (by omega) ?_))
      rw [hr]
    · exact Ev.ite_pos (by simpa using hp) (Ev.some rfl)
    · refine Ev.ite_neg (by simpa using hp) ?_
      rw [wrap_succ (by omega)]
      exact ih
  refine Ev.bind h (Ev.some ?_)
  rw [findIdx_any]
  rw [Bool.eq_iff_iff]
  simp

theorem risesL_of (n : Int) : ∀ (q p : List Int), (∀ x ∈ q, 0 ≤ x ∧ x < n) → (p ++ q).Pairwise (· < ·) → risesL n p q = true
  | [], _, _, _ => rfl
  | x :: q, p, h, hp => by
    have hx := h x (by simp)
    rw [risesL, decide_eq_true (by omega), Bool.true_and, risesL_of n q (p ++ [x]) (fun y hy => h y (by simp [hy])) (by simpa using hp), Bool.and_true]
    cases e : p.getLast? with
    | none => rfl
    | some y =>
      have hy := List.mem_of_getLast? e
      have := (List.pairwise_append.1 hp).2.2 y hy x (by simp)
      simpa using this
set_option maxRecDepth 100000 in
theorem bitsLen_ev (a : Int) (h0 : 0 ≤ a) (h1 : a < 256) : ∃ r, Ev (fun k => bits_Len.f k a) r := by
  have key : ∃ r, Ev (fun k => bits_Len64.j0 k a 0) r := by
    apply Exists.intro
    apply Ev.succ
    simp only [bits_Len64.j0]
    apply Ev.ite_neg (by omega)
    apply Ev.ite_neg (by omega)
    apply Ev.ite_pos (by omega)
    apply Ev.ite_pos (by omega)
    apply Ev.now
  obtain ⟨r, hr⟩ := key
  unfold bits_Len.f bits_Len64.f
  exact ⟨r, Ev.bind (Ev.ite_neg (by omega) hr) (Ev.now _)⟩
theorem less_eq (a b : Int) : cmp_Less_int.f a b = some (decide (a < b)) := by
  unfold cmp_Less_int.f cmp_isNaN_int.f
  simp
theorem rise_get {l : List Int} (hp : l.Pairwise (· < ·)) {i : Nat} (h0 : 0 < i) (h1 : i < l.length) : rd l ((i : Int) - 1) < rd l (i : Int) := by
  unfold rd
  rw [show ((i : Int) - 1).toNat = i - 1 by omega, Int.toNat_natCast, List.getD_eq_getElem?_getD, List.getD_eq_getElem?_getD, List.getElem?_eq_getElem (by omega), List.getElem?_eq_getElem h1]
  exact List.pairwise_iff_getElem.1 hp (i - 1) i (by omega) h1 (by omega)
theorem insRise_l0 {l : List Int} (hp : l.Pairwise (· < ·)) (hl : l.length ≤ 1000) : ∀ (m i : Nat), 1 ≤ i → i + m = l.length ∨ (m = 0 ∧ l.length ≤ i ∧ i ≤ 1000) → Ev (fun k => slices_insertionSortOrdered_int.l0 k l 0 (l.length : Int) (i : Int)) l
  | 0, i, h0, h1 => by
    refine Ev.succ ?_
    simp only [slices_insertionSortOrdered_int.l0]
    exact Ev.ite_neg (by omega) (Ev.now _)
  | m + 1, i, h0, h1 => by
    have ih := insRise_l0 hp hl m (i + 1) (by omega) (by omega)
    refine Ev.succ ?_
    simp only [slices_insertionSortOrdered_int.l0]
    refine Ev.ite_pos (by omega) (Ev.succ ?_)
    simp only [slices_insertionSortOrdered_int.l1]
    rw [wrap64_id (x := (i : Int) - 1) (by omega) (by omega), wrap_succ (by omega)]
    refine Ev.ite_pos (by omega) (Ev.ite_pos (by omega) (Ev.ite_pos (by omega) (Ev.ite_pos (by omega) (Ev.ite_pos (by omega) ?_))))
    rw [less_eq]
    simp only [Option.bind_some]
    have := rise_get hp (i := i) (by omega) (by omega)
    refine Ev.ite_neg (by simp; omega) ?_
    exact ih
theorem sortRise_ev {l : List Int} (hp : l.Pairwise (· < ·)) (hl : l.length ≤ 12) : Ev (fun k => slices_Sort_int_int.f k l) l := by
  unfold slices_Sort_int_int.f slices_pdqsortOrdered_int.f slices_insertionSortOrdered_int.f
  have hw : IntKind.u64.wrap (l.length : Int) = (l.length : Int) := by
    have h2 : (2 : Int) ^ IntKind.u64.bits = 18446744073709551616 := rfl
    simp only [IntKind.wrap]
    rw [h2]
    first | omega | (simp [IntKind.signed]; omega)
  rw [hw]
  obtain ⟨r, hr⟩ := bitsLen_ev (l.length : Int) (by omega) (by omega)
  refine Ev.bind hr ?_
  rw [Int.sub_zero, wrap64_id (x := (l.length : Int)) (by omega) (by omega), wrap64_id (x := (0 : Int) + 1) (by omega) (by omega)]
  refine Ev.ite_pos (by omega) ?_
  by_cases h : 1 ≤ l.length
  · exact insRise_l0 hp (by omega) (l.length - 1) 1 (by omega) (by omega)
  · exact insRise_l0 hp (by omega) 0 1 (by omega) (by omega)
theorem compRise_l0 {l : List Int} (hp : l.Pairwise (· < ·)) (hl : l.length ≤ 1000) : ∀ (m i : Nat), 1 ≤ i → i + m = l.length ∨ (m = 0 ∧ l.length ≤ i ∧ i ≤ 1000) → Ev (fun k => slices_Compact_int_int.l0 k l (i : Int)) l
  | 0, i, h0, h1 => by
    refine Ev.succ ?_
    simp only [slices_Compact_int_int.l0]
    exact Ev.ite_neg (by omega) (Ev.now _)
  | m + 1, i, h0, h1 => by
    have ih := compRise_l0 hp hl m (i + 1) (by omega) (by omega)
    refine Ev.succ ?_
    simp only [slices_Compact_int_int.l0]
    rw [wrap64_id (x := (i : Int) - 1) (by omega) (by omega), wrap_succ (by omega)]
    have := rise_get hp (i := i) (by omega) (by omega)
    exact Ev.ite_pos (by omega) (Ev.ite_pos (by omega) (Ev.ite_pos (by omega) (Ev.ite_pos (by omega) (Ev.ite_neg (by omega) ih))))
theorem compRise_ev {l : List Int} (hp : l.Pairwise (· < ·)) (hl : l.length ≤ 1000) : Ev (fun k => slices_Compact_int_int.f k l) l := by
  unfold slices_Compact_int_int.f
  by_cases h : (l.length : Int) < 2
  · exact Ev.ite_pos h (Ev.now _)
  · exact Ev.ite_neg h (compRise_l0 hp hl (l.length - 1) 1 (by omega) (by omega))
theorem GG.pair {g : List (List Int)} (hg : GG g) {r : List Int} (hr : r ∈ g) : r.Pairwise (· < ·) := (risesL_pair _ r [] (hg.rise r hr)).2
theorem GG.rowLe {g : List (List Int)} (hg : GG g) {r : List Int} (hr : r ∈ g) : r.length ≤ 12 := Nat.le_trans (hg.ok hr).le hg.hi
theorem graphOf_l0 {g : List (List Int)} (hg : GG g) : ∀ (q p : List (List Int)), g = p ++ q → Ev (fun k => impl_graphOf.l0 k g (p ++ List.replicate q.length []) (p.length : Int)) g
  | [], p, e => by
    refine Ev.succ ?_
    simp only [impl_graphOf.l0]
    refine Ev.ite_neg (by rw [e]; simp) (Ev.some ?_)
    rw [e]; simp
  | x :: q, p, e => by
    have hx : x ∈ g := by rw [e]; simp
    have ih := graphOf_l0 hg q (p ++ [x]) (by rw [e]; simp)
    have hl := hg.rowLe hx
    have hh := hg.hi
    have hlen : p.length < g.length := by rw [e]; simp
    refine Ev.succ ?_
    simp only [impl_graphOf.l0]
    refine Ev.ite_pos (by omega) (Ev.ite_pos (by omega) ?_)
    rw [show g.getD (p.length : Int).toNat [] = x by rw [e]; exact getD_mid _ _ _ _]
    unfold slices_Clone_int_int.f
    rw [if_pos (by omega)]
    simp only [Option.bind_some]
    refine Ev.bind (sortRise_ev (hg.pair hx) hl) (Ev.bind (compRise_ev (hg.pair hx) (by omega)) ?_)
    rw [wrap_succ (by omega), Int.toNat_natCast, List.length_cons, List.replicate_succ, set_mid]
    simp only [List.append_assoc, List.cons_append, List.nil_append, List.length_append, List.length_singleton] at ih
    exact ih
theorem graphOf_ev {g : List (List Int)} (hg : GG g) : Ev (fun k => impl_graphOf.f k g) g := by
  have := hg.hi
  unfold impl_graphOf.f
  exact Ev.ite_pos (by omega) (graphOf_l0 hg g [] rfl)

theorem drop_l0 (x : Int) (l : List Int) (hl : l.length ≤ 1000) : ∀ (q p acc : List Int), l = p ++ q → acc.length ≤ p.length → Ev (fun k => spec_l6Drop.l0 k x acc l (l.length : Int) (p.length : Int)) (acc ++ q.filter (fun y => decide (y ≠ x)))
  | [], p, acc, e, ha => by
    refine Ev.succ ?_
    simp only [spec_l6Drop.l0]
    exact Ev.ite_neg (by rw [e]; simp) (Ev.some (by simp))
  | y :: q, p, acc, e, ha => by
    have ih := drop_l0 x l hl q (p ++ [y])
    have hlen : p.length < l.length := by rw [e]; simp
    refine Ev.succ ?_
    simp only [spec_l6Drop.l0]
    refine Ev.ite_pos (by omega) (Ev.ite_pos (by omega) (Ev.ite_pos (by omega) ?_))
    rw [show rd l (p.length : Int) = y by rw [e]; exact rd_mid _ _ _, wrap_succ (by omega)]
    simp only [List.length_append, List.length_singleton] at ih
    by_cases h : y = x
    · refine Ev.ite_pos h ?_
      rw [List.filter_cons, if_neg (by simpa using h)]
      exact ih acc (by rw [e]; simp) (by omega)
    · refine Ev.ite_neg h (Ev.ite_pos (by omega) ?_)
      rw [List.filter_cons, if_pos (by simpa using h)]
      have h2 := ih (acc ++ [y]) (by rw [e]; simp) (by simp; omega)
      simpa using h2
theorem drop_ev (x : Int) (l : List Int) (hl : l.length ≤ 1000) : Ev (fun k => spec_l6Drop.f k l x) (l.filter (fun y => decide (y ≠ x))) := by
  unfold spec_l6Drop.f
  exact drop_l0 x l hl l [] [] rfl (by simp)
theorem index_ev (l : List Int) (x : Int) (hl : l.length ≤ 1000000000000000) : Ev (fun k => slices_Index_int_int.f k l x) (match l.findIdx? (fun y => decide (x = y)) with | some j => (j : Int) | none => -1) := by
  unfold slices_Index_int_int.f
  refine Ev.index l (fun k i => slices_Index_int_int.l0 k l x (l.length : Int) i) (fun y => decide (x = y)) ?_ (fun p y q e hp => ?_) (fun p y q r e hp ih => ?_)
  · refine Ev.succ ?_
    simp only [slices_Index_int_int.l0]
    exact Ev.ite_neg (by omega) (Ev.some rfl)
  all_goals
    have hlen : p.length < l.length := by rw [e]; simp
    have hr : rd l (p.length : Int) = y := by rw [e]; exact rd_mid _ _ _
    refine Ev.succ ?_
    simp only [slices_Index_int_int.l0]
    refine Ev.ite_pos (by omega) (Ev.ite_pos (by omega) (Ev.ite_pos (by omega) ?_))
    rw [hr]
  · exact Ev.ite_pos (by simpa using hp) (Ev.some rfl)
  · refine Ev.ite_neg (by simpa using hp) ?_
    rw [wrap_succ (by omega)]
    exact ih
theorem cut_filter (x : Int) : ∀ (l : List Int), l.Nodup → x ∈ l → ∃ j : Nat, l.findIdx? (fun y => decide (x = y)) = some j ∧ j < l.length ∧ l.take j ++ l.drop (j + 1) = l.filter (fun y => decide (y ≠ x))
  | [], _, h => by simp at h
  | y :: q, hn, h => by
    obtain ⟨hy, hq⟩ := List.nodup_cons.1 hn
    by_cases e : x = y
    · subst e
      refine ⟨0, by simp [List.findIdx?_cons], by simp, ?_⟩
      simp only [List.take_zero, List.nil_append, List.drop_succ_cons, List.drop_zero, List.filter_cons]
      rw [if_neg (by simp)]
      symm
      rw [List.filter_eq_self]
      intro z hz
      have : z ≠ x := fun e => hy (e ▸ hz)
      simpa using this
    · obtain ⟨j, h1, h2, h3⟩ := cut_filter x q hq ((List.mem_cons.1 h).resolve_left e)
      refine ⟨j + 1, by simp [List.findIdx?_cons, e, h1], by simp; omega, ?_⟩
      rw [List.filter_cons, if_pos (by simpa using fun e2 : y = x => e e2.symm)]
      simpa using h3
/-- The rows of the graph with a node split: row a2 leads to the new node in the place of a1. -/
def splitRows (n a1 a2 : Int) : Int → List (List Int) → List (List Int)
  | _, [] => []
  | i, r :: q => (if i = a2 then r.filter (fun y => decide (y ≠ a1)) ++ [n] else r) :: splitRows n a1 a2 (i + 1) q
theorem splitRows_length (n a1 a2 : Int) : ∀ (q : List (List Int)) (i : Int), (splitRows n a1 a2 i q).length = q.length
  | [], _ => rfl
  | r :: q, i => by simp [splitRows, splitRows_length n a1 a2 q (i + 1)]
theorem splitRows_past (n a1 a2 : Int) : ∀ (q : List (List Int)) (i : Int), a2 < i → splitRows n a1 a2 i q = q
  | [], _, _ => rfl
  | r :: q, i, h => by rw [splitRows, if_neg (by omega), splitRows_past n a1 a2 q (i + 1) (by omega)]
theorem splitRows_set (n a1 a2 : Int) (z : List (List Int)) : ∀ (q : List (List Int)) (i : Int), i ≤ a2 → a2 < i + q.length → splitRows n a1 a2 i q ++ z = (q ++ z).set (a2 - i).toNat (((q ++ z).getD (a2 - i).toNat []).filter (fun y => decide (y ≠ a1)) ++ [n])
  | [], i, h0, h1 => by simp at h1; omega
  | r :: q, i, h0, h1 => by
    rw [splitRows]
    by_cases h : i = a2
    · subst h
      rw [if_pos rfl, Int.sub_self, splitRows_past n a1 i q (i + 1) (by omega)]
      rfl
    · rw [if_neg h, List.cons_append, splitRows_set n a1 a2 z q (i + 1) (by omega) (by simp at h1; omega)]
      rw [show (a2 - i).toNat = (a2 - (i + 1)).toNat + 1 by omega]
      rfl
def splitOK (g : List (List Int)) (a1 a2 : Int) : Prop := goodGraphB g = true ∧ 0 < a1 ∧ a1 < g.length ∧ 0 ≤ a2 ∧ a2 < g.length ∧ a1 ∈ rowG g a2 ∧ g.length ≠ 12
instance (g : List (List Int)) (a1 a2 : Int) : Decidable (splitOK g a1 a2) := by unfold splitOK; infer_instance
def splitR (g : List (List Int)) (a1 a2 : Int) : List (List Int) × Bool := if splitOK g a1 a2 then (splitRows g.length a1 a2 0 g ++ [rowG g a1], true) else ([], false)
theorem sSplit_l0 {g : List (List Int)} (hg : GG g) (a1 a2 : Int) (h0 : 0 ≤ a1) (h1 : a1 < g.length) : ∀ (q p acc : List (List Int)), g = p ++ q → acc.length = p.length →
    Ev (fun k => spec_SplitNode.l0 k a1 a2 (g.length : Int) g (g.length : Int) (p.length : Int) g acc) (acc ++ splitRows g.length a1 a2 p.length q ++ [rowG g a1], true)
  | [], p, acc, e, ha => by
    have hh := hg.hi
    have hp : p.length = g.length := by rw [e]; simp
    have hr := hg.rowLe (rowG_mem h0 h1)
    refine Ev.succ ?_
    simp only [spec_SplitNode.l0, Option.bind_some, List.length_nil, List.nil_append, Nat.zero_add]
    rw [show rd_L1 g a1 = rowG g a1 from rfl]
    exact Ev.ite_neg (by omega) (Ev.ite_pos h0 (Ev.ite_pos h1 (Ev.ite_pos (by omega) (Ev.ite_pos (by omega) (Ev.some (by simp [splitRows]))))))
  | x :: q, p, acc, e, ha => by
    have hh := hg.hi
    have hx : x ∈ g := by rw [e]; simp
    have hl := hg.rowLe hx
    have hlen : p.length < g.length := by rw [e]; simp
    have ih := sSplit_l0 hg a1 a2 h0 h1 q (p ++ [x])
    simp only [List.length_append, List.length_singleton] at ih
    refine Ev.succ ?_
    simp only [spec_SplitNode.l0, Option.bind_some, List.length_nil, List.nil_append, Nat.zero_add]
    rw [show rd_L1 g (p.length : Int) = x by unfold rd_L1; rw [e]; exact getD_mid _ _ _ _, wrap_succ (by omega)]
    refine Ev.ite_pos (by omega) (Ev.ite_pos (by omega) (Ev.ite_pos (by omega) (Ev.ite_pos (by omega) ?_)))
    by_cases h : (p.length : Int) = a2
    · refine Ev.ite_pos h (Ev.bind (drop_ev a1 x (by omega)) (Ev.ite_pos ?_ (Ev.ite_pos (by omega) ?_)))
      · have := List.length_filter_le (fun y => decide (y ≠ a1)) x; omega
      · have h2 := ih (acc ++ [x.filter (fun y => decide (y ≠ a1)) ++ [(g.length : Int)]]) (by rw [e]; simp) (by simp [ha])
        rw [splitRows, if_pos h]
        simpa using h2
    · refine Ev.ite_neg h (Ev.ite_pos (by omega) ?_)
      have h2 := ih (acc ++ [x]) (by rw [e]; simp) (by simp [ha])
      rw [splitRows, if_neg h]
      simpa using h2
theorem sSplit_j0 {g : List (List Int)} (a1 a2 : Int) : Ev (fun k => spec_SplitNode.j0 k a1 a2 true g) (([] : List (List Int)), false) := by
  refine Ev.succ ?_
  simp only [spec_SplitNode.j0]
  exact Ev.ite_pos trivial (Ev.now _)
theorem sSplit_ev (g : List (List Int)) (h0 : g.length ≤ 1048576) (hx : ∀ x ∈ g, x.length ≤ 1048576) (a1 a2 : Int) : Ev (fun k => spec_SplitNode.f k g a1 a2) (splitR g a1 a2) := by
  unfold spec_SplitNode.f splitR
  refine Ev.bind (sGoodGraph_ev g h0 hx) ?_
  by_cases hG : goodGraphB g = true
  rotate_left
  · refine Ev.ite_neg hG (Ev.cast (sSplit_j0 a1 a2) ?_)
    rw [if_neg (fun h => hG h.1)]
  have hg := goodGraph_GG hG hx
  have hh := hg.hi
  refine Ev.ite_pos hG ?_
  by_cases c1 : a1 ≤ 0
  · refine Ev.ite_pos c1 (Ev.cast (sSplit_j0 a1 a2) ?_)
    rw [if_neg (fun h => by have := h.2.1; omega)]
  refine Ev.ite_neg c1 ?_
  by_cases c2 : a1 ≥ (g.length : Int)
  · refine Ev.ite_pos c2 (Ev.cast (sSplit_j0 a1 a2) ?_)
    rw [if_neg (fun h => by have := h.2.2.1; omega)]
  refine Ev.ite_neg c2 ?_
  by_cases c3 : a2 < 0
  · refine Ev.ite_pos c3 (Ev.cast (sSplit_j0 a1 a2) ?_)
    rw [if_neg (fun h => by have := h.2.2.2.1; omega)]
  refine Ev.ite_neg c3 ?_
  by_cases c4 : a2 ≥ (g.length : Int)
  · refine Ev.ite_pos c4 (Ev.cast (sSplit_j0 a1 a2) ?_)
    rw [if_neg (fun h => by have := h.2.2.2.2.1; omega)]
  refine Ev.ite_neg c4 (Ev.ite_pos (by omega) (Ev.ite_pos (by omega) ?_))
  rw [show rd_L1 g a2 = rowG g a2 from rfl]
  have hl := hg.rowLe (rowG_mem (x := a2) (by omega) (by omega))
  refine Ev.bind (l1Has_ev (rowG g a2) a1 (by omega)) ?_
  by_cases c5 : a1 ∈ rowG g a2
  rotate_left
  · refine Ev.ite_neg (by simpa using c5) (Ev.cast (sSplit_j0 a1 a2) ?_)
    rw [if_neg (fun h => c5 h.2.2.2.2.2.1)]
  refine Ev.ite_pos (by simpa using c5) ?_
  by_cases c6 : g.length = 12
  · rw [show ((g.length : Int) == 12) = true by simp; omega]
    refine Ev.cast (sSplit_j0 a1 a2) ?_
    rw [if_neg (fun h => h.2.2.2.2.2.2 c6)]
  rw [show ((g.length : Int) == 12) = false by simp; omega, if_pos ⟨hG, by omega, by omega, by omega, by omega, c5, c6⟩]
  refine Ev.succ ?_
  simp only [spec_SplitNode.j0]
  refine Ev.ite_neg (by simp) ?_
  have := sSplit_l0 hg a1 a2 (by omega) (by omega) g [] [] rfl rfl
  simpa using this
theorem filter_pair {l : List Int} (h : l.Pairwise (· < ·)) (p : Int → Bool) : (l.filter p).Pairwise (· < ·) := h.filter p
theorem splitRows_good {g : List (List Int)} (hg : GG g) (a1 a2 : Int) : ∀ (q : List (List Int)) (i : Int), (∀ r ∈ q, r ∈ g) → ∀ r ∈ splitRows g.length a1 a2 i q, risesL ((g.length : Int) + 1) [] r = true ∧ r.length ≤ 13
  | [], _, _, r, hr => by simp [splitRows] at hr
  | x :: q, i, hq, r, hr => by
    have hx := hq x (by simp)
    have hin := hg.inn x hx
    have hp := hg.pair hx
    have hl := hg.rowLe hx
    rw [splitRows] at hr
    rcases List.mem_cons.1 hr with rfl | hr
    · by_cases h : i = a2
      · rw [if_pos h]
        refine ⟨risesL_of _ _ [] (fun y hy => ?_) ?_, ?_⟩
        · rcases List.mem_append.1 hy with hy | hy
          · have := hin y (List.mem_filter.1 hy).1; omega
          · have : y = (g.length : Int) := by simpa using hy
            omega
        · rw [List.nil_append]
          refine List.pairwise_append.2 ⟨filter_pair hp _, by simp, fun y hy z hz => ?_⟩
          have h1 := hin y (List.mem_filter.1 hy).1
          have h2 : z = (g.length : Int) := by simpa using hz
          omega
        · have := List.length_filter_le (fun y => decide (y ≠ a1)) x
          simp only [List.length_append, List.length_singleton]; omega
      · rw [if_neg h]
        exact ⟨risesL_of _ _ [] (fun y hy => by have := hin y hy; omega) (by simpa using hp), by omega⟩
    · exact splitRows_good hg a1 a2 q (i + 1) (fun r hr => hq r (by simp [hr])) r hr
theorem iSplit_ev (g : List (List Int)) (h0 : g.length ≤ 1048576) (hx : ∀ x ∈ g, x.length ≤ 1048576) (a1 a2 : Int) : Ev (fun k => impl_SplitNode.f k g a1 a2) (splitR g a1 a2) := by
  unfold impl_SplitNode.f splitR
  refine Ev.bind (iGoodGraph_ev g h0 hx) ?_
  by_cases hG : goodGraphB g = true
  rotate_left
  · refine Ev.ite_neg hG (Ev.some ?_)
    rw [if_neg (fun h => hG h.1)]
  have hg := goodGraph_GG hG hx
  have hh := hg.hi
  have hlo := hg.lo
  refine Ev.ite_pos hG ?_
  rw [wrap64_id (by omega) (by omega), within_eq]
  simp only [Option.bind_some]
  by_cases c1 : 0 ≤ a2 ∧ a2 ≤ (g.length : Int) - 1
  rotate_left
  · refine Ev.ite_neg (by simpa using c1) (Ev.some ?_)
    rw [if_neg (fun h => c1 ⟨h.2.2.2.1, by have := h.2.2.2.2.1; omega⟩)]
  refine Ev.ite_pos (by simpa using c1) ?_
  by_cases c2 : a1 = 0
  · refine Ev.ite_pos c2 (Ev.some ?_)
    rw [if_neg (fun h => by have := h.2.1; omega)]
  refine Ev.ite_neg c2 (Ev.ite_pos c1.1 (Ev.ite_pos (by omega) ?_))
  have hm2 := rowG_mem (g := g) (x := a2) (by omega) (by omega)
  have hl := hg.rowLe hm2
  change Ev (fun k => (slices_Contains_int_int.f k (rowG g a2) a1).bind _) _
  refine Ev.bind (contains_ev (rowG g a2) a1 (by omega)) ?_
  by_cases c5 : a1 ∈ rowG g a2
  rotate_left
  · refine Ev.ite_neg (by simpa using c5) (Ev.some ?_)
    rw [if_neg (fun h => c5 h.2.2.2.2.2.1)]
  refine Ev.ite_pos (by simpa using c5) ?_
  have hin := hg.inn _ hm2 a1 c5
  have hm1 := rowG_mem (g := g) (x := a1) hin.1 hin.2
  have hl1 := hg.rowLe hm1
  unfold impl_SplitNode.g
  refine Ev.bind (graphOf_ev hg) (Ev.ite_pos (by omega) (Ev.ite_pos hin.1 (Ev.ite_pos hin.2 ?_)))
  unfold slices_Clone_int_int.f
  rw [show g.getD a1.toNat [] = rowG g a1 from rfl, if_pos (by omega)]
  simp only [Option.bind_some]
  have hr2 : (g ++ [rowG g a1]).getD a2.toNat [] = rowG g a2 := by
    unfold rowG
    rw [List.getD_eq_getElem?_getD, List.getElem?_append_left (by omega), List.getD_eq_getElem?_getD]
  rw [hr2]
  obtain ⟨j, hj1, hj2, hj3⟩ := cut_filter a1 (rowG g a2) (rise_nodup (hg.pair hm2)) c5
  have hidx : Ev (fun k => slices_Index_int_int.f k (rowG g a2) a1) (j : Int) := by
    have h := index_ev (rowG g a2) a1 (by omega)
    rw [hj1] at h
    exact h
  have hset := splitRows_set (g.length : Int) a1 a2 [rowG g a1] g 0 c1.1 (by omega)
  rw [Int.sub_zero, hr2] at hset
  have hgood : ∀ r ∈ splitRows g.length a1 a2 0 g ++ [rowG g a1], risesL ((g.length : Int) + 1) [] r = true ∧ r.length ≤ 13 := by
    intro r hr
    rcases List.mem_append.1 hr with hr | hr
    · exact splitRows_good hg a1 a2 g 0 (fun _ h => h) r hr
    · obtain rfl : r = rowG g a1 := by simpa using hr
      exact ⟨risesL_of _ _ [] (fun y hy => by have := hg.inn _ hm1 y hy; omega) (by simpa using hg.pair hm1), by omega⟩
  refine Ev.ite_pos (by simp; omega) (Ev.bind hidx (Ev.ite_pos (by omega) (Ev.ite_pos (by omega) (Ev.ite_pos (by omega) ?_))))
  (try dsimp only)
  rw [Int.toNat_natCast, hj3, ← hset]
  have hlen : (splitRows g.length a1 a2 0 g ++ [rowG g a1]).length = g.length + 1 := by simp [splitRows_length]
  refine Ev.bind (iGoodGraph_ev _ (by omega) (fun r hr => by have := (hgood r hr).2; omega)) ?_
  by_cases c6 : g.length = 12
  · refine Ev.ite_neg ?_ (Ev.some ?_)
    · unfold goodGraphB
      rw [hlen, decide_eq_false (by omega)]
      simp
    · rw [if_neg (fun h => h.2.2.2.2.2.2 c6)]
  · refine Ev.ite_pos ?_ (Ev.some ?_)
    · unfold goodGraphB
      rw [hlen, decide_eq_true (by omega), Bool.true_and, List.all_eq_true]
      intro r hr
      have := (hgood r hr).1
      simpa using this
    · rw [if_pos ⟨hG, by omega, hin.2, c1.1, by omega, c5, c6⟩]
theorem splitR_small (g : List (List Int)) (a1 a2 : Int) (hx : ∀ x ∈ g, x.length ≤ 1048576) : (splitR g a1 a2).1.length ≤ 1048576 ∧ ∀ x ∈ (splitR g a1 a2).1, x.length ≤ 1048576 := by
  unfold splitR
  by_cases h : splitOK g a1 a2
  · have hg := goodGraph_GG h.1 hx
    have hh := hg.hi
    rw [if_pos h]
    dsimp only
    refine ⟨by simp [splitRows_length]; omega, fun r hr => ?_⟩
    rcases List.mem_append.1 hr with hr | hr
    · have := (splitRows_good hg a1 a2 g 0 (fun _ h => h) r hr).2; omega
    · obtain rfl : r = rowG g a1 := by simpa using hr
      exact hx _ (rowG_mem (by have := h.2.1; omega) h.2.2.1)
  · rw [if_neg h]; simp

theorem FnExactSplitNode : laws_FnExactSplitNode.Pure := by
  intro a a1 a2 ha hx _ _
  refine Ev.rounds (g := fun k => laws_FnExactSplitNode.f k a a1 a2) ?_
  unfold laws_FnExactSplitNode.f
  obtain ⟨r, hr, h⟩ := szGraph_ev a ha (fun x hxm => (hx x hxm).1)
  refine Ev.bind hr ?_
  by_cases hn : r < 0
  · exact Ev.ite_pos hn (Ev.now _)
  · obtain ⟨h1, h2⟩ := h.resolve_left hn
    have hs := splitR_small a a1 a2 h2
    have ht := totSS_le _ hs.2
    have hta := totSS_le _ h2
    have tg := toGraph_ev a h1 h2
    have im := iSplit_ev a h1 h2 a1 a2
    have eq := eqGraph_ev (splitR a a1 a2).1 (splitR a a1 a2).1 (by omega) (fun x hxm => by have := hs.2 x hxm; omega)
    have eg := eqGraph_ev a a (by omega) (fun x hxm => by have := h2 x hxm; omega)
    have hd : Ev (fun k => laws_heldGraph.f k (upSS 1 (splitR a a1 a2).1) 1) (1 + totSS (splitR a a1 a2).1) := by
      unfold laws_heldGraph.f
      exact Ev.bind (heldIntSS_ev _ hs.1 hs.2) (Ev.ite_neg (by omega) (Ev.now _))
    refine Ev.ite_neg hn (Ev.bind tg (Ev.bind (sSplit_ev a h1 h2 a1 a2) (Ev.bind tg (Ev.bind im ?_))))
    refine Ev.bind eq (Ev.ite_pos (by simp) (Ev.ite_pos rfl (Ev.bind tg (Ev.bind eg (Ev.ite_pos (by simp) (Ev.bind (markGraph_ev a h1 h2) (Ev.ite_neg (by dsimp only; omega) ?_)))))))
    refine Ev.bind eq (Ev.ite_pos (by simp) (Ev.ite_pos rfl (Ev.bind (markGraph_ev _ hs.1 hs.2) (Ev.bind hd (Ev.ite_neg (by omega) (Ev.ite_pos rfl ?_))))))
    refine Ev.bind tg (Ev.bind im (Ev.bind eq (Ev.ite_pos (by simp) (Ev.ite_pos rfl (Ev.bind hd (Ev.ite_neg (by omega) (Ev.ite_pos rfl (Ev.now _))))))))

end Go.Proofs.Ytbagmhcdhemopaa.Pure
