/- Of all blocks the law of goodflow tells true. No condition beyond the row's own. -/
import Derived.Test.YthgkhfhfahifmaaQ0
import Derived.Test.YthgkhfhfahifmaaQ1
import Derived.Test.YthgkhfhfahifmaaQ2
import Derived.Test.YthgkhfhfahifmaaQ3
import Derived.Test.YthgkhfhfahifmaaQ4
import Derived.Test.YthgkhfhfahifmaaQ5
import Derived.Test.YthgkhfhfahifmaaQ6
import Derived.Test.YthgkhfhfahifmaaQ7
import Derived.Test.YthgkhfhfahifmaaQ8
import Derived.Test.YthgkhfhfahifmaaLib1
import Derived.Test.YthgkhfhfahifmaaLib2
namespace Go.Proofs.Ythgkhfhfahifmaa.Pure
open Go.RowKit Go.Proofs.Ythgkhfhfahifmaa.Lib Go.Proofs.Ythgkhfhfahifmaa.Q Go.Proofs.YthgkhfhfahifmaaW.PrintWords Go.Proofs.YthgkhfhfahifmaaW.PrintLast Go.Proofs.YthgkhfhfahifmaaW.PrintMore
set_option linter.unusedVariables false
set_option linter.unusedSimpArgs false

theorem toIntS_l0 (q : List Int) : ∀ (p : List Int), p.length + q.length ≤ 1000000000000000 → Ev (fun k => laws_toIntS.l0 k (p ++ q) (p ++ List.replicate q.length 0) (p.length : Int)) (p ++ q) := by
  induction q with
  | nil =>
    intro p h0
    refine ⟨1, fun k hk => ?_⟩
    (try dsimp only)
    obtain ⟨k, rfl⟩ : ∃ m, k = m + 1 := ⟨k - 1, by omega⟩
    simp only [laws_toIntS.l0]
    rw [if_neg (by simp)]; simp
  | cons x q ih =>
    intro p h0
    simp only [List.length_cons] at h0
    obtain ⟨K, hK⟩ := ih (p ++ [x]) (by simp; omega)
    (try dsimp only at hK)
    refine ⟨K + 1, fun k hk => ?_⟩
    (try dsimp only)
    obtain ⟨k, rfl, hk'⟩ := within_lo hk
    simp only [laws_toIntS.l0]
    have hK' := hK k hk'
    simp only [List.append_assoc, List.cons_append, List.nil_append] at hK'
    have e1 : wrap64 ((p.length : Int) + 1) = ((p ++ [x]).length : Int) := by
      rw [wrap64_id (by omega) (by omega)]; simp
    rw [if_pos (by simp; omega), if_pos (by omega), if_pos (by simp; omega), Int.toNat_natCast, rd_mid, List.length_cons, List.replicate_succ, set_mid, e1, hK']
theorem toIntS_ev (l : List Int) (h : l.length ≤ 1048576) : Ev (fun k => laws_toIntS.f k l) l := by
  obtain ⟨K, hK⟩ := toIntS_l0 l [] (by simp; omega)
  (try dsimp only at hK)
  refine ⟨K, fun k hk => ?_⟩
  (try dsimp only)
  unfold laws_toIntS.f
  rw [if_pos (by omega), if_pos (by omega), Int.toNat_natCast]
  exact hK k hk

theorem eqIntS_l0 (d : Nat) : ∀ (p p' q q' : List Int), p.length = p'.length → q.length = d → q'.length = d → p.length + d ≤ 1000000000000000 → Ev (fun k => laws_eqIntS.l0 k (p ++ q) (p' ++ q') (p.length : Int)) (decide (q = q')) := by
  induction d with
  | zero =>
    intro p p' q q' hp hq hq' hb
    obtain rfl : q = [] := by simpa using hq
    obtain rfl : q' = [] := by simpa using hq'
    refine ⟨1, fun k hk => ?_⟩
    (try dsimp only)
    obtain ⟨k, rfl⟩ : ∃ m, k = m + 1 := ⟨k - 1, by omega⟩
    simp only [laws_eqIntS.l0]
    rw [if_neg (by simp)]; rfl
  | succ d ih =>
    intro p p' q q' hp hq hq' hb
    match q, q', hq, hq' with
    | x :: q, y :: q', hq, hq' =>
      simp only [List.length_cons] at hq hq'
      have r1 := rd_mid p q x
      have r2 := rd_mid p' q' y
      rw [← hp] at r2
      have e1 : wrap64 ((p.length : Int) + 1) = ((p ++ [x]).length : Int) := by
        rw [wrap64_id (by omega) (by omega)]; simp
      by_cases hxy : x = y
      · subst hxy
        obtain ⟨K, hK⟩ := ih (p ++ [x]) (p' ++ [x]) q q' (by simp [hp]) (by omega) (by omega) (by simp; omega)
        (try dsimp only at hK)
        refine ⟨K + 1, fun k hk => ?_⟩
        (try dsimp only)
        obtain ⟨k, rfl, hk'⟩ := within_lo hk
        simp only [laws_eqIntS.l0]
        have hK' := hK k hk'
        simp only [List.append_assoc, List.cons_append, List.nil_append] at hK'
        rw [if_pos (by simp; omega), if_pos (by omega), if_pos (by simp; omega), r1, r2, if_pos rfl, e1, hK']
        simp
      · refine ⟨1, fun k hk => ?_⟩
        (try dsimp only)
        obtain ⟨k, rfl⟩ : ∃ m, k = m + 1 := ⟨k - 1, by omega⟩
        simp only [laws_eqIntS.l0]
        rw [if_pos (by simp; omega), if_pos (by omega), if_pos (by simp; omega), r1, r2, if_neg hxy]
        simp [hxy]
theorem eqIntS_ev (a b : List Int) (h : a.length ≤ 1000000000000000) : Ev (fun k => laws_eqIntS.f k a b) (decide (a = b)) := by
  by_cases hl : a.length = b.length
  · obtain ⟨K, hK⟩ := eqIntS_l0 a.length [] [] a b rfl rfl hl.symm (by simpa using h)
    (try dsimp only at hK)
    refine ⟨K, fun k hk => ?_⟩
    (try dsimp only)
    unfold laws_eqIntS.f
    rw [if_pos (by omega)]
    exact hK k hk
  · refine ⟨0, fun k _ => ?_⟩
    (try dsimp only)
    unfold laws_eqIntS.f
    rw [if_neg (by omega)]
    congr 1; symm
    rw [decide_eq_false_iff_not]
    rintro rfl; exact hl rfl

/-- A law's flat step, and its block, as the program's. -/
def cvF (x : S97) : S79 := ⟨x.f0, x.f1, x.f2, x.f3, x.f4, x.f5⟩
def cvB (x : S53) : S56 := ⟨x.f0.map cvF, x.f1, x.f2, x.f3⟩
theorem szIntS_some2 (l : List Int) (a : Int) (ha : a ≤ 1048576) (ha0 : 0 ≤ a) (hl : l.length ≤ maxLen) : laws_szIntS.f l a = some (if (l.length : Int) ≤ a then a - l.length else -1) := by
  unfold maxLen at hl
  unfold laws_szIntS.f
  rw [wrap64_id (by omega) (by omega)]
  by_cases h : (l.length : Int) ≤ a
  · rw [if_neg (by omega), if_pos h]
  · rw [if_pos (by omega), if_neg h]
theorem szFlatS_some (l : List S97) (a : Int) (ha : a ≤ 1048576) (ha0 : 0 ≤ a) (hl : l.length ≤ maxLen) : laws_szFlatS.f l a = some (if (l.length : Int) ≤ a then a - l.length else -1) := by
  unfold maxLen at hl
  unfold laws_szFlatS.f
  rw [wrap64_id (by omega) (by omega)]
  by_cases h : (l.length : Int) ≤ a
  · rw [if_neg (by omega), if_pos h]
  · rw [if_pos (by omega), if_neg h]
theorem szBlock_some (c : List S97) (g t : Int) (n : List Int) (a : Int) (ha : a ≤ 1048576) (ha0 : 0 ≤ a) (hc : c.length ≤ maxLen) (hn : n.length ≤ maxLen) :
    laws_szBlock.f c g t n a = some (if (c.length : Int) + n.length ≤ a then a - c.length - n.length else -1) := by
  unfold laws_szBlock.f
  rw [szFlatS_some c a ha ha0 hc, Option.bind_some]
  by_cases h : (c.length : Int) ≤ a
  · rw [if_pos h, if_neg (by omega), szIntS_some2 n _ (by omega) (by omega) hn, Option.bind_some]
    by_cases h2 : (n.length : Int) ≤ a - c.length
    · rw [if_pos h2, if_neg (by omega), if_pos (by omega)]
    · rw [if_neg h2, if_pos (by omega), if_neg (by omega)]
  · rw [if_neg h, if_pos (by omega), if_neg (by omega)]
def szB (a : Int) : List S53 → Int
  | [] => a
  | x :: q => if (x.f0.length : Int) + x.f3.length ≤ a then szB (a - x.f0.length - x.f3.length) q else -1
theorem szB_some (q : List S53) : ∀ a : Int, 0 ≤ a → szB a q < 0 ∨ 0 ≤ szB a q ∧ szB a q ≤ a ∧ ∀ x ∈ q, (x.f0.length : Int) + x.f3.length ≤ a := by
  induction q with
  | nil => intro a ha; exact .inr ⟨ha, Int.le_refl _, by simp⟩
  | cons x q ih =>
    intro a ha
    unfold szB
    by_cases h : (x.f0.length : Int) + x.f3.length ≤ a
    · rw [if_pos h]
      rcases ih (a - x.f0.length - x.f3.length) (by omega) with h1 | ⟨h0, h2, h1⟩
      · exact .inl h1
      · refine .inr ⟨h0, by omega, fun y hy => ?_⟩
        rcases List.mem_cons.mp hy with rfl | hy
        · exact h
        · have := h1 y hy; omega
    · rw [if_neg h]; exact .inl (by omega)
theorem szBlockS_ev (l : List S53) (hl : l.length ≤ maxLen) (hx : ∀ x ∈ l, x.f0.length ≤ maxLen ∧ x.f3.length ≤ maxLen) :
    ∃ r, Ev (fun k => laws_szBlockS.f k l 1048576) r ∧ r ≤ 1048576 ∧ (r < 0 ∨ l.length ≤ 1048576 ∧ ∀ x ∈ l, x.f0.length ≤ 1048576 ∧ x.f3.length ≤ 1048576) := by
  have hl2 := hl
  unfold maxLen at hl2
  unfold laws_szBlockS.f
  rw [wrap64_id (by omega) (by omega)]
  by_cases h : (l.length : Int) ≤ 1048576
  · have hs := szB_some l (1048576 - l.length) (by omega)
    refine ⟨szB (1048576 - l.length) l, Ev.ite_neg (by omega) ?_, by omega, ?_⟩
    · refine Ev.rangeI l (fun k b i => laws_szBlockS.l0 k l b i) (fun b _ q => szB b q) (fun b _ => 0 ≤ b ∧ b ≤ 1048576) (fun b _ => ?_) (fun b p x q e hb ih => ?_) _ ⟨by omega, by omega⟩
      · refine Ev.succ ?_
        simp only [laws_szBlockS.l0]
        exact Ev.ite_neg (by omega) (Ev.some rfl)
      · refine Ev.succ ?_
        simp only [laws_szBlockS.l0]
        have hlen : p.length < l.length := by rw [e]; simp
        refine Ev.ite_pos (by omega) (Ev.ite_pos (by omega) ?_)
        have hrd : rd_T53 l (p.length : Int) = x := by unfold rd_T53; rw [e]; exact getD_mid _ _ _ _
        have hxx := hx x (by rw [e]; simp)
        rw [hrd, szBlock_some x.f0 x.f1 x.f2 x.f3 b (by omega) hb.1 hxx.1 hxx.2]
        simp only [Option.bind_some]
        by_cases h1 : (x.f0.length : Int) + x.f3.length ≤ b
        · simp only [if_pos h1]
          refine Ev.ite_neg (by omega) ?_
          rw [wrap_succ (by omega), szB, if_pos h1]
          exact ih _ ⟨by omega, by omega⟩
        · simp only [if_neg h1]
          refine Ev.ite_pos (by omega) (Ev.some ?_)
          rw [szB, if_neg h1]
    · rcases hs with h1 | ⟨_, _, h1⟩
      · exact .inl h1
      · exact .inr ⟨by omega, fun x hx => by have := h1 x hx; omega⟩
  · exact ⟨-1, Ev.ite_pos (by omega) (Ev.some rfl), by omega, .inl (by omega)⟩
theorem toFlatS_ev (l : List S97) (hl : l.length ≤ 1048576) : Ev (fun k => laws_toFlatS.f k l) (l.map cvF) := by
  unfold laws_toFlatS.f
  refine Ev.ite_pos (by omega) (Ev.ite_pos (by omega) ?_)
  rw [Int.toNat_natCast]
  have := Ev.rangeI (ρ := List S79) l (fun k b i => laws_toFlatS.l0 k l b i) (fun _ _ _ => l.map cvF) (fun b p => b = p.map cvF ++ List.replicate (l.length - p.length) z79) (fun b hb => ?_) (fun b p x q e hb ih => ?_) (List.replicate l.length z79) (by simp)
  · exact this
  · refine Ev.succ ?_
    simp only [laws_toFlatS.l0]
    refine Ev.ite_neg (by omega) (Ev.some ?_)
    rw [hb]; simp
  · refine Ev.succ ?_
    simp only [laws_toFlatS.l0]
    have hlen : p.length < l.length := by rw [e]; simp
    have hbl : b.length = l.length := by rw [hb]; simp; omega
    have hrd : rd_T97 l (p.length : Int) = x := by unfold rd_T97; rw [e]; exact getD_mid _ _ _ _
    refine Ev.ite_pos (by omega) (Ev.ite_pos (by omega) ?_)
    rw [hrd]
    unfold laws_toFlat.f
    simp only [Option.bind_some]
    refine Ev.ite_pos (by omega) ?_
    rw [Int.toNat_natCast, wrap_succ (by omega)]
    refine ih _ ?_
    have hpl : p.length = (p.map cvF).length := by simp
    rw [hb, show l.length - p.length = (l.length - (p ++ [x]).length) + 1 from by simp; omega, List.replicate_succ, hpl, set_mid]
    simp [cvF]
theorem toBlockS_ev (l : List S53) (hl : l.length ≤ 1048576) (hx : ∀ x ∈ l, x.f0.length ≤ 1048576 ∧ x.f3.length ≤ 1048576) : Ev (fun k => laws_toBlockS.f k l) (l.map cvB) := by
  unfold laws_toBlockS.f
  refine Ev.ite_pos (by omega) (Ev.ite_pos (by omega) ?_)
  rw [Int.toNat_natCast]
  have := Ev.rangeI (ρ := List S56) l (fun k b i => laws_toBlockS.l0 k l b i) (fun _ _ _ => l.map cvB) (fun b p => b = p.map cvB ++ List.replicate (l.length - p.length) z56) (fun b hb => ?_) (fun b p x q e hb ih => ?_) (List.replicate l.length z56) (by simp)
  · exact this
  · refine Ev.succ ?_
    simp only [laws_toBlockS.l0]
    refine Ev.ite_neg (by omega) (Ev.some ?_)
    rw [hb]; simp
  · refine Ev.succ ?_
    simp only [laws_toBlockS.l0]
    have hlen : p.length < l.length := by rw [e]; simp
    have hbl : b.length = l.length := by rw [hb]; simp; omega
    have hrd : rd_T53 l (p.length : Int) = x := by unfold rd_T53; rw [e]; exact getD_mid _ _ _ _
    refine Ev.ite_pos (by omega) (Ev.ite_pos (by omega) ?_)
    rw [hrd]
    have hxx := hx x (by rw [e]; simp)
    have hT : Ev (fun k => laws_toBlock.f k x.f0 x.f1 x.f2 x.f3) (x.f0.map cvF, x.f1, x.f2, x.f3) := by
      unfold laws_toBlock.f
      exact Ev.bind (toFlatS_ev x.f0 hxx.1) (Ev.bind (toIntS_ev x.f3 hxx.2) (Ev.now _))
    refine Ev.bind hT (Ev.ite_pos (by omega) ?_)
    rw [Int.toNat_natCast, wrap_succ (by omega)]
    refine ih _ ?_
    have hpl : p.length = (p.map cvB).length := by simp
    rw [hb, show l.length - p.length = (l.length - (p ++ [x]).length) + 1 from by simp; omega, List.replicate_succ, hpl, set_mid]
    simp [cvB]
theorem eqFlatS_ev (a : List S79) (h : a.length ≤ 1000000000000000) : Ev (fun k => laws_eqFlatS.f k a a) true := by
  unfold laws_eqFlatS.f
  refine Ev.ite_pos rfl ?_
  refine Ev.rangeI a (fun k (_ : Unit) i => laws_eqFlatS.l0 k a a i) (fun _ _ _ => true) (fun _ p => True) (fun _ hp => ?_) (fun _ p x q e hp ih => ?_) () trivial
  · refine Ev.succ ?_
    simp only [laws_eqFlatS.l0]
    exact Ev.ite_neg (by omega) (Ev.some rfl)
  · refine Ev.succ ?_
    simp only [laws_eqFlatS.l0]
    have hlen : p.length < a.length := by rw [e]; simp
    refine Ev.ite_pos (by omega) (Ev.ite_pos (by omega) (Ev.ite_pos (by omega) ?_))
    unfold laws_eqFlat.f
    simp only [if_true, Option.bind_some]
    rw [wrap_succ (by omega)]
    exact ih () trivial
theorem eqBlockS_ev (a : List S56) (h : a.length ≤ 1000000000000000) (hx : ∀ x ∈ a, x.f0.length ≤ 1000000000000000 ∧ x.f3.length ≤ 1000000000000000) : Ev (fun k => laws_eqBlockS.f k a a) true := by
  unfold laws_eqBlockS.f
  refine Ev.ite_pos rfl ?_
  refine Ev.rangeI a (fun k (_ : Unit) i => laws_eqBlockS.l0 k a a i) (fun _ _ _ => true) (fun _ p => True) (fun _ hp => ?_) (fun _ p x q e hp ih => ?_) () trivial
  · refine Ev.succ ?_
    simp only [laws_eqBlockS.l0]
    exact Ev.ite_neg (by omega) (Ev.some rfl)
  · refine Ev.succ ?_
    simp only [laws_eqBlockS.l0]
    have hlen : p.length < a.length := by rw [e]; simp
    have hrd : rd_T56 a (p.length : Int) = x := by unfold rd_T56; rw [e]; exact getD_mid _ _ _ _
    have hxx := hx x (by rw [e]; simp)
    refine Ev.ite_pos (by omega) (Ev.ite_pos (by omega) (Ev.ite_pos (by omega) ?_))
    rw [hrd]
    have h1 : Ev (fun k => laws_eqBlock.f k x.f0 x.f1 x.f2 x.f3 x.f0 x.f1 x.f2 x.f3) true := by
      unfold laws_eqBlock.f
      exact Ev.bind (eqFlatS_ev x.f0 hxx.1) (Ev.ite_pos rfl (Ev.ite_pos rfl (Ev.ite_pos rfl (Ev.bind (eqIntS_ev x.f3 x.f3 hxx.2) (Ev.ite_pos (by simp) (Ev.some rfl))))))
    refine Ev.bind h1 (Ev.ite_pos rfl ?_)
    rw [wrap_succ (by omega)]
    exact ih () trivial

theorem l1In_eq (a b c : Int) : spec_l1In.f a b c = some (decide (b ≤ a ∧ a ≤ c)) := by
  unfold spec_l1In.f
  by_cases h : a ≥ b
  · rw [if_pos h]; simp [show b ≤ a from h]
  · rw [if_neg h]; simp; omega

theorem within_eq (a b c : Int) : impl_within.f a b c = some (decide (b ≤ a ∧ a ≤ c)) := by
  unfold impl_within.f
  by_cases h : a ≥ b
  · rw [if_pos h]; simp [show b ≤ a from h]
  · rw [if_neg h]; simp; omega

/-- What a right flat step is. -/
def okF (x : S79) : Bool := decide (
  if x.f0 = 1 then (0 ≤ x.f2 ∧ x.f2 ≤ 11) ∧ x.f3 = 0 ∧ x.f4 = 0 ∧ (0 ≤ x.f5 ∧ x.f5 ≤ 65535) ∧ x.f1 = 0
  else if x.f0 = 2 ∨ x.f0 = 4 then (0 ≤ x.f2 ∧ x.f2 ≤ 11) ∧ (0 ≤ x.f3 ∧ x.f3 ≤ 11) ∧ x.f4 = 0 ∧ x.f5 = 0 ∧ x.f1 = 0
  else if x.f0 = 3 then (0 ≤ x.f2 ∧ x.f2 ≤ 11) ∧ (0 ≤ x.f3 ∧ x.f3 ≤ 11) ∧ (0 ≤ x.f4 ∧ x.f4 ≤ 11) ∧ x.f5 = 0 ∧ (4 ≤ x.f1 ∧ x.f1 ≤ 9)
  else if x.f0 = 5 then x.f2 = 0 ∧ (0 ≤ x.f3 ∧ x.f3 ≤ 11) ∧ (0 ≤ x.f4 ∧ x.f4 ≤ 11) ∧ x.f5 = 0 ∧ x.f1 = 0
  else if x.f0 = 6 then x.f2 = 0 ∧ (0 ≤ x.f3 ∧ x.f3 ≤ 11) ∧ x.f4 = 0 ∧ x.f5 = 0 ∧ x.f1 = 0
  else False)
theorem nameF_eq (x : Int) : spec_l6Name.f x = some (decide (0 ≤ x ∧ x ≤ 11)) := by
  unfold spec_l6Name.f; rw [l1In_eq]; rfl
theorem specF_eq (k : Nat) (x : S79) : spec_l6Flat.f (k + 2) x.f0 x.f1 x.f2 x.f3 x.f4 x.f5 = some (okF x) := by
  obtain ⟨a0, a1, a2, a3, a4, a5⟩ := x
  unfold spec_l6Flat.f okF
  simp only [spec_l6Flat.j0, spec_l6Flat.j1, nameF_eq, l1In_eq, Option.bind_some, decide_eq_true_eq, beq_iff_eq, bne_iff_ne]
  by_cases c1 : a0 = 1
  · subst c1
    simp
    repeat' split
    all_goals (first | rfl | (exfalso; omega) | (refine congrArg some ?_; rw [Bool.eq_iff_iff]; simp only [decide_eq_true_eq, beq_iff_eq, Bool.and_eq_true, Bool.false_eq_true]; omega) | (rw [Bool.eq_iff_iff]; simp only [decide_eq_true_eq, beq_iff_eq, Bool.and_eq_true, Bool.false_eq_true]; omega) | (intros; omega) | (simp_all <;> intros <;> omega) | (simp_all; done))
  by_cases c2 : a0 = 2
  · subst c2
    simp
    repeat' split
    all_goals (first | rfl | (exfalso; omega) | (refine congrArg some ?_; rw [Bool.eq_iff_iff]; simp only [decide_eq_true_eq, beq_iff_eq, Bool.and_eq_true, Bool.false_eq_true]; omega) | (rw [Bool.eq_iff_iff]; simp only [decide_eq_true_eq, beq_iff_eq, Bool.and_eq_true, Bool.false_eq_true]; omega) | (intros; omega) | (simp_all <;> intros <;> omega) | (simp_all; done))
  by_cases c3 : a0 = 3
  · subst c3
    simp
    repeat' split
    all_goals (first | rfl | (exfalso; omega) | (refine congrArg some ?_; rw [Bool.eq_iff_iff]; simp only [decide_eq_true_eq, beq_iff_eq, Bool.and_eq_true, Bool.false_eq_true]; omega) | (rw [Bool.eq_iff_iff]; simp only [decide_eq_true_eq, beq_iff_eq, Bool.and_eq_true, Bool.false_eq_true]; omega) | (intros; omega) | (simp_all <;> intros <;> omega) | (simp_all; done))
  by_cases c4 : a0 = 4
  · subst c4
    simp
    repeat' split
    all_goals (first | rfl | (exfalso; omega) | (refine congrArg some ?_; rw [Bool.eq_iff_iff]; simp only [decide_eq_true_eq, beq_iff_eq, Bool.and_eq_true, Bool.false_eq_true]; omega) | (rw [Bool.eq_iff_iff]; simp only [decide_eq_true_eq, beq_iff_eq, Bool.and_eq_true, Bool.false_eq_true]; omega) | (intros; omega) | (simp_all <;> intros <;> omega) | (simp_all; done))
  by_cases c5 : a0 = 5
  · subst c5
    simp
    repeat' split
    all_goals (first | rfl | (exfalso; omega) | (refine congrArg some ?_; rw [Bool.eq_iff_iff]; simp only [decide_eq_true_eq, beq_iff_eq, Bool.and_eq_true, Bool.false_eq_true]; omega) | (rw [Bool.eq_iff_iff]; simp only [decide_eq_true_eq, beq_iff_eq, Bool.and_eq_true, Bool.false_eq_true]; omega) | (intros; omega) | (simp_all <;> intros <;> omega) | (simp_all; done))
  by_cases c6 : a0 = 6
  · subst c6
    simp
    repeat' split
    all_goals (first | rfl | (exfalso; omega) | (refine congrArg some ?_; rw [Bool.eq_iff_iff]; simp only [decide_eq_true_eq, beq_iff_eq, Bool.and_eq_true, Bool.false_eq_true]; omega) | (rw [Bool.eq_iff_iff]; simp only [decide_eq_true_eq, beq_iff_eq, Bool.and_eq_true, Bool.false_eq_true]; omega) | (intros; omega) | (simp_all <;> intros <;> omega) | (simp_all; done))
  simp [c1, c2, c3, c4, c5, c6]
theorem specF_ev (x : S79) : Ev (fun k => spec_l6Flat.f k x.f0 x.f1 x.f2 x.f3 x.f4 x.f5) (okF x) := Ev.succ (Ev.succ ⟨0, fun k _ => specF_eq k x⟩)
theorem fieldsF_eq (k : Nat) (a : Int) : impl_fieldsOf.f (k + 1) a = some (if a = 1 then (true, false, false, true, false, true) else if a = 2 ∨ a = 4 then (true, true, false, false, false, true) else if a = 3 then (true, true, true, false, true, true) else if a = 5 then (false, true, true, false, false, true) else if a = 6 then (false, true, false, false, false, true) else (false, false, false, false, false, false)) := by
  unfold impl_fieldsOf.f
  simp only [impl_fieldsOf.j0]
  by_cases c1 : a = 1
  · simp [c1]
  by_cases c2 : a = 2
  · simp [c2]
  by_cases c3 : a = 3
  · simp [c3]
  by_cases c4 : a = 4
  · simp [c4]
  by_cases c5 : a = 5
  · simp [c5]
  by_cases c6 : a = 6
  · simp [c6]
  simp [c1, c2, c3, c4, c5, c6]
theorem flat1_eq (h : Bool) (x : Int) : impl_flatOK_1.f h x 12 = some (decide (if h = true then 0 ≤ x ∧ x ≤ 11 else x = 0)) := by
  unfold impl_flatOK_1.f
  rw [within_eq, wrap64_id (by omega) (by omega)]
  cases h <;> simp <;> split <;> simp_all
theorem flatR_eq (hn hd : Bool) (n d : Int) : impl_flatOK.r hn hd n d = some (decide ((if hn = true then 0 ≤ n ∧ n ≤ 65535 else n = 0) ∧ (if hd = true then 4 ≤ d ∧ d ≤ 9 else d = 0))) := by
  unfold impl_flatOK.r
  unfold impl_isWord.f impl_isTwo.f
  simp only [within_eq, Option.bind_some]
  cases hn <;> cases hd <;> simp <;> repeat' split
  all_goals (first | rfl | (exfalso; omega) | (refine congrArg some ?_; rw [Bool.eq_iff_iff]; simp only [decide_eq_true_eq, beq_iff_eq, Bool.and_eq_true, Bool.false_eq_true]; omega) | (rw [Bool.eq_iff_iff]; simp only [decide_eq_true_eq, beq_iff_eq, Bool.and_eq_true, Bool.false_eq_true]; omega) | (intros; omega) | (simp_all <;> intros <;> omega) | (simp_all; done))
theorem implF_eq (k : Nat) (x : S79) : impl_flatOK.f (k + 1) x.f0 x.f1 x.f2 x.f3 x.f4 x.f5 12 = some (okF x) := by
  obtain ⟨a0, a1, a2, a3, a4, a5⟩ := x
  unfold impl_flatOK.f okF
  rw [fieldsF_eq]
  simp only [flat1_eq, flatR_eq, Option.bind_some, decide_eq_true_eq]
  by_cases c1 : a0 = 1
  · subst c1
    simp
    repeat' split
    all_goals (first | rfl | (exfalso; omega) | (refine congrArg some ?_; rw [Bool.eq_iff_iff]; simp only [decide_eq_true_eq, beq_iff_eq, Bool.and_eq_true, Bool.false_eq_true]; omega) | (rw [Bool.eq_iff_iff]; simp only [decide_eq_true_eq, beq_iff_eq, Bool.and_eq_true, Bool.false_eq_true]; omega) | (intros; omega) | (simp_all <;> intros <;> omega) | (simp_all; done))
  by_cases c2 : a0 = 2 ∨ a0 = 4
  · simp only [if_neg c1, if_pos c2]
    simp
    repeat' split
    all_goals (first | rfl | (exfalso; omega) | (refine congrArg some ?_; rw [Bool.eq_iff_iff]; simp only [decide_eq_true_eq, beq_iff_eq, Bool.and_eq_true, Bool.false_eq_true]; omega) | (rw [Bool.eq_iff_iff]; simp only [decide_eq_true_eq, beq_iff_eq, Bool.and_eq_true, Bool.false_eq_true]; omega) | (intros; omega) | (simp_all <;> intros <;> omega) | (simp_all; done))
  by_cases c3 : a0 = 3
  · subst c3
    simp
    repeat' split
    all_goals (first | rfl | (exfalso; omega) | (refine congrArg some ?_; rw [Bool.eq_iff_iff]; simp only [decide_eq_true_eq, beq_iff_eq, Bool.and_eq_true, Bool.false_eq_true]; omega) | (rw [Bool.eq_iff_iff]; simp only [decide_eq_true_eq, beq_iff_eq, Bool.and_eq_true, Bool.false_eq_true]; omega) | (intros; omega) | (simp_all <;> intros <;> omega) | (simp_all; done))
  by_cases c5 : a0 = 5
  · subst c5
    simp
    repeat' split
    all_goals (first | rfl | (exfalso; omega) | (refine congrArg some ?_; rw [Bool.eq_iff_iff]; simp only [decide_eq_true_eq, beq_iff_eq, Bool.and_eq_true, Bool.false_eq_true]; omega) | (rw [Bool.eq_iff_iff]; simp only [decide_eq_true_eq, beq_iff_eq, Bool.and_eq_true, Bool.false_eq_true]; omega) | (intros; omega) | (simp_all <;> intros <;> omega) | (simp_all; done))
  by_cases c6 : a0 = 6
  · subst c6
    simp
    repeat' split
    all_goals (first | rfl | (exfalso; omega) | (refine congrArg some ?_; rw [Bool.eq_iff_iff]; simp only [decide_eq_true_eq, beq_iff_eq, Bool.and_eq_true, Bool.false_eq_true]; omega) | (rw [Bool.eq_iff_iff]; simp only [decide_eq_true_eq, beq_iff_eq, Bool.and_eq_true, Bool.false_eq_true]; omega) | (intros; omega) | (simp_all <;> intros <;> omega) | (simp_all; done))
  simp [c1, c2, c3, c5, c6]
theorem implF_ev (x : S79) : Ev (fun k => impl_flatOK.f k x.f0 x.f1 x.f2 x.f3 x.f4 x.f5 12) (okF x) := Ev.succ ⟨0, fun k _ => implF_eq k x⟩
/-- What a right block is among so many. -/
def okGo (n : Int) (b : S56) : Bool := decide (
  if b.f1 = 1 then b.f3.length = 1 ∧ b.f2 = 0 else if b.f1 = 2 then b.f3.length = 2 ∧ (0 ≤ b.f2 ∧ b.f2 ≤ 11) else if b.f1 = 5 then (2 ≤ b.f3.length ∧ b.f3.length ≤ 6) ∧ (0 ≤ b.f2 ∧ b.f2 ≤ 11) else (3 ≤ b.f1 ∧ b.f1 ≤ 4) ∧ b.f3.length = 0 ∧ b.f2 = 0)
def okNx (n : Int) (l : List Int) : Bool := l.all fun y => decide (0 ≤ y ∧ y < n)
def okB (n : Int) (b : S56) : Bool := b.f0.all okF && (okNx n b.f3 && (okGo n b && decide (b.f0.length ≤ 60)))
def okFlow (l : List S56) : Bool := l.all (okB (l.length : Int)) && decide (1 ≤ l.length ∧ l.length ≤ 64)
/-- A row of truths, met one by one. -/
theorem Ev.all {α : Type} (l : List α) (F : Nat → Int → Option Bool) (ok : α → Bool) (r : Bool) (hb : l.length ≤ 1000000000000000)
    (hnil : Ev (fun k => F k (l.length : Int)) r)
    (hcons : ∀ p x q, l = p ++ x :: q → (ok x = true → Ev (fun k => F k ((p.length : Int) + 1)) (q.all ok && r)) → Ev (fun k => F k (p.length : Int)) (ok x && (q.all ok && r))) :
    Ev (fun k => F k 0) (l.all ok && r) := by
  have main : ∀ (q p : List α), l = p ++ q → Ev (fun k => F k (p.length : Int)) (q.all ok && r) := by
    intro q
    induction q with
    | nil => intro p e; rw [List.append_nil] at e; subst e; simpa using hnil
    | cons x q ih =>
      intro p e
      rw [List.all_cons, Bool.and_assoc]
      refine hcons p x q e fun _ => ?_
      have := ih (p ++ [x]) (by rw [e]; simp)
      have e2 : ((p ++ [x]).length : Int) = (p.length : Int) + 1 := by simp
      rw [e2] at this
      exact this
  exact main l [] rfl
theorem specB_ev (n : Int) (b : S56) (h0 : b.f0.length ≤ 1000000000000000) (h3 : b.f3.length ≤ 1000000000000000) : Ev (fun k => spec_l6Block.f k b.f0 b.f1 b.f2 b.f3 n) (okB n b) := by
  unfold spec_l6Block.f okB
  refine Ev.all b.f0 (fun k i => spec_l6Block.l0 k n b.f0 (b.f0.length : Int) i b.f0 b.f1 b.f2 b.f3) okF _ h0 ?_ (fun p x q e ih => ?_)
  · refine Ev.succ ?_
    simp only [spec_l6Block.l0]
    refine Ev.ite_neg (by omega) ?_
    refine Ev.all b.f3 (fun k i => spec_l6Block.l1 k n b.f3 (b.f3.length : Int) i b.f0 b.f1 b.f2 b.f3) (fun y => decide (0 ≤ y ∧ y < n)) _ h3 ?_ (fun p x q e ih => ?_)
    · refine Ev.succ ?_
      simp only [spec_l6Block.l1, nameF_eq, l1In_eq, Option.bind_some, decide_eq_true_eq]
      refine Ev.ite_neg (by omega) (Ev.const ?_)
      unfold okGo
      repeat' split
      all_goals (first | rfl | (exfalso; omega) | (refine congrArg some ?_; rw [Bool.eq_iff_iff]; simp only [decide_eq_true_eq, beq_iff_eq, Bool.and_eq_true, Bool.false_eq_true]; omega) | (rw [Bool.eq_iff_iff]; simp only [decide_eq_true_eq, beq_iff_eq, Bool.and_eq_true, Bool.false_eq_true]; omega) | (intros; omega) | (simp_all <;> intros <;> omega) | (simp_all; done))
    · refine Ev.succ ?_
      simp only [spec_l6Block.l1]
      have hlen : p.length < b.f3.length := by rw [e]; simp
      have hrd : rd b.f3 (p.length : Int) = x := by rw [e]; exact rd_mid _ _ _
      refine Ev.ite_pos (by omega) (Ev.ite_pos (by omega) (Ev.ite_pos (by omega) ?_))
      rw [hrd]
      by_cases c1 : x < 0
      · exact Ev.ite_pos c1 (Ev.some (by simp; omega))
      · refine Ev.ite_neg c1 ?_
        by_cases c2 : x ≥ n
        · exact Ev.ite_pos c2 (Ev.some (by simp; omega))
        · refine Ev.ite_neg c2 ?_
          have hd : decide (0 ≤ x ∧ x < n) = true := by simp; omega
          rw [wrap_succ (by omega), hd, Bool.true_and]
          exact ih hd
  · refine Ev.succ ?_
    simp only [spec_l6Block.l0]
    have hlen : p.length < b.f0.length := by rw [e]; simp
    have hrd : rd_T79 b.f0 (p.length : Int) = x := by unfold rd_T79; rw [e]; exact getD_mid _ _ _ _
    refine Ev.ite_pos (by omega) (Ev.ite_pos (by omega) (Ev.ite_pos (by omega) ?_))
    rw [hrd]
    refine Ev.bind (specF_ev x) ?_
    by_cases c : okF x = true
    · rw [c, Bool.true_and, wrap_succ (by omega)]
      exact Ev.ite_pos rfl (ih c)
    · rw [Bool.not_eq_true] at c
      rw [c, Bool.false_and]
      exact Ev.ite_neg (by decide) (Ev.some rfl)
theorem specFlow_ev (l : List S56) (hl : l.length ≤ 1048576) (hx : ∀ x ∈ l, x.f0.length ≤ 1048576 ∧ x.f3.length ≤ 1048576) : Ev (fun k => spec_GoodFlow.f k l) (okFlow l) := by
  unfold spec_GoodFlow.f okFlow
  refine Ev.all l (fun k i => spec_GoodFlow.l0 k l l (l.length : Int) i) _ _ (by omega) ?_ (fun p x q e ih => ?_)
  · refine Ev.succ ?_
    simp only [spec_GoodFlow.l0, l1In_eq, Option.bind_some]
    exact Ev.ite_neg (by omega) (Ev.some (decide_eq_decide.mpr (by omega)))
  · refine Ev.succ ?_
    simp only [spec_GoodFlow.l0]
    have hlen : p.length < l.length := by rw [e]; simp
    have hrd : rd_T56 l (p.length : Int) = x := by unfold rd_T56; rw [e]; exact getD_mid _ _ _ _
    have hxx := hx x (by rw [e]; simp)
    refine Ev.ite_pos (by omega) (Ev.ite_pos (by omega) (Ev.ite_pos (by omega) ?_))
    rw [hrd]
    refine Ev.bind (specB_ev (l.length : Int) x (by omega) (by omega)) ?_
    by_cases c : okB (l.length : Int) x = true
    · rw [c, Bool.true_and, wrap_succ (by omega)]
      exact Ev.ite_pos rfl (ih c)
    · rw [Bool.not_eq_true] at c
      rw [c, Bool.false_and]
      exact Ev.ite_neg (by decide) (Ev.some rfl)
/-- IndexFunc: where the first that is not right lies. -/
def ixN {α : Type} (ok : α → Bool) (l : List α) : Int := match l.findIdx? (fun x => !ok x) with | some i => (i : Int) | none => -1
theorem ixN_neg {α : Type} (ok : α → Bool) (l : List α) : (!decide (ixN ok l ≥ 0)) = l.all ok := by
  unfold ixN
  cases h : l.findIdx? (fun x => !ok x) with
  | none =>
    rw [List.findIdx?_eq_none_iff] at h
    have : l.all ok = true := by rw [List.all_eq_true]; intro x hx; simpa using h x hx
    rw [this]; decide
  | some i =>
    have h2 : l.all ok = false := by
      rw [Bool.eq_false_iff]
      intro hc
      have h3 : l.findIdx? (fun x => !ok x) = none := by
        rw [List.findIdx?_eq_none_iff]; intro x hx; rw [List.all_eq_true] at hc; simp [hc x hx]
      rw [h3] at h; exact absurd h (by simp)
    rw [h2]; simp <;> omega
theorem Ev.ixN {α : Type} (l : List α) (F : Nat → Int → Option Int) (ok : α → Bool) (hb : l.length ≤ 1000000000000000)
    (hnil : Ev (fun k => F k (l.length : Int)) (-1))
    (hbad : ∀ p x q, l = p ++ x :: q → ok x = false → Ev (fun k => F k (p.length : Int)) (p.length : Int))
    (hgood : ∀ p x q r, l = p ++ x :: q → ok x = true → Ev (fun k => F k ((p.length : Int) + 1)) r → Ev (fun k => F k (p.length : Int)) r) :
    ∃ r, Ev (fun k => F k 0) r ∧ (!decide (r ≥ 0)) = l.all ok := by
  have main : ∀ (q p : List α), l = p ++ q → ∃ r, Ev (fun k => F k (p.length : Int)) r ∧ (!decide (r ≥ 0)) = q.all ok := by
    intro q
    induction q with
    | nil => intro p e; rw [List.append_nil] at e; subst e; exact ⟨-1, hnil, by simp⟩
    | cons x q ih =>
      intro p e
      rw [List.all_cons]
      cases c : ok x with
      | false => exact ⟨_, hbad p x q e c, by simp <;> omega⟩
      | true =>
        obtain ⟨r, hr, h⟩ := ih (p ++ [x]) (by rw [e]; simp)
        have e2 : ((p ++ [x]).length : Int) = (p.length : Int) + 1 := by simp
        rw [e2] at hr
        exact ⟨r, hgood p x q r e c hr, by rw [h]; simp⟩
  exact main l [] rfl
theorem codeOK_ev (l : List S79) (hl : l.length ≤ 1000000000000000) : Ev (fun k => impl_codeOK.f k l 12) (decide (l.length ≤ 60) && l.all okF) := by
  unfold impl_codeOK.f
  by_cases c : (l.length : Int) ≤ 60
  · refine Ev.ite_pos c ?_
    have hI : ∃ r, Ev (fun k => impl_codeOK_1_ix.l0 k 12 l 0) r ∧ (!decide (r ≥ 0)) = l.all okF := by
     refine Ev.ixN l (fun k i => impl_codeOK_1_ix.l0 k 12 l i) okF hl ?_ (fun p x q e hx => ?_) (fun p x q r e hx ih => ?_)
     · refine Ev.succ ?_
       simp only [impl_codeOK_1_ix.l0]
       exact Ev.ite_neg (by omega) (Ev.some rfl)
     all_goals
       have hlen : p.length < l.length := by rw [e]; simp
       have hrd : rd_T79 l (p.length : Int) = x := by unfold rd_T79; rw [e]; exact getD_mid _ _ _ _
       refine Ev.succ ?_
       simp only [impl_codeOK_1_ix.l0, impl_codeOK_1.f]
       refine Ev.ite_pos (by omega) (Ev.ite_pos (by omega) ?_)
       rw [hrd]
       refine Ev.bind (Ev.bind (implF_ev x) (Ev.now _)) ?_
       rw [hx]
     · exact Ev.ite_pos rfl (Ev.some rfl)
     · refine Ev.ite_neg (by decide) ?_
       rw [wrap_succ (by omega)]
       exact ih
    obtain ⟨r, hr, h⟩ := hI
    refine Ev.bind hr (Ev.some ?_)
    rw [h, show decide (l.length ≤ 60) = true by simp; omega, Bool.true_and]
  · refine Ev.ite_neg c (Ev.some ?_)
    rw [show decide (l.length ≤ 60) = false by simp; omega, Bool.false_and]
theorem goOK_ev (n : Int) (b : S56) (hn : 1 ≤ n ∧ n ≤ 64) (h3 : b.f3.length ≤ 1000000000000000) : Ev (fun k => impl_goOK.f k b.f1 b.f2 b.f3 12 n) (okNx n b.f3 && okGo n b) := by
  obtain ⟨i, hi, hb⟩ := Ev.ixN b.f3 (fun k i => impl_goOK_1_ix.l0 k n b.f3 i) (fun y => decide (0 ≤ y ∧ y < n)) h3 (Ev.succ (by
      simp only [impl_goOK_1_ix.l0]
      exact Ev.ite_neg (by omega) (Ev.some rfl))) (fun p x q e hx => by
      have hlen : p.length < b.f3.length := by rw [e]; simp
      have hrd : rd b.f3 (p.length : Int) = x := by rw [e]; exact rd_mid _ _ _
      refine Ev.succ ?_
      simp only [impl_goOK_1_ix.l0, impl_goOK_1.f, within_eq, Option.bind_some]
      refine Ev.ite_pos (by omega) (Ev.ite_pos (by omega) ?_)
      rw [hrd, wrap64_id (x := n - 1) (by omega) (by omega)]
      refine Ev.ite_pos ?_ (Ev.some rfl)
      simp at hx ⊢; omega) (fun p x q r e hx ih => by
      have hlen : p.length < b.f3.length := by rw [e]; simp
      have hrd : rd b.f3 (p.length : Int) = x := by rw [e]; exact rd_mid _ _ _
      refine Ev.succ ?_
      simp only [impl_goOK_1_ix.l0, impl_goOK_1.f, within_eq, Option.bind_some]
      refine Ev.ite_pos (by omega) (Ev.ite_pos (by omega) ?_)
      rw [hrd, wrap64_id (x := n - 1) (by omega) (by omega), wrap_succ (by omega)]
      refine Ev.ite_neg ?_ ih
      simp at hx ⊢; omega)
  have hr : ∀ (t : Bool), ((b.f1 = 2 ∨ b.f1 = 5) ↔ t = true) → (if t = true then 0 ≤ b.f2 ∧ b.f2 ≤ 11 else b.f2 = 0) → impl_goOK.r b.f1 (b.f3.length : Int) = some (okGo n b) := by
    intro t ht hc
    unfold impl_goOK.r okGo
    simp only [within_eq]
    cases t <;> simp at ht hc <;> repeat' split
    all_goals (first | rfl | (exfalso; omega) | (refine congrArg some ?_; rw [Bool.eq_iff_iff]; simp only [decide_eq_true_eq, beq_iff_eq, Bool.and_eq_true, Bool.false_eq_true]; omega) | (rw [Bool.eq_iff_iff]; simp only [decide_eq_true_eq, beq_iff_eq, Bool.and_eq_true, Bool.false_eq_true]; omega) | (intros; omega) | (simp_all <;> intros <;> omega) | (simp_all; done))
  have hL : Ev (fun k => (impl_goOK_1_ix.l0 k n b.f3 0).bind fun i => (if i ≥ 0 then some false else some (okGo n b))) (okNx n b.f3 && okGo n b) := by
    refine Ev.bind hi ?_
    have hb' : (!decide (i ≥ 0)) = okNx n b.f3 := hb
    by_cases ci : i ≥ 0
    · rw [if_pos ci, ← hb']; simp [ci]; exact Ev.now _
    · rw [if_neg ci, ← hb']; simp [ci]; exact Ev.now _
  unfold impl_goOK.f impl_tests.f
  simp only [within_eq, wrap64_id (x := (12 : Int) - 1) (by omega) (by omega), Option.bind_some]
  by_cases c2 : b.f1 = 2 ∨ b.f1 = 5
  · have e1 : (if b.f1 = 2 then some true else some (b.f1 == 5)) = some true := by
      rcases c2 with c | c <;> simp [c]
    rw [e1]
    simp only [Option.bind_some, if_true]
    by_cases c3 : 0 ≤ b.f2 ∧ b.f2 ≤ 12 - 1
    · simp only [c3, decide_true, and_self, if_true]
      rw [hr true (by simp [c2]) (by simp; omega)]
      exact hL
    · simp only [c3, decide_false, Bool.false_eq_true, if_false]
      refine Ev.some ?_
      have : okGo n b = false := by
        unfold okGo
        rcases c2 with c | c <;> simp [c] <;> omega
      rw [this, Bool.and_false]
  · have e1 : (if b.f1 = 2 then some true else some (b.f1 == 5)) = some false := by
      rw [if_neg (by omega)]; simp; omega
    rw [e1]
    simp only [Option.bind_some, Bool.false_eq_true, if_false]
    by_cases c3 : b.f2 = 0
    · refine Ev.ite_pos c3 ?_
      rw [hr false (by simp; omega) (by simpa using c3)]
      exact hL
    · refine Ev.ite_neg c3 (Ev.some ?_)
      have : okGo n b = false := by
        unfold okGo
        rw [decide_eq_false_iff_not]
        intro hq
        repeat' split at hq
        all_goals (first | exact c3 hq.2 | exact c3 hq.2.2 | omega)
      rw [this, Bool.and_false]
theorem implFlow_ev (l : List S56) (hl : l.length ≤ 1048576) (hx : ∀ x ∈ l, x.f0.length ≤ 1048576 ∧ x.f3.length ≤ 1048576) : Ev (fun k => impl_GoodFlow.f k l) (okFlow l) := by
  unfold impl_GoodFlow.f okFlow
  simp only [within_eq, Option.bind_some, decide_eq_true_eq]
  by_cases c : 1 ≤ (l.length : Int) ∧ (l.length : Int) ≤ 64
  · refine Ev.ite_pos c ?_
    have hI : ∃ r, Ev (fun k => impl_GoodFlow_1_ix.l0 k (l.length : Int) l 0) r ∧ (!decide (r ≥ 0)) = l.all (okB (l.length : Int)) := by
     refine Ev.ixN l (fun k i => impl_GoodFlow_1_ix.l0 k (l.length : Int) l i) (okB (l.length : Int)) (by omega) ?_ (fun p x q e hx' => ?_) (fun p x q r e hx' ih => ?_)
     · refine Ev.succ ?_
       simp only [impl_GoodFlow_1_ix.l0]
       exact Ev.ite_neg (by omega) (Ev.some rfl)
     all_goals
       have hlen : p.length < l.length := by rw [e]; simp
       have hrd : rd_T56 l (p.length : Int) = x := by unfold rd_T56; rw [e]; exact getD_mid _ _ _ _
       have hxx := hx x (by rw [e]; simp)
       have hq : Ev (fun k => impl_GoodFlow_1.f k (l.length : Int) x) (!okB (l.length : Int) x) := by
         unfold impl_GoodFlow_1.f
         refine Ev.bind (codeOK_ev x.f0 (by omega)) ?_
         by_cases cc : (decide (x.f0.length ≤ 60) && x.f0.all okF) = true
         · refine Ev.ite_pos cc (Ev.bind (goOK_ev (l.length : Int) x c (by omega)) (Ev.some ?_))
           rw [Bool.and_eq_true] at cc
           unfold okB
           rw [cc.1, cc.2]; simp
         · refine Ev.ite_neg cc (Ev.some ?_)
           unfold okB
           cases h1 : x.f0.all okF
           · simp
           · cases h2 : decide (x.f0.length ≤ 60)
             · simp
             · rw [h1, h2] at cc; exact absurd rfl cc
       refine Ev.succ ?_
       simp only [impl_GoodFlow_1_ix.l0]
       refine Ev.ite_pos (by omega) (Ev.ite_pos (by omega) ?_)
       rw [hrd]
       refine Ev.bind hq ?_
       rw [hx']
     · exact Ev.ite_pos rfl (Ev.some rfl)
     · refine Ev.ite_neg (by decide) ?_
       rw [wrap_succ (by omega)]
       exact ih
    obtain ⟨r, hr, h⟩ := hI
    refine Ev.bind hr (Ev.some ?_)
    rw [h, show decide (1 ≤ l.length ∧ l.length ≤ 64) = true by simp; omega, Bool.and_true]
  · refine Ev.ite_neg c (Ev.some ?_)
    rw [show decide (1 ≤ l.length ∧ l.length ≤ 64) = false by simp; omega, Bool.and_false]

theorem FnExactGoodFlow : laws_FnExactGoodFlow.Pure := by
  intro a ha hx
  refine Ev.rounds (g := fun k => laws_FnExactGoodFlow.f k a) ?_
  unfold laws_FnExactGoodFlow.f
  obtain ⟨r, hr, _, h⟩ := szBlockS_ev a ha (fun x hxm => ⟨(hx x hxm).1.1, (hx x hxm).2.2.2.1⟩)
  refine Ev.bind hr ?_
  by_cases hn : r < 0
  · exact Ev.ite_pos hn (Ev.now _)
  · obtain ⟨h1, h2⟩ := h.resolve_left hn
    have hT := toBlockS_ev a h1 h2
    have g1 : (a.map cvB).length ≤ 1048576 := by simpa using h1
    have g2 : ∀ x ∈ a.map cvB, x.f0.length ≤ 1048576 ∧ x.f3.length ≤ 1048576 := fun x hxm => by
      obtain ⟨y, hy, rfl⟩ := List.mem_map.1 hxm; have := h2 y hy; simpa [cvB] using this
    refine Ev.ite_neg hn (Ev.bind hT (Ev.bind (specFlow_ev _ g1 g2) (Ev.bind hT (Ev.bind (implFlow_ev _ g1 g2) ?_))))
    exact Ev.ite_neg (by simp) (Ev.bind hT (Ev.bind (eqBlockS_ev _ (by omega) (fun x hxm => by have := g2 x hxm; omega)) (Ev.ite_pos (by simp) (Ev.now _))))

end Go.Proofs.Ythgkhfhfahifmaa.Pure
