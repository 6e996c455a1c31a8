/- Of every graph the law of limitof tells true. No condition beyond the row's own. -/
import Derived.Test.YtbagmhcdhemopaaQ0
import Derived.Test.YtbagmhcdhemopaaQ1
import Derived.Test.YtbagmhcdhemopaaQ2
import Derived.Test.YtbagmhcdhemopaaQ3
import Derived.Test.YtbagmhcdhemopaaQ4
import Derived.Test.YtbagmhcdhemopaaQ5
import Derived.Test.YtbagmhcdhemopaaQ6
import Derived.Test.YtbagmhcdhemopaaQ7
import Derived.Test.YtbagmhcdhemopaaQ8
import Derived.Test.YtbagmhcdhemopaaLib1
import Derived.Test.YtbagmhcdhemopaaLib2
import Derived.Test.YtbagmhcdhemopaaTab
namespace Go.Proofs.Ytbagmhcdhemopaa.Pure
open Go.RowKit Go.Proofs.Ytbagmhcdhemopaa.Lib Go.Proofs.Ytbagmhcdhemopaa.Q Go.Proofs.YtbagmhcdhemopaaW.PrintWords Go.Proofs.YtbagmhcdhemopaaW.PrintLast Go.Proofs.YtbagmhcdhemopaaW.PrintMore
set_option linter.unusedVariables false
set_option linter.unusedSimpArgs false

theorem toIntS_l0 (q : List Int) : ∀ (p : List Int), p.length + q.length ≤ 1000000000000000 → Ev (fun k => laws_toIntS.l0 k (p ++ q) (p ++ List.replicate q.length 0) (p.length : Int)) (p ++ q) := by
  induction q with
  | nil =>
    intro p h0
    refine ⟨1, fun k hk => ?_⟩
    (try dsimp only)
    obtain ⟨k, rfl⟩ : ∃ m, k = m + 1 := ⟨k - 1, by omega⟩
    simp only [laws_toIntS.l0]
    rw [if_neg (by simp)]; simp
  | cons x q ih =>
    intro p h0
    simp only [List.length_cons] at h0
    obtain ⟨K, hK⟩ := ih (p ++ [x]) (by simp; omega)
    (try dsimp only at hK)
    refine ⟨K + 1, fun k hk => ?_⟩
    (try dsimp only)
    obtain ⟨k, rfl, hk'⟩ := within_lo hk
    simp only [laws_toIntS.l0]
    have hK' := hK k hk'
    simp only [List.append_assoc, List.cons_append, List.nil_append] at hK'
    have e1 : wrap64 ((p.length : Int) + 1) = ((p ++ [x]).length : Int) := by
      rw [wrap64_id (by omega) (by omega)]; simp
    rw [if_pos (by simp; omega), if_pos (by omega), if_pos (by simp; omega), Int.toNat_natCast, rd_mid, List.length_cons, List.replicate_succ, set_mid, e1, hK']
theorem toIntS_ev (l : List Int) (h : l.length ≤ 1048576) : Ev (fun k => laws_toIntS.f k l) l := by
  obtain ⟨K, hK⟩ := toIntS_l0 l [] (by simp; omega)
  (try dsimp only at hK)
  refine ⟨K, fun k hk => ?_⟩
  (try dsimp only)
  unfold laws_toIntS.f
  rw [if_pos (by omega), if_pos (by omega), Int.toNat_natCast]
  exact hK k hk

theorem eqIntS_l0 (d : Nat) : ∀ (p p' q q' : List Int), p.length = p'.length → q.length = d → q'.length = d → p.length + d ≤ 1000000000000000 → Ev (fun k => laws_eqIntS.l0 k (p ++ q) (p' ++ q') (p.length : Int)) (decide (q = q')) := by
  induction d with
  | zero =>
    intro p p' q q' hp hq hq' hb
    obtain rfl : q = [] := by simpa using hq
    obtain rfl : q' = [] := by simpa using hq'
    refine ⟨1, fun k hk => ?_⟩
    (try dsimp only)
    obtain ⟨k, rfl⟩ : ∃ m, k = m + 1 := ⟨k - 1, by omega⟩
    simp only [laws_eqIntS.l0]
    rw [if_neg (by simp)]; rfl
  | succ d ih =>
    intro p p' q q' hp hq hq' hb
    match q, q', hq, hq' with
    | x :: q, y :: q', hq, hq' =>
      simp only [List.length_cons] at hq hq'
      have r1 := rd_mid p q x
      have r2 := rd_mid p' q' y
      rw [← hp] at r2
      have e1 : wrap64 ((p.length : Int) + 1) = ((p ++ [x]).length : Int) := by
        rw [wrap64_id (by omega) (by omega)]; simp
      by_cases hxy : x = y
      · subst hxy
        obtain ⟨K, hK⟩ := ih (p ++ [x]) (p' ++ [x]) q q' (by simp [hp]) (by omega) (by omega) (by simp; omega)
        (try dsimp only at hK)
        refine ⟨K + 1, fun k hk => ?_⟩
        (try dsimp only)
        obtain ⟨k, rfl, hk'⟩ := within_lo hk
        simp only [laws_eqIntS.l0]
        have hK' := hK k hk'
        simp only [List.append_assoc, List.cons_append, List.nil_append] at hK'
        rw [if_pos (by simp; omega), if_pos (by omega), if_pos (by simp; omega), r1, r2, if_pos rfl, e1, hK']
        simp
      · refine ⟨1, fun k hk => ?_⟩
        (try dsimp only)
        obtain ⟨k, rfl⟩ : ∃ m, k = m + 1 := ⟨k - 1, by omega⟩
        simp only [laws_eqIntS.l0]
        rw [if_pos (by simp; omega), if_pos (by omega), if_pos (by simp; omega), r1, r2, if_neg hxy]
        simp [hxy]
theorem eqIntS_ev (a b : List Int) (h : a.length ≤ 1000000000000000) : Ev (fun k => laws_eqIntS.f k a b) (decide (a = b)) := by
  by_cases hl : a.length = b.length
  · obtain ⟨K, hK⟩ := eqIntS_l0 a.length [] [] a b rfl rfl hl.symm (by simpa using h)
    (try dsimp only at hK)
    refine ⟨K, fun k hk => ?_⟩
    (try dsimp only)
    unfold laws_eqIntS.f
    rw [if_pos (by omega)]
    exact hK k hk
  · refine ⟨0, fun k _ => ?_⟩
    (try dsimp only)
    unfold laws_eqIntS.f
    rw [if_neg (by omega)]
    congr 1; symm
    rw [decide_eq_false_iff_not]
    rintro rfl; exact hl rfl

theorem szIntS_some3 (l : List Int) (a : Int) (ha : a ≤ 1048576) (ha0 : 0 ≤ a) (hl : l.length ≤ maxLen) : laws_szIntS.f l a = some (if (l.length : Int) ≤ a then a - l.length else -1) := by
  unfold maxLen at hl
  unfold laws_szIntS.f
  rw [wrap64_id (by omega) (by omega)]
  by_cases h : (l.length : Int) ≤ a
  · rw [if_neg (by omega), if_pos h]
  · rw [if_pos (by omega), if_neg h]
/-- The sizes of what is left of rows of rows: less than nothing, or all are small. -/
def szSS (a : Int) : List (List Int) → Int
  | [] => a
  | x :: q => if (x.length : Int) ≤ a then szSS (a - x.length) q else -1
theorem szSS_some (q : List (List Int)) : ∀ a : Int, 0 ≤ a → szSS a q < 0 ∨ ∀ x ∈ q, (x.length : Int) ≤ a := by
  induction q with
  | nil => intro a _; exact .inr (by simp)
  | cons x q ih =>
    intro a ha
    unfold szSS
    by_cases h : (x.length : Int) ≤ a
    · rw [if_pos h]
      rcases ih (a - x.length) (by omega) with h1 | h1
      · exact .inl h1
      · refine .inr fun y hy => ?_
        rcases List.mem_cons.mp hy with rfl | hy
        · exact h
        · have := h1 y hy; omega
    · rw [if_neg h]; exact .inl (by omega)
theorem szSS_le (q : List (List Int)) : ∀ a : Int, 0 ≤ a → szSS a q ≤ a ∧ -1 ≤ szSS a q := by
  induction q with
  | nil => intro a _; unfold szSS; omega
  | cons x q ih =>
    intro a ha
    unfold szSS
    by_cases h : (x.length : Int) ≤ a
    · rw [if_pos h]; have := ih (a - x.length) (by omega); omega
    · rw [if_neg h]; omega
theorem szIntSS_ev (l : List (List Int)) (a : Int) (ha : a ≤ 1048576) (ha0 : 0 ≤ a) (hl : l.length ≤ maxLen) (hx : ∀ x ∈ l, x.length ≤ maxLen) : Ev (fun k => laws_szIntSS.f k l a) (if (l.length : Int) ≤ a then szSS (a - l.length) l else -1) := by
  unfold maxLen at hl
  unfold laws_szIntSS.f
  rw [wrap64_id (by omega) (by omega)]
  by_cases h : (l.length : Int) ≤ a
  · rw [if_pos h]
    refine Ev.ite_neg (by omega) ?_
    refine Ev.rangeI l (fun k b i => laws_szIntSS.l0 k l b i) (fun b _ q => szSS b q) (fun b _ => 0 ≤ b ∧ b ≤ a) (fun b _ => ?_) (fun b p x q e hb ih => ?_) _ ⟨by omega, by omega⟩
    · refine Ev.succ ?_
      simp only [laws_szIntSS.l0]
      exact Ev.ite_neg (by omega) (Ev.some rfl)
    · refine Ev.succ ?_
      simp only [laws_szIntSS.l0]
      have hlen : p.length < l.length := by rw [e]; simp
      refine Ev.ite_pos (by omega) (Ev.ite_pos (by omega) ?_)
      have hrd : rd_L1 l (p.length : Int) = x := by unfold rd_L1; rw [e]; exact getD_mid _ _ _ _
      rw [hrd, szIntS_some3 x b (by omega) hb.1 (hx x (by rw [e]; simp))]
      simp only [Option.bind_some]
      by_cases h1 : (x.length : Int) ≤ b
      · simp only [if_pos h1]
        refine Ev.ite_neg (by omega) ?_
        rw [wrap_succ (by omega), szSS, if_pos h1]
        exact ih _ ⟨by omega, by omega⟩
      · simp only [if_neg h1]
        refine Ev.ite_pos (by omega) (Ev.some ?_)
        rw [szSS, if_neg h1]
  · rw [if_neg h]
    exact Ev.ite_pos (by omega) (Ev.some rfl)
theorem toIntSS_ev (l : List (List Int)) (hl : l.length ≤ 1048576) (hx : ∀ x ∈ l, x.length ≤ 1048576) : Ev (fun k => laws_toIntSS.f k l) l := by
  unfold laws_toIntSS.f
  refine Ev.ite_pos (by omega) (Ev.ite_pos (by omega) ?_)
  rw [Int.toNat_natCast]
  have := Ev.rangeI (ρ := List (List Int)) l (fun k b i => laws_toIntSS.l0 k l b i) (fun _ _ _ => l) (fun b p => b = p ++ List.replicate (l.length - p.length) []) (fun b hb => ?_) (fun b p x q e hb ih => ?_) (List.replicate l.length []) (by simp)
  · exact this
  · refine Ev.succ ?_
    simp only [laws_toIntSS.l0]
    refine Ev.ite_neg (by omega) (Ev.some ?_)
    rw [hb]; simp
  · refine Ev.succ ?_
    simp only [laws_toIntSS.l0]
    have hlen : p.length < l.length := by rw [e]; simp
    have hbl : b.length = l.length := by rw [hb]; simp; omega
    have hrd : rd_L1 l (p.length : Int) = x := by unfold rd_L1; rw [e]; exact getD_mid _ _ _ _
    refine Ev.ite_pos (by omega) (Ev.ite_pos (by omega) ?_)
    rw [hrd]
    refine Ev.bind (toIntS_ev x (hx x (by rw [e]; simp))) (Ev.ite_pos (by omega) ?_)
    rw [Int.toNat_natCast, wrap_succ (by omega)]
    refine ih _ ?_
    rw [hb, show l.length - p.length = (l.length - (p ++ [x]).length) + 1 from by simp; omega, List.replicate_succ, set_mid]
    simp
theorem eqIntSS_ev (a b : List (List Int)) (h : a.length ≤ 1000000000000000) (hx : ∀ x ∈ a, x.length ≤ 1000000000000000) : Ev (fun k => laws_eqIntSS.f k a b) (decide (a = b)) := by
  unfold laws_eqIntSS.f
  by_cases hl : a.length = b.length
  · refine Ev.ite_pos (by omega) ?_
    refine Ev.rangeI a (fun k (_ : Unit) i => laws_eqIntSS.l0 k a b i) (fun _ _ _ => decide (a = b)) (fun _ p => p = b.take p.length) (fun _ hp => ?_) (fun _ p x q e hp ih => ?_) () (by simp)
    · refine Ev.succ ?_
      simp only [laws_eqIntSS.l0]
      refine Ev.ite_neg (by omega) (Ev.some ?_)
      rw [hl, List.take_length] at hp
      simp [hp]
    · refine Ev.succ ?_
      simp only [laws_eqIntSS.l0]
      have hlen : p.length < a.length := by rw [e]; simp
      have hrd : rd_L1 a (p.length : Int) = x := by unfold rd_L1; rw [e]; exact getD_mid _ _ _ _
      refine Ev.ite_pos (by omega) (Ev.ite_pos (by omega) (Ev.ite_pos (by omega) ?_))
      rw [hrd]
      have hrb : rd_L1 b (p.length : Int) = b[p.length]'(by omega) := by
        unfold rd_L1; rw [Int.toNat_natCast, List.getD_eq_getElem?_getD, List.getElem?_eq_getElem (by omega)]; rfl
      rw [hrb]
      refine Ev.bind (eqIntS_ev x _ (hx x (by rw [e]; simp))) ?_
      by_cases hxy : x = b[p.length]'(by omega)
      · refine Ev.ite_pos (by simpa using hxy) ?_
        rw [wrap_succ (by omega)]
        refine ih () ?_
        rw [List.length_append, List.length_singleton, List.take_succ_eq_append_getElem (by omega), ← hp, ← hxy]
      · refine Ev.ite_neg (by simpa using hxy) (Ev.some ?_)
        symm
        rw [decide_eq_false_iff_not]
        rintro rfl
        apply hxy
        simp [e]
  · refine Ev.ite_neg (by omega) (Ev.some ?_)
    symm
    rw [decide_eq_false_iff_not]
    rintro rfl
    exact hl rfl

theorem szGraph_ev (l : List (List Int)) (hl : l.length ≤ maxLen) (hx : ∀ x ∈ l, x.length ≤ maxLen) :
    ∃ r, Ev (fun k => laws_szGraph.f k l 1048576) r ∧ (r < 0 ∨ l.length ≤ 1048576 ∧ ∀ x ∈ l, x.length ≤ 1048576) := by
  have h := szIntSS_ev l 1048576 (by omega) (by omega) hl hx
  by_cases hlen : (l.length : Int) ≤ 1048576
  · rw [if_pos hlen] at h
    refine ⟨if szSS (1048576 - l.length) l < 0 then -1 else szSS (1048576 - l.length) l, ?_, ?_⟩
    · unfold laws_szGraph.f
      refine Ev.bind h ?_
      by_cases h1 : szSS (1048576 - l.length) l < 0
      · exact Ev.ite_pos h1 (Ev.some (if_pos h1).symm)
      · exact Ev.ite_neg h1 (Ev.some (if_neg h1).symm)
    · rcases szSS_some l (1048576 - l.length) (by omega) with h1 | h1
      · rw [if_pos h1]; exact .inl (by omega)
      · exact .inr ⟨by omega, fun x hx => by have := h1 x hx; omega⟩
  · rw [if_neg hlen] at h
    refine ⟨-1, ?_, .inl (by omega)⟩
    unfold laws_szGraph.f
    exact Ev.bind h (Ev.ite_pos (by omega) (Ev.some rfl))
theorem toGraph_ev (l : List (List Int)) (hl : l.length ≤ 1048576) (hx : ∀ x ∈ l, x.length ≤ 1048576) : Ev (fun k => laws_toGraph.f k l) l := by
  unfold laws_toGraph.f
  exact Ev.bind (toIntSS_ev l hl hx) (Ev.some rfl)
theorem eqGraph_ev (a b : List (List Int)) (h : a.length ≤ 1000000000000000) (hx : ∀ x ∈ a, x.length ≤ 1000000000000000) : Ev (fun k => laws_eqGraph.f k a b) (decide (a = b)) := by
  unfold laws_eqGraph.f
  refine Ev.bind (eqIntSS_ev a b h hx) ?_
  by_cases hab : a = b
  · exact Ev.ite_pos (by simpa using hab) (Ev.some (by simp [hab]))
  · exact Ev.ite_neg (by simpa using hab) (Ev.some (by simp [hab]))

/-- A graph that is being reduced: who is left, and what leads where among them. -/
structure G2 where
  L : Int → Bool
  E : Int → Int → Bool
/-- What holds of it: edges lie between different nodes that are left. -/
def G2.ok (S : G2) : Prop := ∀ a b, S.E a b = true → S.L a = true ∧ S.L b = true ∧ a ≠ b
def G2.t2 (S : G2) (k p : Int) : G2 :=
  ⟨fun x => S.L x && decide (x ≠ k), fun a b => (S.E a b || (decide (a = p) && S.E k b)) && decide (a ≠ k) && decide (b ≠ k) && decide (a ≠ b)⟩
def G2.can (S : G2) (k p : Int) : Prop := k ≠ 0 ∧ S.E p k = true ∧ ∀ q, S.E q k = true → q = p
inductive G2.rch (S : G2) : Int → Prop
  | base : S.rch 0
  | step {a b : Int} : S.rch a → S.E a b = true → S.rch b
def G2.all (S : G2) : Prop := ∀ x, S.L x = true → S.rch x
theorem G2.t2_L {S : G2} {k p x : Int} : (S.t2 k p).L x = true ↔ S.L x = true ∧ x ≠ k := by simp [G2.t2]
theorem G2.t2_E {S : G2} {k p a b : Int} : (S.t2 k p).E a b = true ↔ (S.E a b = true ∨ a = p ∧ S.E k b = true) ∧ a ≠ k ∧ b ≠ k ∧ a ≠ b := by
  simp [G2.t2, and_assoc]
theorem G2.ext {S T : G2} (hL : ∀ x, S.L x = true ↔ T.L x = true) (hE : ∀ a b, S.E a b = true ↔ T.E a b = true) : S = T := by
  cases S; cases T
  simp only [G2.mk.injEq]
  exact ⟨funext fun x => Bool.eq_iff_iff.2 (hL x), funext fun a => funext fun b => Bool.eq_iff_iff.2 (hE a b)⟩
theorem G2.can_ne {S : G2} (hS : S.ok) {k p : Int} (h : S.can k p) : p ≠ k ∧ S.L k = true ∧ S.L p = true := ⟨(hS p k h.2.1).2.2, (hS p k h.2.1).2.1, (hS p k h.2.1).1⟩
theorem G2.t2_ok {S : G2} (hS : S.ok) {k p : Int} (h : S.can k p) : (S.t2 k p).ok := by
  intro a b hab
  rw [G2.t2_E] at hab
  rw [G2.t2_L, G2.t2_L]
  obtain ⟨h1 | ⟨rfl, h1⟩, h2, h3, h4⟩ := hab
  · exact ⟨⟨(hS a b h1).1, h2⟩, ⟨(hS a b h1).2.1, h3⟩, h4⟩
  · exact ⟨⟨(G2.can_ne hS h).2.2, h2⟩, ⟨(hS _ b h1).2.1, h3⟩, h4⟩
theorem G2.t2_rch {S : G2} (hS : S.ok) {k p : Int} (h : S.can k p) {x : Int} (hx : S.rch x) : (x ≠ k → (S.t2 k p).rch x) ∧ (x = k → (S.t2 k p).rch p) := by
  have hp := (G2.can_ne hS h).1
  induction hx with
  | base => exact ⟨fun _ => .base, fun e => absurd e.symm h.1⟩
  | @step a b ha hab ih =>
    refine ⟨fun hb => ?_, fun e => ?_⟩
    · by_cases hak : a = k
      · have h1 := ih.2 hak
        by_cases hbp : p = b
        · exact hbp ▸ h1
        · exact .step h1 (G2.t2_E.2 ⟨.inr ⟨rfl, hak ▸ hab⟩, hp, hb, hbp⟩)
      · exact .step (ih.1 hak) (G2.t2_E.2 ⟨.inl hab, hak, hb, (hS a b hab).2.2⟩)
    · subst e
      have := h.2.2 a hab
      subst this
      exact ih.1 hp
theorem G2.t2_all {S : G2} (hS : S.ok) (hA : S.all) {k p : Int} (h : S.can k p) : (S.t2 k p).all := by
  intro x hx
  rw [G2.t2_L] at hx
  exact (G2.t2_rch hS h (hA x hx.1)).1 hx.2
/-- Two of them cannot be each other's only way in. -/
theorem G2.no_pair {S : G2} (hS : S.ok) (hA : S.all) {k1 k2 : Int} (h1 : S.can k1 k2) (h2 : S.can k2 k1) : False := by
  have key : ∀ x, S.rch x → x ≠ k1 ∧ x ≠ k2 := by
    intro x hx
    induction hx with
    | base => exact ⟨fun e => h1.1 e.symm, fun e => h2.1 e.symm⟩
    | @step a b ha hab ih =>
      refine ⟨fun e => ?_, fun e => ?_⟩
      · subst e; exact ih.2 (h1.2.2 a hab)
      · subst e; exact ih.1 (h2.2.2 a hab)
  exact (key k1 (hA k1 (G2.can_ne hS h1).2.1)).1 rfl
theorem G2.can_t2 {S : G2} (hS : S.ok) (hA : S.all) {k1 p1 k2 p2 : Int} (h1 : S.can k1 p1) (h2 : S.can k2 p2) (hne : k1 ≠ k2) : (S.t2 k1 p1).can k2 (if p2 = k1 then p1 else p2) := by
  have q1 := G2.can_ne hS h1
  have q2 := G2.can_ne hS h2
  refine ⟨h2.1, ?_, fun q hq => ?_⟩
  · rw [G2.t2_E]
    by_cases h : p2 = k1
    · rw [if_pos h]
      refine ⟨.inr ⟨rfl, h ▸ h2.2.1⟩, q1.1, hne.symm, fun e => ?_⟩
      subst e; subst h
      exact G2.no_pair hS hA h1 h2
    · rw [if_neg h]
      exact ⟨.inl h2.2.1, h, hne.symm, q2.1⟩
  · rw [G2.t2_E] at hq
    obtain ⟨h3 | ⟨rfl, h3⟩, h4, h5, h6⟩ := hq
    · have := h2.2.2 q h3
      subst this
      rw [if_neg h4]
    · have := h2.2.2 k1 h3
      rw [if_pos this.symm]
theorem G2.diamond {S : G2} (hS : S.ok) (hA : S.all) {k1 p1 k2 p2 : Int} (h1 : S.can k1 p1) (h2 : S.can k2 p2) (hne : k1 ≠ k2) : (S.t2 k1 p1).t2 k2 (if p2 = k1 then p1 else p2) = (S.t2 k2 p2).t2 k1 (if p1 = k2 then p2 else p1) := by
  have q1 := G2.can_ne hS h1
  have q2 := G2.can_ne hS h2
  refine G2.ext (fun x => ?_) (fun a b => ?_)
  · simp only [G2.t2_L]; exact ⟨fun h => ⟨⟨h.1.1, h.2⟩, h.1.2⟩, fun h => ⟨⟨h.1.1, h.2⟩, h.1.2⟩⟩
  · simp only [G2.t2_E]
    have u1 := h1.2.2 k2
    have u2 := h2.2.2 k1
    by_cases e2 : p2 = k1
    · have e1 : p1 ≠ k2 := fun e => by subst e; subst e2; exact G2.no_pair hS hA h1 h2
      have f1 : ¬ S.E k2 k1 = true := fun h => e1 (u1 h).symm
      have f2 := h2.2.1
      rw [if_pos e2, if_neg e1]
      subst e2
      grind
    · have f2 : ¬ S.E k1 k2 = true := fun h => e2 (u2 h).symm
      rw [if_neg e2]
      by_cases e1 : p1 = k2
      · rw [if_pos e1]
        have f1 := h1.2.1
        subst e1
        grind
      · rw [if_neg e1]
        have f1 : ¬ S.E k2 k1 = true := fun h => e1 (u1 h).symm
        grind
/-- It comes to its end in so many steps. -/
inductive G2.red : Nat → G2 → Prop
  | stop {S : G2} : (∀ k p, ¬ S.can k p) → G2.red 0 S
  | step {n : Nat} {S : G2} {k p : Int} : S.can k p → G2.red n (S.t2 k p) → G2.red (n + 1) S
theorem G2.red_step {n : Nat} {S : G2} (hS : S.ok) (hA : S.all) (h : G2.red n S) {k p : Int} (hk : S.can k p) : ∃ m, n = m + 1 ∧ G2.red m (S.t2 k p) := by
  induction n generalizing S k p with
  | zero => cases h with | stop h => exact absurd hk (h k p)
  | succ n ih =>
    cases h with
    | @step _ _ k1 p1 h1 h2 =>
      refine ⟨n, rfl, ?_⟩
      by_cases e : k1 = k
      · subst e
        have := hk.2.2 p1 h1.2.1
        subst this
        exact h2
      · obtain ⟨m, rfl, h3⟩ := ih (G2.t2_ok hS h1) (G2.t2_all hS hA h1) h2 (G2.can_t2 hS hA h1 hk e)
        rw [G2.diamond hS hA h1 hk e] at h3
        exact .step (G2.can_t2 hS hA hk h1 (fun h => e h.symm)) h3
theorem G2.red_one {n m : Nat} {S : G2} (hS : S.ok) (hA : S.all) (h : G2.red n S) (h' : G2.red m S) : n = m := by
  induction n generalizing S m with
  | zero =>
    cases h with
    | stop h =>
      cases h' with
      | stop _ => rfl
      | step h1 _ => exact absurd h1 (h _ _)
  | succ n ih =>
    cases h with
    | step h1 h2 =>
      obtain ⟨m', rfl, h3⟩ := G2.red_step hS hA h' h1
      rw [ih (G2.t2_ok hS h1) (G2.t2_all hS hA h1) h2 h3]

theorem findIdx_any {α : Type} (p : α → Bool) (l : List α) : decide ((match l.findIdx? p with | some j => (j : Int) | none => -1) ≥ 0) = l.any p := by
  rw [Bool.eq_iff_iff, decide_eq_true_iff, List.any_eq_true]
  cases hf : l.findIdx? p with
  | none =>
    rw [List.findIdx?_eq_none_iff] at hf
    constructor
    · intro h; simp only [ge_iff_le] at h; omega
    · rintro ⟨x, hx, h⟩; rw [hf x hx] at h; simp at h
  | some j =>
    constructor
    · intro _
      obtain ⟨hj, h1, _⟩ := List.findIdx?_eq_some_iff_getElem.mp hf
      exact ⟨l[j], List.getElem_mem hj, h1⟩
    · intro _; simp only [ge_iff_le]; omega
/-- A loop that looks for the first element that is so. -/
theorem Ev.index {α : Type} (l : List α) (F : Nat → Int → Option Int) (pr : α → Bool)
    (h0 : Ev (fun k => F k (l.length : Int)) (-1))
    (hs : ∀ p x q, l = p ++ x :: q → pr x = true → Ev (fun k => F k (p.length : Int)) (p.length : Int))
    (hn : ∀ p x q r, l = p ++ x :: q → pr x = false → Ev (fun k => F k ((p.length : Int) + 1)) r → Ev (fun k => F k (p.length : Int)) r) :
    Ev (fun k => F k 0) (match l.findIdx? pr with | some j => (j : Int) | none => -1) := by
  have main : ∀ (q p : List α), l = p ++ q → Ev (fun k => F k (p.length : Int)) (match q.findIdx? pr with | some j => ((p.length + j : Nat) : Int) | none => -1) := by
    intro q
    induction q with
    | nil => intro p e; rw [e, List.append_nil] at h0; exact h0
    | cons x q ih =>
      intro p e
      cases hx : pr x with
      | true =>
        have := hs p x q e hx
        rw [List.findIdx?_cons, hx]; simpa using this
      | false =>
        have := ih (p ++ [x]) (by rw [e]; simp)
        have e2 : ((p ++ [x]).length : Int) = (p.length : Int) + 1 := by simp
        rw [e2] at this
        have := hn p x q _ e hx this
        rw [List.findIdx?_cons, hx]
        refine Ev.cast this ?_
        cases q.findIdx? pr with
        | none => rfl
        | some j => simp; omega
  have := main l [] rfl
  refine Ev.cast this ?_
  cases l.findIdx? pr with
  | none => rfl
  | some j => simp

theorem l1Has_ev (l : List Int) (x : Int) (hl : l.length ≤ 1000000000000000) : Ev (fun k => spec_l1Has.f k l x) (decide (x ∈ l)) := by
  unfold spec_l1Has.f
  refine Ev.rangeI l (fun k (_ : Unit) i => spec_l1Has.l0 k x l (l.length : Int) i) (fun _ _ _ => decide (x ∈ l)) (fun _ p => x ∉ p) (fun _ hp => ?_) (fun _ p y q e hp ih => ?_) () (by simp)
  · refine Ev.succ ?_
    simp only [spec_l1Has.l0]
    exact Ev.ite_neg (by omega) (Ev.some (decide_eq_false hp).symm)
  · refine Ev.succ ?_
    simp only [spec_l1Has.l0]
    have hlen : p.length < l.length := by rw [e]; simp
    have hr : rd l (p.length : Int) = y := by rw [e]; exact rd_mid _ _ _
    refine Ev.ite_pos (by omega) (Ev.ite_pos (by omega) (Ev.ite_pos (by omega) ?_))
    rw [hr]
    by_cases h : y = x
    · exact Ev.ite_pos h (Ev.some (by symm; rw [decide_eq_true_iff, e]; simp [h]))
    · refine Ev.ite_neg h ?_
      rw [wrap_succ (by omega)]
      exact ih () (by simp [hp]; omega)
theorem contains_ev (l : List Int) (x : Int) (hl : l.length ≤ 1000000000000000) : Ev (fun k => slices_Contains_int_int.f k l x) (decide (x ∈ l)) := by
  unfold slices_Contains_int_int.f
  have h : Ev (fun k => slices_Index_int_int.f k l x) (match l.findIdx? (fun y => decide (x = y)) with | some j => (j : Int) | none => -1) := by
    unfold slices_Index_int_int.f
    refine Ev.index l (fun k i => slices_Index_int_int.l0 k l x (l.length : Int) i) (fun y => decide (x = y)) ?_ (fun p y q e hp => ?_) (fun p y q r e hp ih => ?_)
    · refine Ev.succ ?_
      simp only [slices_Index_int_int.l0]
      exact Ev.ite_neg (by omega) (Ev.some rfl)
    all_goals
      have hlen : p.length < l.length := by rw [e]; simp
      have hr : rd l (p.length : Int) = y := by rw [e]; exact rd_mid _ _ _
      refine Ev.succ ?_
      simp only [slices_Index_int_int.l0]
      refine Ev.ite_pos (by omega) (Ev.ite_pos (by omega) (Ev.ite_pos (by omega) ?_))
      rw [hr]
    · exact Ev.ite_pos (by simpa using hp) (Ev.some rfl)
    · refine Ev.ite_neg (by simpa using hp) ?_
      rw [wrap_succ (by omega)]
      exact ih
  refine Ev.bind h (Ev.some ?_)
  rw [findIdx_any]
  rw [Bool.eq_iff_iff]
  simp

theorem within_eq (a b c : Int) : impl_within.f a b c = some (decide (b ≤ a ∧ a ≤ c)) := by
  unfold impl_within.f
  by_cases h : a ≥ b
  · rw [if_pos h]; simp [show b ≤ a from h]
  · rw [if_neg h]; simp; omega

theorem l1In_eq (a b c : Int) : spec_l1In.f a b c = some (decide (b ≤ a ∧ a ≤ c)) := by
  unfold spec_l1In.f
  by_cases h : a ≥ b
  · rw [if_pos h]; simp [show b ≤ a from h]
  · rw [if_neg h]; simp; omega

/-- Whether numbers rise from 0 below n, behind what came ahead of them. -/
def risesL (n : Int) : List Int → List Int → Bool
  | _, [] => true
  | p, x :: q => decide (0 ≤ x ∧ x ≤ n - 1) && ((match p.getLast? with | none => true | some y => decide (y < x)) && risesL n (p ++ [x]) q)
def goodGraphB (l : List (List Int)) : Bool := decide (1 ≤ l.length ∧ l.length ≤ 12) && l.all (risesL l.length [])
theorem rd_before (p q : List Int) (x : Int) (h : 0 < p.length) : ∃ y, p.getLast? = some y ∧ rd (p ++ x :: q) ((p.length : Int) - 1) = y := by
  cases hp : p.getLast? with
  | none => rw [List.getLast?_eq_none_iff] at hp; subst hp; simp at h
  | some y =>
    refine ⟨y, rfl, ?_⟩
    unfold rd
    rw [show ((p.length : Int) - 1).toNat = p.length - 1 from by omega, List.getD_eq_getElem?_getD, List.getElem?_append_left (by omega)]
    rw [List.getLast?_eq_getElem?] at hp
    rw [hp]; rfl
theorem risesIn_ev (l : List Int) (n : Int) (hl : l.length ≤ 1048576) (hn : 0 ≤ n) (hn' : n ≤ 1048576) : Ev (fun k => impl_risesIn.f k l n) (risesL n [] l) := by
  unfold impl_risesIn.f
  refine Ev.rangeP l (fun k (_ : Unit) i => impl_risesIn.l0 k l n l (l.length : Int) i) (fun _ p q => risesL n p q) (fun _ => ?_) (fun _ p x q e ih => ?_) ()
  · refine Ev.succ ?_
    simp only [impl_risesIn.l0]
    exact Ev.ite_neg (by omega) (Ev.some rfl)
  · refine Ev.succ ?_
    simp only [impl_risesIn.l0]
    have hlen : p.length < l.length := by rw [e]; simp
    have hr : rd l (p.length : Int) = x := by rw [e]; exact rd_mid _ _ _
    refine Ev.ite_pos (by omega) (Ev.ite_pos (by omega) (Ev.ite_pos (by omega) ?_))
    rw [hr, wrap64_id (by omega) (by omega), within_eq]
    simp only [Option.bind_some]
    rw [risesL]
    by_cases h1 : 0 ≤ x ∧ x ≤ n - 1
    · refine Ev.ite_pos (by simpa using h1) ?_
      rw [decide_eq_true h1, Bool.true_and, wrap_succ (by omega)]
      by_cases h2 : 0 < p.length
      · obtain ⟨y, hy, hry⟩ := rd_before p q x h2
        rw [← e] at hry
        rw [wrap64_id (by omega) (by omega), hry, hy]
        refine Ev.ite_pos (by omega) (Ev.ite_pos (by omega) (Ev.ite_pos (by omega) ?_))
        by_cases h3 : y < x
        · refine Ev.ite_neg (by omega) ?_
          dsimp only
          rw [decide_eq_true h3, Bool.true_and]
          exact ih ()
        · refine Ev.ite_pos (by omega) (Ev.some ?_)
          dsimp only
          rw [decide_eq_false h3, Bool.false_and]
      · have hp : p = [] := List.eq_nil_of_length_eq_zero (by omega)
        subst hp
        refine Ev.ite_neg (by simp) ?_
        simpa using ih ()
    · refine Ev.ite_neg (by simpa using h1) (Ev.some ?_)
      rw [decide_eq_false h1, Bool.false_and]
theorem goodIx_ev (l : List (List Int)) (n : Int) (hn : 0 ≤ n) (hn' : n ≤ 1048576) (hl : l.length ≤ 1048576) (hx : ∀ x ∈ l, x.length ≤ 1048576) :
    Ev (fun k => impl_GoodGraph_ix.l0 k n l 0) (match l.findIdx? (fun x => !risesL n [] x) with | some j => (j : Int) | none => -1) := by
  refine Ev.index l (fun k i => impl_GoodGraph_ix.l0 k n l i) (fun x => !risesL n [] x) ?_ (fun p x q e hp => ?_) (fun p x q r e hp ih => ?_)
  · refine Ev.succ ?_
    simp only [impl_GoodGraph_ix.l0]
    exact Ev.ite_neg (by omega) (Ev.some rfl)
  all_goals
    have hlen : p.length < l.length := by rw [e]; simp
    refine Ev.succ ?_
    simp only [impl_GoodGraph_ix.l0]
    refine Ev.ite_pos (by omega) (Ev.ite_pos (by omega) ?_)
    have hg : l.getD (p.length : Int).toNat [] = x := by rw [e]; exact getD_mid _ _ _ _
    rw [hg]
    unfold impl_GoodGraph_1.f
    refine Ev.bind (Ev.bind (risesIn_ev x n (hx x (by rw [e]; simp)) hn hn') (Ev.some rfl)) ?_
    rw [hp]
  · exact Ev.ite_pos rfl (Ev.some rfl)
  · refine Ev.ite_neg (by simp) ?_
    rw [wrap_succ (by omega)]
    exact ih
theorem iGoodGraph_ev (l : List (List Int)) (hl : l.length ≤ 1048576) (hx : ∀ x ∈ l, x.length ≤ 1048576) : Ev (fun k => impl_GoodGraph.f k l) (goodGraphB l) := by
  unfold impl_GoodGraph.f goodGraphB
  rw [within_eq]
  simp only [Option.bind_some]
  by_cases h : 1 ≤ l.length ∧ l.length ≤ 12
  · refine Ev.ite_pos (by simp; omega) (Ev.bind (goodIx_ev l l.length (by omega) (by omega) hl hx) (Ev.some ?_))
    rw [findIdx_any, decide_eq_true h, Bool.true_and, List.not_any_eq_all_not]
    simp
  · refine Ev.ite_neg (by simp; omega) (Ev.some ?_)
    rw [decide_eq_false h, Bool.false_and]
theorem sGoodRow_ev (l : List (List Int)) (n : Int) (g : List (List Int)) (m j : Int) (hn : 0 ≤ n) (hn' : n ≤ 1048576) (r : Bool) (x : List Int) (hl : x.length ≤ 1048576)
    (hnext : Ev (fun k => spec_GoodGraph.l0 k n g m (wrap64 (j + 1))) r) :
    Ev (fun k => spec_GoodGraph.l1 k n x g m j x (x.length : Int) 0) (risesL n [] x && r) := by
  refine Ev.rangeP x (fun k (_ : Unit) i => spec_GoodGraph.l1 k n x g m j x (x.length : Int) i) (fun _ p q => risesL n p q && r) (fun _ => ?_) (fun _ p y q e ih => ?_) ()
  · refine Ev.succ ?_
    simp only [spec_GoodGraph.l1]
    exact Ev.ite_neg (by omega) hnext
  · refine Ev.succ ?_
    simp only [spec_GoodGraph.l1]
    have hlen : p.length < x.length := by rw [e]; simp
    have hr : rd x (p.length : Int) = y := by rw [e]; exact rd_mid _ _ _
    refine Ev.ite_pos (by omega) (Ev.ite_pos (by omega) (Ev.ite_pos (by omega) ?_))
    rw [hr, risesL]
    by_cases h1 : y < 0
    · refine Ev.ite_pos h1 (Ev.some ?_)
      rw [decide_eq_false (by omega)]; rfl
    refine Ev.ite_neg h1 ?_
    by_cases h1' : y ≥ n
    · refine Ev.ite_pos h1' (Ev.some ?_)
      rw [decide_eq_false (by omega)]; rfl
    refine Ev.ite_neg h1' ?_
    rw [decide_eq_true (by omega), Bool.true_and, wrap_succ (by omega)]
    by_cases h2 : 0 < p.length
    · obtain ⟨z, hz, hrz⟩ := rd_before p q y h2
      rw [← e] at hrz
      rw [wrap64_id (by omega) (by omega), hrz, hz]
      refine Ev.ite_pos (by omega) (Ev.ite_pos (by omega) (Ev.ite_pos (by omega) ?_))
      by_cases h3 : z < y
      · refine Ev.ite_neg (by omega) ?_
        dsimp only
        rw [decide_eq_true h3, Bool.true_and]
        exact ih ()
      · refine Ev.ite_pos (by omega) (Ev.some ?_)
        dsimp only
        rw [decide_eq_false h3]; rfl
    · have hp : p = [] := List.eq_nil_of_length_eq_zero (by omega)
      subst hp
      refine Ev.ite_neg (by simp) ?_
      simpa using ih ()
theorem sGoodGraph_ev (l : List (List Int)) (hl : l.length ≤ 1048576) (hx : ∀ x ∈ l, x.length ≤ 1048576) : Ev (fun k => spec_GoodGraph.f k l) (goodGraphB l) := by
  unfold spec_GoodGraph.f goodGraphB
  have := Ev.rangeP l (fun k (_ : Unit) i => spec_GoodGraph.l0 k (l.length : Int) l (l.length : Int) i) (fun _ _ q => q.all (risesL l.length []) && decide (1 ≤ l.length ∧ l.length ≤ 12)) (fun _ => ?_) (fun _ p x q e ih => ?_) ()
  · rw [Bool.and_comm]; exact this
  · refine Ev.succ ?_
    simp only [spec_GoodGraph.l0]
    refine Ev.ite_neg (by omega) ?_
    rw [l1In_eq]
    simp only [Option.bind_some]
    refine Ev.some ?_
    rw [List.all_nil, Bool.true_and, Bool.eq_iff_iff]; simp only [decide_eq_true_eq]; omega
  · refine Ev.succ ?_
    simp only [spec_GoodGraph.l0]
    have hlen : p.length < l.length := by rw [e]; simp
    have hrd : rd_L1 l (p.length : Int) = x := by unfold rd_L1; rw [e]; exact getD_mid _ _ _ _
    refine Ev.ite_pos (by omega) (Ev.ite_pos (by omega) (Ev.ite_pos (by omega) ?_))
    rw [hrd]
    have h2 := sGoodRow_ev l l.length l l.length p.length (by omega) (by omega) _ x (hx x (by rw [e]; simp)) (by rw [wrap_succ (by omega)]; exact ih ())
    rw [List.all_cons, Bool.and_assoc]
    exact h2

/-- A graph whose goals lie in it. -/
structure GW (g : List (List Int)) : Prop where
  lo : 1 ≤ g.length
  hi : g.length ≤ 12
  row : ∀ r ∈ g, r.length ≤ 1048576
  inn : ∀ r ∈ g, ∀ x ∈ r, 0 ≤ x ∧ x < g.length
/-- A graph that is well made. -/
structure GG (g : List (List Int)) : Prop extends GW g where
  rise : ∀ r ∈ g, risesL g.length [] r = true
theorem risesL_in (n : Int) : ∀ (q p : List Int), risesL n p q = true → ∀ x ∈ q, 0 ≤ x ∧ x < n
  | [], _, _, _, hx => by simp at hx
  | y :: q, p, h, x, hx => by
    rw [risesL, Bool.and_eq_true, Bool.and_eq_true, decide_eq_true_iff] at h
    rcases List.mem_cons.1 hx with rfl | hx
    · omega
    · exact risesL_in n q _ h.2.2 x hx
theorem goodGraph_GG {g : List (List Int)} (h : goodGraphB g = true) (hx : ∀ x ∈ g, x.length ≤ 1048576) : GG g := by
  unfold goodGraphB at h
  rw [Bool.and_eq_true, decide_eq_true_iff, List.all_eq_true] at h
  exact ⟨⟨h.1.1, h.1.2, hx, fun r hr => risesL_in _ _ _ (h.2 r hr)⟩, fun r hr => h.2 r hr⟩
/-- Row x of g. -/
def rowG (g : List (List Int)) (x : Int) : List Int := g.getD x.toNat []
theorem rowG_mem {g : List (List Int)} {x : Int} (h0 : 0 ≤ x) (h1 : x < g.length) : rowG g x ∈ g := by
  unfold rowG
  rw [List.getD_eq_getElem?_getD, List.getElem?_eq_getElem (by omega)]
  exact List.getElem_mem _

def passRow (av : List Int) : List Int → List Int → List Int
  | s, [] => s
  | s, x :: q => passRow av (if x ∈ av ∨ x ∈ s then s else s ++ [x]) q
def walkG (g : List (List Int)) (av : List Int) : Nat → List Int → Nat → List Int
  | 0, s, _ => s
  | f + 1, s, i => if i < s.length then walkG g av f (passRow av s (rowG g (rd s i))) (i + 1) else s
theorem passRow_ok {n : Nat} (av : List Int) : ∀ (q s : List Int), OkS n s → (∀ x ∈ q, 0 ≤ x ∧ x < n) → OkS n (passRow av s q) ∧ s.length ≤ (passRow av s q).length
  | [], s, h, _ => ⟨h, Nat.le_refl _⟩
  | x :: q, s, h, hq => by
    rw [passRow]
    have hx := hq x (by simp)
    by_cases hc : x ∈ av ∨ x ∈ s
    · rw [if_pos hc]; exact passRow_ok av q s h (fun y hy => hq y (by simp [hy]))
    · rw [if_neg hc]
      have := passRow_ok av q (s ++ [x]) (h.snoc (fun e => hc (.inr e)) hx.1 hx.2) (fun y hy => hq y (by simp [hy]))
      simp only [List.length_append, List.length_singleton] at this
      exact ⟨this.1, by omega⟩
theorem walkG_ok {g : List (List Int)} (hg : GW g) (av : List Int) : ∀ (f : Nat) (s : List Int) (i : Nat), OkS g.length s → OkS g.length (walkG g av f s i)
  | 0, s, i, h => h
  | f + 1, s, i, h => by
    rw [walkG]
    by_cases hi : i < s.length
    · rw [if_pos hi]
      have hm := h.2 _ (rd_mem hi)
      exact walkG_ok hg av f _ _ (passRow_ok av _ _ h (hg.inn _ (rowG_mem hm.1 hm.2))).1
    · rw [if_neg hi]; exact h
/-- The marks of what lies in s. -/
def boolsG (n : Nat) (s : List Int) : List Bool := tab n (fun x => decide (x ∈ s))
theorem boolsG_rd {n : Nat} (s : List Int) {x : Int} (h0 : 0 ≤ x) (h1 : x < n) : rdOf false (boolsG n s) x = decide (x ∈ s) := tab_getD _ h0 h1 _
theorem boolsG_snoc (n : Nat) (s : List Int) {x : Int} (h0 : 0 ≤ x) : (boolsG n s).set x.toNat true = boolsG n (s ++ [x]) := by
  unfold boolsG
  rw [tab_set _ h0]
  refine tab_congr fun y _ _ => ?_
  by_cases h : y = x
  · rw [if_pos h]; simp [h]
  · rw [if_neg h]; simp [h]
theorem iPass_ev {g : List (List Int)} (hg : GW g) (av : List Int) (hl : av.length ≤ 1000) (row : List Int) (hrow : row.length ≤ 1048576) (hin : ∀ x ∈ row, 0 ≤ x ∧ x < g.length) (s : List Int) (hs : OkS g.length s) (i : Nat) (hi : i < s.length) {r : List Bool}
    (hnext : OkS g.length (passRow av s row) → s.length ≤ (passRow av s row).length → Ev (fun k => impl_reach.l0 k g av (boolsG g.length (passRow av s row)) ((passRow av s row).drop (i + 1))) r) :
    Ev (fun k => impl_reach.l1 k g av (boolsG g.length s) (s.drop i) row (row.length : Int) 0) r := by
  have main := Ev.rangeI row (fun k b j => impl_reach.l1 k g av (boolsG g.length b) (b.drop i) row (row.length : Int) j) (fun b p q => r) (fun b p => OkS g.length b ∧ s.length ≤ b.length ∧ ∀ q, row = p ++ q → passRow av s row = passRow av b q) (fun b hb => ?_) (fun b p x q e hb ih => ?_) s ⟨hs, Nat.le_refl _, fun q e => by rw [e]; rfl⟩
  · exact main
  · refine Ev.succ ?_
    simp only [impl_reach.l1]
    have := hb.2.2 [] (by simp)
    rw [passRow] at this
    rw [← this] at hb ⊢
    refine Ev.ite_neg (by omega) (Ev.ite_pos (by rw [List.length_drop]; omega) ?_)
    rw [List.drop_drop]
    exact hnext hb.1 hb.2.1
  · refine Ev.succ ?_
    simp only [impl_reach.l1]
    have hlen : p.length < row.length := by rw [e]; simp
    have hr : rd row (p.length : Int) = x := by rw [e]; exact rd_mid _ _ _
    have hx := hin x (by rw [e]; simp)
    have hle := hb.1.le
    have hhi := hg.hi
    refine Ev.ite_pos (by omega) (Ev.ite_pos (by omega) (Ev.ite_pos (by omega) ?_))
    rw [hr, wrap_succ (by omega)]
    have he := hb.2.2 (x :: q) e
    rw [passRow] at he
    refine Ev.ite_pos hx.1 (Ev.ite_pos (by unfold boolsG; rw [tab_length]; exact hx.2) ?_)
    rw [boolsG_rd b hx.1 hx.2]
    by_cases h2 : x ∈ b
    · refine Ev.ite_pos (by simpa using h2) (ih b ⟨hb.1, hb.2.1, fun q' e' => ?_⟩)
      rw [he, if_pos (.inr h2)]
      rw [e] at e'; simp at e'; rw [e']
    · refine Ev.ite_neg (by simpa using h2) (Ev.bind (contains_ev av x (by omega)) ?_)
      by_cases h1 : x ∈ av
      · refine Ev.ite_pos (by simpa using h1) (ih b ⟨hb.1, hb.2.1, fun q' e' => ?_⟩)
        rw [he, if_pos (.inl h1)]
        rw [e] at e'; simp at e'; rw [e']
      · have h3 : ¬ (x ∈ av ∨ x ∈ b) := fun h => h.elim h1 h2
        have h4 := ih (b ++ [x]) ⟨hb.1.snoc h2 hx.1 hx.2, by simp; omega, fun q' e' => by
          rw [he, if_neg h3]
          rw [e] at e'; simp at e'; rw [e']⟩
        refine Ev.ite_neg (by simpa using h1) (Ev.ite_pos (by rw [List.length_drop]; omega) ?_)
        rw [boolsG_snoc _ _ hx.1]
        rw [List.drop_append_of_le_length (by omega)] at h4
        exact h4
theorem iReach_l0 {g : List (List Int)} (hg : GW g) (av : List Int) (hl : av.length ≤ 1000) : ∀ (f : Nat) (s : List Int) (i : Nat), OkS g.length s → i ≤ s.length → i + f = g.length + 1 → Ev (fun k => impl_reach.l0 k g av (boolsG g.length s) (s.drop i)) (boolsG g.length (walkG g av f s i))
  | 0, s, i, h, hle, hi => by
    have := h.le
    omega
  | f + 1, s, i, h, hle, hi => by
    have := h.le
    have hhi := hg.hi
    refine Ev.succ ?_
    simp only [impl_reach.l0]
    rw [walkG]
    by_cases hc : i < s.length
    · rw [if_pos hc]
      have hm := h.2 _ (rd_mem hc)
      have hr := rowG_mem hm.1 hm.2
      have hd : rd (s.drop i) 0 = rd s i := by
        unfold rd
        simp [List.getD_eq_getElem?_getD, List.getElem?_drop]
      rw [hd]
      refine Ev.ite_pos (by rw [List.length_drop]; omega) (Ev.ite_pos (by rw [List.length_drop]; omega) (Ev.ite_pos hm.1 (Ev.ite_pos hm.2 ?_)))
      exact iPass_ev hg av hl (rowG g (rd s i)) (hg.row _ hr) (hg.inn _ hr) s h i hc fun h' hle' => iReach_l0 hg av hl f _ (i + 1) h' (by omega) (by omega)
    · rw [if_neg hc]
      exact Ev.ite_neg (by rw [List.length_drop]; omega) (Ev.some rfl)
theorem boolsG_nil (n : Nat) : List.replicate n false = boolsG n [] := by
  unfold boolsG
  rw [tab_rep]
  exact tab_congr fun x _ _ => by simp
/-- From any start, nothing left out. -/
theorem iReach1_ev {g : List (List Int)} (hg : GW g) (a : Int) (h0 : 0 ≤ a) (h1 : a < g.length) : Ev (fun k => impl_reach.f k g a []) (boolsG g.length (walkG g [] (g.length + 1) [a] 0)) := by
  have hhi := hg.hi
  unfold impl_reach.f
  refine Ev.ite_pos (by omega) (Ev.ite_pos (by omega) (Ev.bind (Ev.now _) (Ev.bind (contains_ev [] a (by simp)) ?_)))
  rw [Int.toNat_natCast, boolsG_nil]
  refine Ev.ite_neg (by simp) (Ev.ite_pos (by omega) (Ev.ite_pos (by unfold boolsG; rw [tab_length]; omega) ?_))
  rw [boolsG_snoc _ _ (by omega)]
  exact iReach_l0 hg [] (by simp) _ [a] 0 ⟨by simp, fun x hx => by rw [List.mem_singleton] at hx; omega⟩ (by simp) (by omega)

/-- What is reached from 0 by ways that leave out av. -/
def leftG (g : List (List Int)) (av : List Int) : List Int := if (0 : Int) ∈ av then [] else walkG g av (g.length + 1) [0] 0
theorem leftG_ok {g : List (List Int)} (hg : GG g) (av : List Int) : OkS g.length (leftG g av) := by
  have := hg.lo
  unfold leftG
  split
  · exact OkS.nil _
  · exact walkG_ok hg.toGW av _ _ _ ⟨by simp, fun x hx => by rw [List.mem_singleton] at hx; omega⟩
theorem sPass_ev {g : List (List Int)} (hg : GG g) (x1 : Int) (av : List Int) (hav : ∀ x, 0 ≤ x → (x = x1 ↔ x ∈ av)) (row : List Int) (hrow : row.length ≤ 1048576) (hin : ∀ x ∈ row, 0 ≤ x ∧ x < g.length) (s : List Int) (hs : OkS g.length s) (i : Int) {r : List Int}
    (hnext : OkS g.length (passRow av s row) → Ev (fun k => spec_l7Without.l0 k x1 (passRow av s row) (wrap64 (i + 1)) g) r) : Ev (fun k => spec_l7Without.l1 k x1 s i row (row.length : Int) 0 g) r := by
  have main := Ev.rangeI row (fun k s j => spec_l7Without.l1 k x1 s i row (row.length : Int) j g) (fun b p q => r) (fun b p => OkS g.length b ∧ ∀ q, row = p ++ q → passRow av s row = passRow av b q) (fun b hb => ?_) (fun b p x q e hb ih => ?_) s ⟨hs, fun q e => by rw [e]; rfl⟩
  · exact main
  · refine Ev.succ ?_
    simp only [spec_l7Without.l1]
    have := hb.2 [] (by simp)
    rw [passRow] at this
    rw [← this] at hb ⊢
    exact Ev.ite_neg (by omega) (hnext hb.1)
  · refine Ev.succ ?_
    simp only [spec_l7Without.l1]
    have hlen : p.length < row.length := by rw [e]; simp
    have hr : rd row (p.length : Int) = x := by rw [e]; exact rd_mid _ _ _
    have hx := hin x (by rw [e]; simp)
    have hle := hb.1.le
    have hhi := hg.hi
    refine Ev.ite_pos (by omega) (Ev.ite_pos (by omega) (Ev.ite_pos (by omega) ?_))
    rw [hr, wrap_succ (by omega)]
    have he := hb.2 (x :: q) e
    rw [passRow] at he
    by_cases h1 : x = x1
    · refine Ev.ite_pos h1 (ih b ⟨hb.1, fun q' e' => ?_⟩)
      rw [he, if_pos (.inl ((hav x hx.1).1 h1))]
      rw [e] at e'; simp at e'; rw [e']
    · refine Ev.ite_neg h1 (Ev.bind (l1Has_ev b x (by omega)) ?_)
      by_cases h2 : x ∈ b
      · refine Ev.ite_pos (by simpa using h2) (ih b ⟨hb.1, fun q' e' => ?_⟩)
        rw [he, if_pos (.inr h2)]
        rw [e] at e'; simp at e'; rw [e']
      · have h3 : ¬ (x ∈ av ∨ x ∈ b) := fun h => h.elim (fun h => h1 ((hav x hx.1).2 h)) h2
        refine Ev.ite_neg (by simpa using h2) (Ev.ite_pos (by omega) (ih (b ++ [x]) ⟨hb.1.snoc h2 hx.1 hx.2, fun q' e' => ?_⟩))
        rw [he, if_neg h3]
        rw [e] at e'; simp at e'; rw [e']
theorem sWithout_l0 {g : List (List Int)} (hg : GG g) (x1 : Int) (av : List Int) (hav : ∀ x, 0 ≤ x → (x = x1 ↔ x ∈ av)) : ∀ (f : Nat) (s : List Int) (i : Nat), OkS g.length s → i + f = g.length + 1 → Ev (fun k => spec_l7Without.l0 k x1 s (i : Int) g) (walkG g av f s i)
  | 0, s, i, h, hi => by
    have := h.le
    refine Ev.succ ?_
    simp only [spec_l7Without.l0]
    exact Ev.ite_neg (by omega) (Ev.some rfl)
  | f + 1, s, i, h, hi => by
    have := h.le
    have hhi := hg.hi
    refine Ev.succ ?_
    simp only [spec_l7Without.l0]
    rw [walkG]
    by_cases hc : i < s.length
    · rw [if_pos hc]
      have hm := h.2 _ (rd_mem hc)
      have hr := rowG_mem hm.1 hm.2
      refine Ev.ite_pos (by omega) (Ev.ite_pos (by omega) (Ev.ite_pos hm.1 (Ev.ite_pos hm.2 ?_)))
      refine sPass_ev hg x1 av hav (rowG g (rd s i)) (hg.row _ hr) (hg.inn _ hr) s h i fun h' => ?_
      rw [wrap_succ (by omega)]
      exact sWithout_l0 hg x1 av hav f _ (i + 1) h' (by omega)
    · rw [if_neg hc]
      exact Ev.ite_neg (by omega) (Ev.some rfl)
theorem sWithout_ev {g : List (List Int)} (hg : GG g) (x1 : Int) (av : List Int) (hav : ∀ x, 0 ≤ x → (x = x1 ↔ x ∈ av)) : Ev (fun k => spec_l7Without.f k g x1) (leftG g av) := by
  have hlo := hg.lo
  unfold spec_l7Without.f leftG
  by_cases h : x1 = 0
  · refine Ev.ite_pos h (Ev.some ?_)
    rw [if_pos ((hav 0 (by omega)).1 h.symm)]
  · rw [if_neg (fun e => h ((hav 0 (by omega)).2 e).symm)]
    exact Ev.ite_neg h (sWithout_l0 hg x1 av hav _ [0] 0 ⟨by simp, fun x hx => by rw [List.mem_singleton] at hx; omega⟩ (by omega))
theorem iReach_ev {g : List (List Int)} (hg : GG g) (av : List Int) (hl : av.length ≤ 1000) : Ev (fun k => impl_reach.f k g 0 av) (boolsG g.length (leftG g av)) := by
  have hlo := hg.lo
  have hhi := hg.hi
  unfold impl_reach.f leftG
  refine Ev.ite_pos (by omega) (Ev.ite_pos (by omega) (Ev.bind (Ev.now _) (Ev.bind (contains_ev av 0 (by omega)) ?_)))
  rw [Int.toNat_natCast]
  rw [boolsG_nil]
  by_cases h : (0 : Int) ∈ av
  · rw [if_pos h]
    exact Ev.ite_pos (by simpa using h) (Ev.some rfl)
  · rw [if_neg h]
    refine Ev.ite_neg (by simpa using h) (Ev.ite_pos (by omega) (Ev.ite_pos (by unfold boolsG; rw [tab_length]; omega) ?_))
    rw [boolsG_snoc _ _ (by omega)]
    exact iReach_l0 hg.toGW av hl _ [0] 0 ⟨by simp, fun x hx => by rw [List.mem_singleton] at hx; omega⟩ (by simp) (by omega)

/-- A way along a relation. -/
inductive Star (R : Int → Int → Prop) : Int → Int → Prop
  | refl (a : Int) : Star R a a
  | step {a b c : Int} : R a b → Star R b c → Star R a c
theorem Star.snoc {R : Int → Int → Prop} {a b c : Int} (h : Star R a b) (hr : R b c) : Star R a c := by
  induction h with
  | refl a => exact .step hr (.refl _)
  | step h1 _ ih => exact .step h1 (ih hr)
theorem Star.trans {R : Int → Int → Prop} {a b c : Int} (h : Star R a b) (h2 : Star R b c) : Star R a c := by
  induction h with
  | refl a => exact h2
  | step h1 _ ih => exact .step h1 (ih h2)
/-- One edge that leaves out av. -/
def stepG (g : List (List Int)) (av : List Int) (y x : Int) : Prop := x ∈ rowG g y ∧ x ∉ av
theorem passRow_tail (av : List Int) : ∀ q s : List Int, ∃ t, passRow av s q = s ++ t
  | [], s => ⟨[], by simp [passRow]⟩
  | x :: q, s => by
    rw [passRow]
    by_cases h : x ∈ av ∨ x ∈ s
    · rw [if_pos h]; exact passRow_tail av q s
    · rw [if_neg h]
      obtain ⟨t, ht⟩ := passRow_tail av q (s ++ [x])
      exact ⟨x :: t, by rw [ht]; simp⟩
theorem passRow_mem (av : List Int) (y : Int) : ∀ q s : List Int, y ∈ passRow av s q ↔ y ∈ s ∨ (y ∈ q ∧ y ∉ av)
  | [], s => by simp [passRow]
  | x :: q, s => by
    rw [passRow, passRow_mem av y q]
    by_cases h : x ∈ av ∨ x ∈ s
    · rw [if_pos h]
      constructor
      · rintro (h1 | h1)
        · exact .inl h1
        · exact .inr ⟨by simp [h1.1], h1.2⟩
      · rintro (h1 | ⟨h1, h2⟩)
        · exact .inl h1
        · rcases List.mem_cons.1 h1 with rfl | h1
          · exact .inl (h.resolve_left h2)
          · exact .inr ⟨h1, h2⟩
    · rw [if_neg h]
      constructor
      · rintro (h1 | h1)
        · rcases List.mem_append.1 h1 with h1 | h1
          · exact .inl h1
          · rw [List.mem_singleton] at h1
            subst h1
            exact .inr ⟨by simp, fun e => h (.inl e)⟩
        · exact .inr ⟨by simp [h1.1], h1.2⟩
      · rintro (h1 | ⟨h1, h2⟩)
        · exact .inl (by simp [h1])
        · rcases List.mem_cons.1 h1 with rfl | h1
          · exact .inl (by simp)
          · exact .inr ⟨h1, h2⟩
theorem walkG_sup (g : List (List Int)) (av : List Int) : ∀ (f : Nat) (s : List Int) (i : Nat), ∀ y ∈ s, y ∈ walkG g av f s i
  | 0, s, i, y, hy => hy
  | f + 1, s, i, y, hy => by
    rw [walkG]
    split
    · exact walkG_sup g av f _ _ y ((passRow_mem av y _ s).2 (.inl hy))
    · exact hy
theorem walkG_sound (g : List (List Int)) (av : List Int) (a : Int) : ∀ (f : Nat) (s : List Int) (i : Nat), (∀ y ∈ s, Star (stepG g av) a y) → ∀ y ∈ walkG g av f s i, Star (stepG g av) a y
  | 0, s, i, h, y, hy => h y hy
  | f + 1, s, i, h, y, hy => by
    rw [walkG] at hy
    split at hy
    · rename_i hi
      refine walkG_sound g av a f _ _ (fun z hz => ?_) y hy
      rcases (passRow_mem av z _ s).1 hz with hz | hz
      · exact h z hz
      · exact (h _ (rd_mem hi)).snoc hz
    · exact h y hy
theorem rd_app {s : List Int} (t : List Int) {j : Nat} (h : j < s.length) : rd (s ++ t) (j : Int) = rd s j := by
  unfold rd
  rw [Int.toNat_natCast, List.getD_eq_getElem?_getD, List.getD_eq_getElem?_getD, List.getElem?_append_left h]
theorem rd_of_mem {s : List Int} {y : Int} (h : y ∈ s) : ∃ j : Nat, j < s.length ∧ rd s (j : Int) = y := by
  obtain ⟨j, hj, rfl⟩ := List.mem_iff_getElem.1 h
  exact ⟨j, hj, by unfold rd; rw [Int.toNat_natCast, List.getD_eq_getElem?_getD, List.getElem?_eq_getElem hj]; rfl⟩
theorem walkG_closed {g : List (List Int)} (hg : GW g) (av : List Int) : ∀ (f : Nat) (s : List Int) (i : Nat), OkS g.length s → i + f = g.length + 1 → (∀ j : Nat, j < i → j < s.length → ∀ x, stepG g av (rd s j) x → x ∈ s) →
    ∀ y ∈ walkG g av f s i, ∀ x, stepG g av y x → x ∈ walkG g av f s i
  | 0, s, i, h, hi, hc, y, hy, x, hx => by
    have := h.le
    rw [walkG] at hy ⊢
    obtain ⟨j, hj, rfl⟩ := rd_of_mem hy
    exact hc j (by omega) hj x hx
  | f + 1, s, i, h, hi, hc, y, hy, x, hx => by
    rw [walkG] at hy ⊢
    by_cases h1 : i < s.length
    · rw [if_pos h1] at hy ⊢
      have hm := h.2 _ (rd_mem h1)
      refine walkG_closed hg av f _ (i + 1) (passRow_ok av _ _ h (hg.inn _ (rowG_mem hm.1 hm.2))).1 (by omega) (fun j hj hj2 z hz => ?_) y hy x hx
      obtain ⟨t, ht⟩ := passRow_tail av (rowG g (rd s i)) s
      have hjs : j < s.length := by omega
      rw [ht, rd_app t hjs] at hz
      by_cases h2 : j < i
      · exact (passRow_mem av z _ s).2 (.inl (hc j h2 hjs z hz))
      · have : j = i := by omega
        subst this
        exact (passRow_mem av z _ s).2 (.inr hz)
    · rw [if_neg h1] at hy ⊢
      obtain ⟨j, hj, rfl⟩ := rd_of_mem hy
      exact hc j (by omega) hj x hx
/-- What the walk from a comes to. -/
theorem walkG_iff {g : List (List Int)} (hg : GW g) (av : List Int) {a : Int} (h0 : 0 ≤ a) (h1 : a < g.length) (y : Int) : y ∈ walkG g av (g.length + 1) [a] 0 ↔ Star (stepG g av) a y := by
  have hok : OkS g.length [a] := ⟨by simp, fun x hx => by rw [List.mem_singleton] at hx; omega⟩
  constructor
  · refine walkG_sound g av a _ [a] 0 (fun z hz => ?_) y
    rw [List.mem_singleton] at hz
    subst hz
    exact .refl _
  · intro h
    have main : ∀ b c, Star (stepG g av) b c → b ∈ walkG g av (g.length + 1) [a] 0 → c ∈ walkG g av (g.length + 1) [a] 0 := by
      intro b c h
      induction h with
      | refl b => exact fun h => h
      | step h1 _ ih => exact fun hb => ih (walkG_closed hg av _ [a] 0 hok (by omega) (fun j hj => by omega) _ hb _ h1)
    exact main a y h (walkG_sup g av _ [a] 0 a (by simp))
theorem leftG_iff {g : List (List Int)} (hg : GG g) {av : List Int} (h : (0 : Int) ∉ av) (y : Int) : y ∈ leftG g av ↔ Star (stepG g av) 0 y := by
  have := hg.lo
  unfold leftG
  rw [if_neg h]
  exact walkG_iff hg.toGW av (by omega) (by omega) y

theorem risesL_pair (n : Int) : ∀ (q p : List Int), risesL n p q = true → (∀ y, p.getLast? = some y → ∀ x ∈ q, y < x) ∧ q.Pairwise (· < ·)
  | [], _, _ => by simp
  | z :: q, p, h => by
    rw [risesL, Bool.and_eq_true, Bool.and_eq_true] at h
    have ih := risesL_pair n q (p ++ [z]) h.2.2
    have hz := ih.1 z (by simp)
    refine ⟨fun y hy x hx => ?_, List.pairwise_cons.2 ⟨hz, ih.2⟩⟩
    have h2 := h.2.1
    rw [hy] at h2
    have h3 : y < z := by simpa using h2
    rcases List.mem_cons.1 hx with rfl | hx
    · exact h3
    · have := hz x hx; omega
theorem rise_nodup {q : List Int} (h : q.Pairwise (· < ·)) : q.Nodup := h.imp (fun hab e => by omega)
theorem GG.ok {g : List (List Int)} (hg : GG g) {r : List Int} (hr : r ∈ g) : OkS g.length r := ⟨rise_nodup (risesL_pair _ r [] (hg.rise r hr)).2, hg.inn r hr⟩

theorem l1Put_at (p q : List Int) (x : Int) (hl : (p ++ q).length ≤ 1000) (hp : ∀ y ∈ p, y < x) {r : List Int} (h : Ev (fun k => spec_l1Put.l0 k (p ++ q) x (p.length : Int)) r) : Ev (fun k => spec_l1Put.f k (p ++ q) x) r := by
  unfold spec_l1Put.f
  refine Ev.rangeP p (fun k (_ : Unit) i => spec_l1Put.l0 k (p ++ q) x i) (fun _ _ _ => r) (fun _ => h) (fun _ p' y q' e ih => ?_) ()
  refine Ev.succ ?_
  simp only [spec_l1Put.l0]
  have hlen : p'.length < p.length := by rw [e]; simp
  have hlen2 : (p ++ q).length = p.length + q.length := by simp
  have hr : rd (p ++ q) (p'.length : Int) = y := by rw [e, List.append_assoc]; exact rd_mid _ _ _
  have hy := hp y (by rw [e]; simp)
  refine Ev.ite_pos (by omega) (Ev.ite_pos (by omega) (Ev.ite_pos (by omega) ?_))
  rw [wrap_succ (by omega)]
  exact ih ()
theorem l1Put_same (p q : List Int) (x : Int) (hl : (p ++ x :: q).length ≤ 1000) (hp : ∀ y ∈ p, y < x) : Ev (fun k => spec_l1Put.f k (p ++ x :: q) x) (p ++ x :: q) := by
  refine l1Put_at p (x :: q) x hl hp (Ev.succ ?_)
  simp only [spec_l1Put.l0]
  have hlen2 : (p ++ x :: q).length = p.length + q.length + 1 := by simp; omega
  have hr : rd (p ++ x :: q) (p.length : Int) = x := rd_mid _ _ _
  exact Ev.ite_pos (by omega) (Ev.ite_pos (by omega) (Ev.ite_neg (by omega) (Ev.ite_pos hr (Ev.some rfl))))
theorem l1Put_new (p q : List Int) (x : Int) (hl : (p ++ q).length ≤ 1000) (hp : ∀ y ∈ p, y < x) (hq : ∀ y ∈ q, x < y) : Ev (fun k => spec_l1Put.f k (p ++ q) x) (p ++ x :: q) := by
  refine l1Put_at p q x hl hp (Ev.succ ?_)
  simp only [spec_l1Put.l0]
  have hlen2 : (p ++ q).length = p.length + q.length := by simp
  cases q with
  | nil =>
    rw [List.append_nil] at *
    refine Ev.ite_neg (by omega) (Ev.ite_pos (by omega) (Ev.ite_pos (by omega) ?_))
    rw [Int.toNat_natCast, List.take_length, List.drop_length]
    refine Ev.bind (Ev.now _) (Ev.ite_pos (by simp; omega) (Ev.bind (Ev.now _) (Ev.ite_pos (by simp; omega) (Ev.bind (Ev.now _) (Ev.bind (Ev.now _) (Ev.ite_pos (by simp; omega) (Ev.some ?_)))))))
    simp
  | cons y q =>
    have hr : rd (p ++ y :: q) (p.length : Int) = y := rd_mid _ _ _
    have hy := hq y (by simp)
    have hlen3 : (y :: q).length = q.length + 1 := rfl
    refine Ev.ite_pos (by omega) (Ev.ite_pos (by omega) (Ev.ite_neg (by omega) (Ev.ite_neg (by omega) (Ev.ite_pos (by omega) ?_))))
    rw [Int.toNat_natCast, List.take_left, List.drop_left]
    refine Ev.bind (Ev.now _) (Ev.ite_pos (by simp; omega) (Ev.bind (Ev.now _) (Ev.ite_pos (by simp; omega) (Ev.bind (Ev.now _) (Ev.bind (Ev.now _) (Ev.ite_pos (by have h9 := hl; simp at h9 ⊢; omega) (Ev.some ?_)))))))
    simp
/-- What lies in s, of the numbers below n, rising. -/
def srt (n : Nat) (s : List Int) : List Int := (upto n).filter (fun x => decide (x ∈ s))
theorem srt_mem {n : Nat} {s : List Int} {x : Int} : x ∈ srt n s ↔ (0 ≤ x ∧ x < n) ∧ x ∈ s := by
  rw [srt, List.mem_filter, upto_mem, decide_eq_true_iff]
theorem srt_len (n : Nat) (s : List Int) : (srt n s).length ≤ n := by
  have := List.length_filter_le (fun x => decide (x ∈ s)) (upto n)
  rw [upto_length] at this
  exact this
theorem srt_congr {n : Nat} {s : List Int} {B : Int → Bool} (h : ∀ x : Int, 0 ≤ x → x < n → (x ∈ s ↔ B x = true)) : srt n s = (upto n).filter B := by
  unfold srt
  refine List.filter_congr fun x hx => ?_
  have := upto_mem.1 hx
  rw [Bool.eq_iff_iff, decide_eq_true_iff]
  exact h x this.1 this.2
theorem upto_split {n m : Nat} (h : m < n) : ∃ t, upto n = upto m ++ (m : Int) :: t ∧ ∀ y ∈ t, (m : Int) < y := by
  induction n with
  | zero => omega
  | succ n ih =>
    by_cases e : m = n
    · subst e
      exact ⟨[], by rw [upto_succ], by simp⟩
    · obtain ⟨t, ht, hy⟩ := ih (by omega)
      refine ⟨t ++ [(n : Int)], by rw [upto_succ, ht]; simp, fun y hy' => ?_⟩
      rcases List.mem_append.1 hy' with h' | h'
      · exact hy y h'
      · rw [List.mem_singleton] at h'; omega
theorem l1Put_srt (n : Nat) (hn : n ≤ 1000) (s : List Int) (x : Int) (h0 : 0 ≤ x) (h1 : x < n) : Ev (fun k => spec_l1Put.f k (srt n s) x) (srt n (s ++ [x])) := by
  obtain ⟨m, rfl⟩ : ∃ m : Nat, x = m := ⟨x.toNat, by omega⟩
  obtain ⟨t, ht, hy⟩ := upto_split (n := n) (m := m) (by omega)
  have hlen := srt_len n s
  have hlt : ∀ y ∈ (upto m).filter (fun x => decide (x ∈ s)), y < (m : Int) := fun y hy => (upto_mem.1 (List.mem_filter.1 hy).1).2
  have hgt : ∀ y ∈ t.filter (fun x => decide (x ∈ s)), (m : Int) < y := fun y hy' => hy y (List.mem_filter.1 hy').1
  have e1 : (upto m).filter (fun x => decide (x ∈ s ++ [(m : Int)])) = (upto m).filter (fun x => decide (x ∈ s)) := List.filter_congr fun y hy' => by
    have := (upto_mem.1 hy').2
    rw [Bool.eq_iff_iff, decide_eq_true_iff, decide_eq_true_iff, List.mem_append, List.mem_singleton]
    exact ⟨fun h => h.elim id (fun e => by omega), .inl⟩
  have e2 : t.filter (fun x => decide (x ∈ s ++ [(m : Int)])) = t.filter (fun x => decide (x ∈ s)) := List.filter_congr fun y hy' => by
    have := hy y hy'
    rw [Bool.eq_iff_iff, decide_eq_true_iff, decide_eq_true_iff, List.mem_append, List.mem_singleton]
    exact ⟨fun h => h.elim id (fun e => by omega), .inl⟩
  have e3 : srt n (s ++ [(m : Int)]) = (upto m).filter (fun x => decide (x ∈ s)) ++ (m : Int) :: t.filter (fun x => decide (x ∈ s)) := by
    unfold srt
    rw [ht, List.filter_append, List.filter_cons_of_pos (by simp), e1, e2]
  by_cases hm : (m : Int) ∈ s
  · have e4 : srt n s = (upto m).filter (fun x => decide (x ∈ s)) ++ (m : Int) :: t.filter (fun x => decide (x ∈ s)) := by
      unfold srt
      rw [ht, List.filter_append, List.filter_cons_of_pos (by simpa using hm)]
    rw [e3, e4]
    exact l1Put_same _ _ _ (by rw [← e4]; omega) hlt
  · have e4 : srt n s = (upto m).filter (fun x => decide (x ∈ s)) ++ t.filter (fun x => decide (x ∈ s)) := by
      unfold srt
      rw [ht, List.filter_append, List.filter_cons_of_neg (by simpa using hm)]
    rw [e3, e4]
    exact l1Put_new _ _ _ (by rw [← e4]; omega) hlt hgt
theorem srt_add (n : Nat) (s : List Int) (x : Int) (h0 : 0 ≤ x) (h1 : x < n) (hx : x ∉ s) : (srt n (s ++ [x])).length = (srt n s).length + 1 := by
  obtain ⟨m, rfl⟩ : ∃ m : Nat, x = m := ⟨x.toNat, by omega⟩
  obtain ⟨t, ht, hy⟩ := upto_split (n := n) (m := m) (by omega)
  have e1 : (upto m).filter (fun x => decide (x ∈ s ++ [(m : Int)])) = (upto m).filter (fun x => decide (x ∈ s)) := List.filter_congr fun y hy' => by
    have := (upto_mem.1 hy').2
    rw [Bool.eq_iff_iff, decide_eq_true_iff, decide_eq_true_iff, List.mem_append, List.mem_singleton]
    exact ⟨fun h => h.elim id (fun e => by omega), .inl⟩
  have e2 : t.filter (fun x => decide (x ∈ s ++ [(m : Int)])) = t.filter (fun x => decide (x ∈ s)) := List.filter_congr fun y hy' => by
    have := hy y hy'
    rw [Bool.eq_iff_iff, decide_eq_true_iff, decide_eq_true_iff, List.mem_append, List.mem_singleton]
    exact ⟨fun h => h.elim id (fun e => by omega), .inl⟩
  unfold srt
  rw [ht, List.filter_append, List.filter_append, List.filter_cons_of_pos (by simp), List.filter_cons_of_neg (by simpa using hx), e1, e2]
  simp only [List.length_append, List.length_cons]
  omega
theorem srt_one (n : Nat) (x : Int) (h0 : 0 ≤ x) (h1 : x < n) : [x] = srt n [x] := by
  obtain ⟨m, rfl⟩ : ∃ m : Nat, x = m := ⟨x.toNat, by omega⟩
  obtain ⟨t, ht, hy⟩ := upto_split (n := n) (m := m) (by omega)
  unfold srt
  rw [ht, List.filter_append, List.filter_cons_of_pos (by simp)]
  have e1 : (upto m).filter (fun x => decide (x ∈ [(m : Int)])) = [] := List.filter_eq_nil_iff.2 fun y hy' => by
    have := (upto_mem.1 hy').2
    simp; omega
  have e2 : t.filter (fun x => decide (x ∈ [(m : Int)])) = [] := List.filter_eq_nil_iff.2 fun y hy' => by
    have := hy y hy'
    simp; omega
  rw [e1, e2, List.nil_append]

theorem drop_l0 (x : Int) (l : List Int) (hl : l.length ≤ 1000) : ∀ (q p acc : List Int), l = p ++ q → acc.length ≤ p.length → Ev (fun k => spec_l6Drop.l0 k x acc l (l.length : Int) (p.length : Int)) (acc ++ q.filter (fun y => decide (y ≠ x)))
  | [], p, acc, e, ha => by
    refine Ev.succ ?_
    simp only [spec_l6Drop.l0]
    exact Ev.ite_neg (by rw [e]; simp) (Ev.some (by simp))
  | y :: q, p, acc, e, ha => by
    have ih := drop_l0 x l hl q (p ++ [y])
    have hlen : p.length < l.length := by rw [e]; simp
    refine Ev.succ ?_
    simp only [spec_l6Drop.l0]
    refine Ev.ite_pos (by omega) (Ev.ite_pos (by omega) (Ev.ite_pos (by omega) ?_))
    rw [show rd l (p.length : Int) = y by rw [e]; exact rd_mid _ _ _, wrap_succ (by omega)]
    simp only [List.length_append, List.length_singleton] at ih
    by_cases h : y = x
    · refine Ev.ite_pos h ?_
      rw [List.filter_cons, if_neg (by simpa using h)]
      exact ih acc (by rw [e]; simp) (by omega)
    · refine Ev.ite_neg h (Ev.ite_pos (by omega) ?_)
      rw [List.filter_cons, if_pos (by simpa using h)]
      have h2 := ih (acc ++ [y]) (by rw [e]; simp) (by simp; omega)
      simpa using h2
theorem drop_ev (x : Int) (l : List Int) (hl : l.length ≤ 1000) : Ev (fun k => spec_l6Drop.f k l x) (l.filter (fun y => decide (y ≠ x))) := by
  unfold spec_l6Drop.f
  exact drop_l0 x l hl l [] [] rfl (by simp)

theorem rise_ext : ∀ (a b : List Int), a.Pairwise (· < ·) → b.Pairwise (· < ·) → (∀ x, x ∈ a ↔ x ∈ b) → a = b
  | [], [], _, _, _ => rfl
  | [], y :: b, _, _, h => absurd ((h y).2 (by simp)) (by simp)
  | x :: a, [], _, _, h => absurd ((h x).1 (by simp)) (by simp)
  | x :: a, y :: b, ha, hb, h => by
    rw [List.pairwise_cons] at ha hb
    have hxy : x = y := by
      rcases List.mem_cons.1 ((h x).1 (by simp)) with e | e
      · exact e
      rcases List.mem_cons.1 ((h y).2 (by simp)) with e' | e'
      · exact e'.symm
      have h1 := hb.1 x e
      have h2 := ha.1 y e'
      omega
    subst hxy
    congr 1
    refine rise_ext a b ha.2 hb.2 fun z => ?_
    constructor
    · intro hz
      rcases List.mem_cons.1 ((h z).1 (List.mem_cons_of_mem _ hz)) with e | e
      · subst e; have := ha.1 z hz; omega
      · exact e
    · intro hz
      rcases List.mem_cons.1 ((h z).2 (List.mem_cons_of_mem _ hz)) with e | e
      · subst e; have := hb.1 z hz; omega
      · exact e
theorem upto_rise (n : Nat) : (upto n).Pairwise (· < ·) := by
  induction n with
  | zero => exact List.Pairwise.nil
  | succ n ih =>
    rw [upto_succ, List.pairwise_append]
    refine ⟨ih, by simp, fun a ha b hb => ?_⟩
    rw [List.mem_singleton] at hb
    have := (upto_mem.1 ha).2
    omega

theorem srt_rise0 {n : Nat} {s : List Int} (hp : s.Pairwise (· < ·)) (h : ∀ x ∈ s, 0 ≤ x ∧ x < n) : srt n s = s :=
  rise_ext _ _ ((upto_rise n).filter _) hp (fun x => by rw [srt_mem]; exact ⟨fun q => q.2, fun q => ⟨h x q, q⟩⟩)
theorem upto_filter_mem {n : Nat} {B : Int → Bool} {x : Int} : x ∈ (upto n).filter B ↔ (0 ≤ x ∧ x < n) ∧ B x = true := by rw [List.mem_filter, upto_mem]
theorem srt_filter (n : Nat) (B : Int → Bool) : srt n ((upto n).filter B) = (upto n).filter B := srt_congr fun x h0 h1 => by rw [upto_filter_mem]; exact ⟨fun h => h.2, fun h => ⟨⟨h0, h1⟩, h⟩⟩
theorem filter_ok (n : Nat) (B : Int → Bool) : OkS n ((upto n).filter B) := ⟨(upto_nodup n).filter _, fun x hx => (upto_filter_mem.1 hx).1⟩
/-- How the reference's lists tell a graph. -/
structure SpS (n : Nat) (S : G2) (L : List Int) (x : List (List Int)) : Prop where
  hn : n ≤ 12
  len : x.length = n
  ok : OkS n L
  mem : ∀ a, S.L a = true ↔ a ∈ L
  row : ∀ a ∈ L, x.getD a.toNat [] = (upto n).filter (S.E a)
/-- The rows are put together. -/
theorem sPut_ev {n : Nat} (hn : n ≤ 12) {L : List Int} {x : List (List Int)} {m p : Int} {l row : List Int} (hrow : row.length ≤ 1000) (hin : ∀ z ∈ row, 0 ≤ z ∧ z < n) {r : Int} {y : List Int} (hy : Ev (fun k => spec_l6Drop.f k (srt n (l ++ row)) p) y)
    (hnext : Ev (fun k => (spec_l6Drop.f k L m).bind fun L2 => (spec_l7Limit.l1 k L2 (x.set p.toNat y) true)) r) :
    Ev (fun k => spec_l7Limit.l4 k L x m p (srt n l) row 0) r := by
  have main := Ev.rangeI row (fun k b j => spec_l7Limit.l4 k L x m p b row j) (fun _ _ _ => r) (fun b p' => b = srt n (l ++ p')) (fun b hb => ?_) (fun b p' z q e hb ih => ?_) (srt n l) (by simp)
  · exact main
  · refine Ev.succ ?_
    simp only [spec_l7Limit.l4]
    subst hb
    exact Ev.ite_neg (by omega) (Ev.bind hy hnext)
  · refine Ev.succ ?_
    simp only [spec_l7Limit.l4]
    have hlen : p'.length < row.length := by rw [e]; simp
    have hr : rd row (p'.length : Int) = z := by rw [e]; exact rd_mid _ _ _
    have hz := hin z (by rw [e]; simp)
    refine Ev.ite_pos (by omega) (Ev.ite_pos (by omega) ?_)
    rw [hr, wrap_succ (by omega), hb]
    refine Ev.bind (l1Put_srt n (by omega) _ z hz.1 hz.2) (ih _ ?_)
    rw [List.append_assoc]
theorem len1 {l : List Int} {q : Int} (hn : l.Nodup) (hq : q ∈ l) (h : ∀ y ∈ l, y = q) : l.length = 1 := by
  have h1 := nodup_le l [q] hn (fun y hy => by rw [h y hy]; simp)
  have h2 : 0 < l.length := List.length_pos_of_mem hq
  simp only [List.length_cons, List.length_nil] at h1
  omega
theorem one_of_len {l : List Int} (h : l.length = 1) : l = [rd l 0] := by
  match l, h with
  | [a], _ => rfl
theorem SpS.step {n : Nat} {S : G2} {L : List Int} {x : List (List Int)} (hS : S.ok) (h : SpS n S L x) {k p : Int} (hc : S.can k p) :
    SpS n (S.t2 k p) (L.filter (fun y => decide (y ≠ k))) (x.set p.toNat ((srt n ((((upto n).filter (S.E p)).filter (fun y => decide (y ≠ k))) ++ (upto n).filter (S.E k))).filter (fun y => decide (y ≠ p)))) := by
  obtain ⟨h1, h2, h3⟩ := G2.can_ne hS hc
  have hp := h.ok.2 p ((h.mem p).1 h3)
  have hlen := h.len
  refine ⟨h.hn, by rw [List.length_set]; exact h.len, ⟨h.ok.1.filter _, fun y hy => h.ok.2 y (List.mem_filter.1 hy).1⟩, fun a => ?_, fun a ha => ?_⟩
  · rw [G2.t2_L, List.mem_filter, h.mem, decide_eq_true_iff]
  · rw [List.mem_filter, decide_eq_true_iff] at ha
    have han := h.ok.2 a ha.1
    by_cases hap : a = p
    · subst hap
      rw [List.getD_eq_getElem?_getD, List.getElem?_set, if_pos rfl, if_pos (by omega), Option.getD_some]
      refine rise_ext _ _ (((upto_rise n).filter _).filter _) ((upto_rise n).filter _) fun y => ?_
      rw [List.mem_filter, srt_mem, List.mem_append, List.mem_filter, upto_filter_mem, upto_filter_mem, upto_filter_mem, decide_eq_true_iff, decide_eq_true_iff, G2.t2_E]
      have := hS k y
      constructor
      · rintro ⟨⟨hy, h4 | h4⟩, h5⟩
        · exact ⟨hy, .inl h4.1.2, ha.2, h4.2, fun e => h5 e.symm⟩
        · exact ⟨hy, .inr ⟨rfl, h4.2⟩, ha.2, fun e => (this h4.2).2.2 e.symm, fun e => h5 e.symm⟩
      · rintro ⟨hy, h4 | h4, h5, h6, h7⟩
        · exact ⟨⟨hy, .inl ⟨⟨hy, h4⟩, h6⟩⟩, fun e => h7 e.symm⟩
        · exact ⟨⟨hy, .inr ⟨hy, h4.2⟩⟩, fun e => h7 e.symm⟩
    · rw [List.getD_eq_getElem?_getD, List.getElem?_set, if_neg (by omega), ← List.getD_eq_getElem?_getD, h.row a ha.1]
      refine List.filter_congr fun y hy => ?_
      rw [Bool.eq_iff_iff, G2.t2_E]
      constructor
      · exact fun h4 => ⟨.inl h4, ha.2, fun e => hap (hc.2.2 a (e ▸ h4)), (hS a y h4).2.2⟩
      · rintro ⟨h4 | h4, _⟩
        · exact h4
        · exact absurd h4.1 hap
/-- The reference comes to an end. -/
theorem sLimit_ev (n : Nat) : ∀ (c : Nat) (S : G2) (L : List Int) (x : List (List Int)), L.length ≤ c → S.ok → S.all → SpS n S L x → ∃ j, G2.red j S ∧ j ≤ L.length ∧ Ev (fun k => spec_l7Limit.l1 k L x true) ((L.length : Int) - j) := by
  intro c
  induction c with
  | zero =>
    intro S L x hc hS hA h
    have hL : L = [] := List.eq_nil_of_length_eq_zero (by omega)
    subst hL
    refine ⟨0, .stop fun k p hk => ?_, Nat.le_refl _, ?_⟩
    · have := (h.mem k).1 (G2.can_ne hS hk).2.1
      simp at this
    · refine Ev.succ ?_
      simp only [spec_l7Limit.l1]
      refine Ev.ite_pos trivial (Ev.succ ?_)
      simp only [spec_l7Limit.l2]
      refine Ev.ite_neg (by simp) (Ev.succ ?_)
      simp only [spec_l7Limit.l1]
      exact Ev.ite_neg (by simp) (Ev.some (by simp))
  | succ c IH =>
    intro S L x hc hS hA h
    have hle := h.ok.le
    have hn := h.hn
    have hxl := h.len
    suffices hloop : ∀ (q p : List Int), L = p ++ q → (∀ m ∈ p, ∀ z, ¬ S.can m z) → ∃ j, G2.red j S ∧ j ≤ L.length ∧ Ev (fun k => spec_l7Limit.l2 k L x (p.length : Int)) ((L.length : Int) - j) by
      obtain ⟨j, h1, h2, h3⟩ := hloop L [] rfl (by simp)
      refine ⟨j, h1, h2, Ev.succ ?_⟩
      simp only [spec_l7Limit.l1]
      exact Ev.ite_pos trivial h3
    intro q
    induction q with
    | nil =>
      intro p e hp
      rw [List.append_nil] at e
      subst e
      refine ⟨0, .stop fun k z hk => hp k ((h.mem k).1 (G2.can_ne hS hk).2.1) z hk, Nat.zero_le _, Ev.succ ?_⟩
      simp only [spec_l7Limit.l2]
      refine Ev.ite_neg (by omega) (Ev.succ ?_)
      simp only [spec_l7Limit.l1]
      exact Ev.ite_neg (by simp) (Ev.some (by simp))
    | cons m q ih =>
      intro p e hp
      have hlen : p.length < L.length := by rw [e]; simp
      have hrd : rd L (p.length : Int) = m := by rw [e]; exact rd_mid _ _ _
      have hm : m ∈ L := by rw [e]; simp
      have hmn := h.ok.2 m hm
      have e3 : (((p ++ [m]).length : Nat) : Int) = (p.length : Int) + 1 := by simp
      -- who leads to m
      have hfr : ∀ {r : Int}, Ev (fun k => (if m = 0 then (spec_l7Limit.l2 k L x ((p.length : Int) + 1)) else (if ((L.filter (fun z => S.E z m)).length : Int) = 1 then (if 0 ≤ rd (L.filter (fun z => S.E z m)) 0 then (if rd (L.filter (fun z => S.E z m)) 0 < (x.length : Int) then ((spec_l6Drop.f k (x.getD (rd (L.filter (fun z => S.E z m)) 0).toNat []) m).bind fun l => (if 0 ≤ m then (if m < (x.length : Int) then (spec_l7Limit.l4 k L x m (rd (L.filter (fun z => S.E z m)) 0) l (x.getD m.toNat []) 0) else none) else none)) else none) else none) else (spec_l7Limit.l2 k L x ((p.length : Int) + 1))))) r → Ev (fun k => spec_l7Limit.l2 k L x (p.length : Int)) r := by
        intro r hr
        refine Ev.succ ?_
        simp only [spec_l7Limit.l2]
        refine Ev.ite_pos (by omega) (Ev.ite_pos (by omega) ?_)
        rw [hrd]
        have main := Ev.rangeI L (fun k b j => spec_l7Limit.l3 k L x (p.length : Int) m b j) (fun _ _ _ => r) (fun b p' => b = p'.filter (fun z => S.E z m)) (fun b hb => ?_) (fun b p' z q' e' hb ih' => ?_) ([] : List Int) (by simp)
        · exact main
        · refine Ev.succ ?_
          simp only [spec_l7Limit.l3]
          rw [wrap_succ (n := p.length) (by omega)]
          subst hb
          exact Ev.ite_neg (by omega) hr
        · refine Ev.succ ?_
          simp only [spec_l7Limit.l3]
          have hlen' : p'.length < L.length := by rw [e']; simp
          have hrd' : rd L (p'.length : Int) = z := by rw [e']; exact rd_mid _ _ _
          have hz : z ∈ L := by rw [e']; simp
          have hzn := h.ok.2 z hz
          have hbl : b.length ≤ p'.length := by rw [hb]; exact List.length_filter_le _ _
          refine Ev.ite_pos (by omega) (Ev.ite_pos (by omega) ?_)
          rw [hrd', wrap_succ (by omega)]
          refine Ev.ite_pos hzn.1 (Ev.ite_pos (by omega) ?_)
          rw [h.row z hz]
          have hfl := (filter_ok n (S.E z)).le
          refine Ev.bind (l1Has_ev _ m (by omega)) ?_
          have e4 : decide (m ∈ (upto n).filter (S.E z)) = S.E z m := by
            rw [Bool.eq_iff_iff, decide_eq_true_iff, upto_filter_mem]
            exact ⟨fun h => h.2, fun h => ⟨hmn, h⟩⟩
          rw [e4]
          cases hE : S.E z m with
          | true => exact Ev.ite_pos rfl (Ev.ite_pos (by omega) (ih' _ (by rw [hb, List.filter_append]; simp [hE])))
          | false => exact Ev.ite_neg (by simp) (ih' _ (by rw [hb, List.filter_append]; simp [hE]))
      have next : (∀ z, ¬ S.can m z) → ∃ j, G2.red j S ∧ j ≤ L.length ∧ Ev (fun k => spec_l7Limit.l2 k L x ((p.length : Int) + 1)) ((L.length : Int) - j) := by
        intro hno
        have := ih (p ++ [m]) (by rw [e]; simp) (fun y hy => by
          rcases List.mem_append.1 hy with hy | hy
          · exact hp y hy
          · rw [List.mem_singleton] at hy; subst hy; exact hno)
        rw [e3] at this
        exact this
      by_cases hm0 : m = 0
      · obtain ⟨j, h1, h2, h3⟩ := next (fun z hz => hz.1 hm0)
        exact ⟨j, h1, h2, hfr (Ev.ite_pos hm0 h3)⟩
      · have hnd : (L.filter (fun z => S.E z m)).Nodup := h.ok.1.filter _
        by_cases hl1 : (L.filter (fun z => S.E z m)).length = 1
        · have h1 := one_of_len hl1
          obtain ⟨pp, hpp⟩ : ∃ pp, pp = rd (L.filter (fun z => S.E z m)) 0 := ⟨_, rfl⟩
          rw [← hpp] at h1
          have hmem : pp ∈ L.filter (fun z => S.E z m) := by rw [h1]; simp
          rw [List.mem_filter] at hmem
          have hcan : S.can m pp := ⟨hm0, hmem.2, fun q hq => by
            have : q ∈ L.filter (fun z => S.E z m) := List.mem_filter.2 ⟨(h.mem q).1 (hS q m hq).1, hq⟩
            rw [h1, List.mem_singleton] at this
            exact this⟩
          have hpn := h.ok.2 pp hmem.1
          have hst := h.step hS hcan
          have hLf : (L.filter (fun y => decide (y ≠ m))).length + 1 = L.length := by
            have h5 := nodup_le L (m :: L.filter (fun y => decide (y ≠ m))) h.ok.1 (fun y hy => by
              by_cases hy2 : y = m
              · simp [hy2]
              · exact List.mem_cons_of_mem _ (List.mem_filter.2 ⟨hy, by simpa using hy2⟩))
            have h6 := nodup_le (m :: L.filter (fun y => decide (y ≠ m))) L (List.nodup_cons.2 ⟨fun h => by simp at h, h.ok.1.filter _⟩) (fun y hy => by
              rcases List.mem_cons.1 hy with rfl | hy
              · exact hm
              · exact (List.mem_filter.1 hy).1)
            simp only [List.length_cons] at h5 h6
            omega
          obtain ⟨j, g1, g2, g3⟩ := IH _ _ _ (by omega) (G2.t2_ok hS hcan) (G2.t2_all hS hA hcan) hst
          refine ⟨j + 1, .step hcan g1, by omega, hfr (Ev.ite_neg hm0 (Ev.ite_pos (by omega) ?_))⟩
          rw [← hpp]
          refine Ev.ite_pos hpn.1 (Ev.ite_pos (by omega) ?_)
          rw [h.row pp hmem.1, h.row m hm]
          have hfl := (filter_ok n (S.E pp)).le
          have hfm := (filter_ok n (S.E m)).le
          refine Ev.bind (drop_ev m _ (by omega)) (Ev.ite_pos hmn.1 (Ev.ite_pos (by omega) ?_))
          have e5 : ((upto n).filter (S.E pp)).filter (fun y => decide (y ≠ m)) = srt n (((upto n).filter (S.E pp)).filter (fun y => decide (y ≠ m))) := (srt_rise0 (((upto_rise n).filter _).filter _) (fun y hy => (upto_filter_mem.1 (List.mem_filter.1 hy).1).1)).symm
          rw [e5]
          have hsl := srt_len n ((((upto n).filter (S.E pp)).filter (fun y => decide (y ≠ m))) ++ (upto n).filter (S.E m))
          refine sPut_ev hn (by omega) (fun z hz => (upto_filter_mem.1 hz).1) (drop_ev pp _ (by omega)) (Ev.bind (drop_ev m L (by omega)) ?_)
          rw [show (L.length : Int) - ((j + 1 : Nat) : Int) = ((L.filter (fun y => decide (y ≠ m))).length : Int) - j by omega]
          exact g3
        · obtain ⟨j, h1, h2, h3⟩ := next (fun z hz => hl1 (len1 hnd (List.mem_filter.2 ⟨(h.mem z).1 (G2.can_ne hS hz).2.2, hz.2.1⟩) (fun y hy => hz.2.2 y (List.mem_filter.1 hy).2)))
          exact ⟨j, h1, h2, hfr (Ev.ite_neg hm0 (Ev.ite_neg (by omega) h3))⟩

theorem listOf_ev (n : Nat) (hn : n ≤ 1000000) (B : Int → Bool) : Ev (fun k => impl_listOf.f k (tab n B)) ((upto n).filter B) := by
  unfold impl_listOf.f
  rw [tab_length]
  refine Ev.count n (fun k x i => impl_listOf.l0 k x (tab n B) (n : Int) i) (fun m => (upto m).filter B) _ ?_ (fun m hm ih => ?_)
  · refine Ev.succ ?_
    simp only [impl_listOf.l0]
    exact Ev.ite_neg (by omega) (Ev.some rfl)
  · refine Ev.succ ?_
    simp only [impl_listOf.l0]
    have hl := List.length_filter_le B (upto m)
    rw [upto_length] at hl
    refine Ev.ite_pos (by omega) (Ev.ite_pos (by omega) (Ev.ite_pos (by rw [tab_length]; omega) ?_))
    rw [show rdOf false (tab n B) (m : Int) = B m from tab_getD _ (by omega) (by omega) _, wrap_succ (by omega)]
    rw [filter_upto_succ] at ih
    cases hB : B m with
    | true =>
      rw [hB, if_pos rfl] at ih
      exact Ev.ite_pos rfl (Ev.ite_pos (by omega) ih)
    | false =>
      rw [hB, if_neg (by simp), List.append_nil] at ih
      exact Ev.ite_neg (by simp) ih

/-- The graph that the program's tables tell. -/
def gs (n : Nat) (F : Int → Bool) (X : Int → Int → Bool) : G2 :=
  ⟨fun a => decide (0 ≤ a ∧ a < n) && F a, fun a b => decide (0 ≤ a ∧ a < n) && F a && (decide (0 ≤ b ∧ b < n) && F b) && decide (a ≠ b) && X a b⟩
theorem gs_L {n : Nat} {F : Int → Bool} {X : Int → Int → Bool} {a : Int} : (gs n F X).L a = true ↔ (0 ≤ a ∧ a < n) ∧ F a = true := by simp [gs]
theorem gs_E {n : Nat} {F : Int → Bool} {X : Int → Int → Bool} {a b : Int} : (gs n F X).E a b = true ↔ ((0 ≤ a ∧ a < n) ∧ F a = true) ∧ ((0 ≤ b ∧ b < n) ∧ F b = true) ∧ a ≠ b ∧ X a b = true := by simp [gs, and_assoc]
theorem gs_ok (n : Nat) (F : Int → Bool) (X : Int → Int → Bool) : (gs n F X).ok := fun a b h => by
  rw [gs_E] at h
  exact ⟨gs_L.2 h.1, gs_L.2 h.2.1, h.2.2.1⟩
def tabX (n : Nat) (X : Int → Int → Bool) : List (List Bool) := tab n (fun a => tab n (X a))
theorem tabX_congr {n : Nat} {X Y : Int → Int → Bool} (h : ∀ c d : Int, 0 ≤ c → c < n → 0 ≤ d → d < n → X c d = Y c d) : tabX n X = tabX n Y := tab_congr fun c h0 h1 => tab_congr fun d h2 h3 => h c d h0 h1 h2 h3
theorem tabX_row {n : Nat} {X : Int → Int → Bool} {a : Int} (h0 : 0 ≤ a) (h1 : a < n) : (tabX n X).getD a.toNat [] = tab n (X a) := tab_getD _ h0 h1 _
theorem tabX_rd {n : Nat} {X : Int → Int → Bool} {a b : Int} (h0 : 0 ≤ a) (h1 : a < n) (h2 : 0 ≤ b) (h3 : b < n) : rdOf false ((tabX n X).getD a.toNat []) b = X a b := by
  rw [tabX_row h0 h1]; exact tab_getD _ h2 h3 _
theorem tabX_set {n : Nat} {X : Int → Int → Bool} {a b : Int} (h0 : 0 ≤ a) (h1 : a < n) (h2 : 0 ≤ b) (v : Bool) : (tabX n X).set a.toNat (((tabX n X).getD a.toNat []).set b.toNat v) = tabX n (fun c d => if c = a ∧ d = b then v else X c d) := by
  rw [tabX_row h0 h1, tab_set _ h2]
  unfold tabX
  rw [tab_set _ h0]
  refine tab_congr fun c _ _ => ?_
  by_cases hc : c = a
  · subst hc
    rw [if_pos rfl]
    exact tab_congr fun d _ _ => by simp
  · rw [if_neg hc]
    exact tab_congr fun d _ _ => by simp [hc]
theorem tabX_len {n : Nat} {X : Int → Int → Bool} {a : Int} (h0 : 0 ≤ a) (h1 : a < n) : ((tabX n X).getD a.toNat []).length = n := by rw [tabX_row h0 h1, tab_length]
/-- What one use of a rule does. -/
inductive Shr (n : Nat) (F : Int → Bool) (X : Int → Int → Bool) : Bool → (Int → Bool) → (Int → Int → Bool) → Prop
  | stop : (∀ k p, ¬ (gs n F X).can k p) → Shr n F X false F X
  | one {k : Int} : 0 ≤ k → k < n → X k k = true → Shr n F X true F (fun c d => if c = k ∧ d = k then false else X c d)
  | two {k p : Int} : (gs n F X).can k p → X k k = false → Shr n F X true (fun a => if a = k then false else F a) (fun c d => if c = p then (if d = k then false else X p d) || X k d else X c d)
theorem iPour_ev {n : Nat} (hn : n ≤ 12) (F : Int → Bool) (X : Int → Int → Bool) {k p : Int} (hk0 : 0 ≤ k) (hk1 : k < n) (hp0 : 0 ≤ p) (hp1 : p < n) (hpk : p ≠ k) :
    Ev (fun q => impl_shrink.l2 q (tab n F) (tabX n X) k p 0) (true, tab n (fun a => if a = k then false else F a), tabX n (fun c d => if c = p then X p d || X k d else X c d)) := by
  have e0 : tabX n X = tabX n (fun c d => if c = p ∧ d < ((0 : Nat) : Int) then X p d || X k d else X c d) := by
    exact tabX_congr fun c d _ _ h _ => by
      (try dsimp only)
      rw [if_neg (fun e => by omega)]
  rw [e0]
  refine Ev.count n (fun q x j => impl_shrink.l2 q (tab n F) x k p j) (fun m => tabX n (fun c d => if c = p ∧ d < (m : Int) then X p d || X k d else X c d)) _ ?_ (fun m hm ih => ?_)
  · refine Ev.succ ?_
    simp only [impl_shrink.l2]
    rw [tabX_len hk0 hk1]
    refine Ev.ite_neg (by omega) (Ev.some ?_)
    rw [tab_set _ hk0]
    congr 2
    exact tabX_congr fun c d _ _ _ h => by
      (try dsimp only)
      by_cases hc : c = p
      · rw [if_pos ⟨hc, h⟩, if_pos hc]
      · rw [if_neg (fun e => hc e.1), if_neg hc]
  · refine Ev.succ ?_
    simp only [impl_shrink.l2]
    rw [tabX_len hk0 hk1, tabX_len hp0 hp1]
    refine Ev.ite_pos (by omega) (Ev.ite_pos (by omega) (Ev.ite_pos (by omega) ?_))
    rw [tabX_set hp0 hp1 (by omega), tabX_rd hp0 hp1 (by omega) (by omega), tabX_rd hk0 hk1 (by omega) (by omega), wrap_succ (by omega)]
    have e1 : tabX n (fun c d => if c = p ∧ d = (m : Int) then (if p = p ∧ (m : Int) < (m : Int) then X p m || X k m else X p m) || (if k = p ∧ (m : Int) < (m : Int) then X p m || X k m else X k m) else if c = p ∧ d < (m : Int) then X p d || X k d else X c d) = tabX n (fun c d => if c = p ∧ d < ((m + 1 : Nat) : Int) then X p d || X k d else X c d) := by
      refine tabX_congr fun c d _ _ _ _ => ?_
      (try dsimp only)
      by_cases hc : c = p
      · subst hc
        by_cases hd : d = m
        · subst hd
          rw [if_pos (show c = c ∧ (m : Int) = m from ⟨rfl, rfl⟩), if_pos (show c = c ∧ (m : Int) < ((m + 1 : Nat) : Int) from ⟨rfl, by omega⟩), if_neg (show ¬ (c = c ∧ (m : Int) < (m : Int)) from fun e => by omega), if_neg (show ¬ (k = c ∧ (m : Int) < (m : Int)) from fun e => by omega)]
        · rw [if_neg (fun e => hd e.2)]
          by_cases h : d < (m : Int)
          · rw [if_pos ⟨rfl, h⟩, if_pos ⟨rfl, by omega⟩]
          · rw [if_neg (fun e => h e.2), if_neg (fun e => by omega)]
      · rw [if_neg (fun e => hc e.1), if_neg (fun e => hc e.1), if_neg (fun e => hc e.1)]
    rw [e1]
    exact ih
theorem iShrink_ev {n : Nat} (hn : n ≤ 12) (F : Int → Bool) (X : Int → Int → Bool) : ∃ b F' X', Ev (fun q => impl_shrink.f q (tab n F) (tabX n X)) (b, tab n F', tabX n X') ∧ Shr n F X b F' X' := by
  suffices hloop : ∀ (q m : Nat), m + q = n → (∀ k : Int, 0 ≤ k → k < m → ∀ z, ¬ (gs n F X).can k z) → ∃ b F' X', Ev (fun q => impl_shrink.l0 q (tab n F) (tabX n X) (m : Int)) (b, tab n F', tabX n X') ∧ Shr n F X b F' X' by
    have := hloop n 0 (by omega) (fun k h0 h1 => by omega)
    exact this
  have hxl : (tabX n X).length = n := tab_length _ _
  have hfl : (tab n F).length = n := tab_length _ _
  intro q
  induction q with
  | zero =>
    intro m hm hno
    refine ⟨false, F, X, Ev.succ ?_, .stop fun k p hc => ?_⟩
    · simp only [impl_shrink.l0]
      exact Ev.ite_neg (by omega) (Ev.some rfl)
    · have h := (gs_L.1 (G2.can_ne (gs_ok n F X) hc).2.1).1
      exact hno k h.1 (by omega) p hc
  | succ q ih =>
    intro m hm hno
    have next : (∀ z, ¬ (gs n F X).can (m : Int) z) → ∃ b F' X', Ev (fun q => impl_shrink.l0 q (tab n F) (tabX n X) ((m : Int) + 1)) (b, tab n F', tabX n X') ∧ Shr n F X b F' X' := by
      intro h
      have := ih (m + 1) (by omega) (fun k h0 h1 z => by
        by_cases e : k = m
        · subst e; exact h z
        · exact hno k h0 (by omega) z)
      rwa [show ((m + 1 : Nat) : Int) = (m : Int) + 1 by omega] at this
    have hrd : rdOf false (tab n F) (m : Int) = F m := tab_getD _ (by omega) (by omega) _
    cases hF : F m with
    | false =>
      obtain ⟨b, F', X', h1, h2⟩ := next (fun z hz => by have := (gs_L.1 (G2.can_ne (gs_ok n F X) hz).2.1).2; rw [hF] at this; cases this)
      refine ⟨b, F', X', Ev.succ ?_, h2⟩
      simp only [impl_shrink.l0]
      rw [wrap_succ (by omega)]
      exact Ev.ite_pos (by omega) (Ev.ite_pos (by omega) (Ev.ite_neg (by rw [hrd, hF]; simp) h1))
    | true =>
      have head : ∀ {r}, Ev (fun q => if X m m = true then some (true, tab n F, tabX n (fun c d => if c = (m : Int) ∧ d = (m : Int) then false else X c d)) else impl_shrink.l1 q (tab n F) (tabX n X) (m : Int) [] 0) r → Ev (fun q => impl_shrink.l0 q (tab n F) (tabX n X) (m : Int)) r := by
        intro r hr
        refine Ev.succ ?_
        simp only [impl_shrink.l0]
        rw [tabX_len (by omega) (by omega), tabX_set (by omega) (by omega) (by omega), tabX_rd (by omega) (by omega) (by omega) (by omega)]
        exact Ev.ite_pos (by omega) (Ev.ite_pos (by omega) (Ev.ite_pos (by rw [hrd, hF]) (Ev.ite_pos (by omega) (Ev.ite_pos (by omega) hr))))
      cases hX : X m m with
      | true => exact ⟨true, F, _, head (Ev.ite_pos hX (Ev.now _)), .one (by omega) (by omega) hX⟩
      | false =>
        obtain ⟨fr, hfr⟩ : ∃ fr, fr = (upto n).filter (fun p => F p && X p m) := ⟨_, rfl⟩
        have hfm : ∀ p, p ∈ fr ↔ (gs n F X).E p m = true := fun p => by
          rw [hfr, upto_filter_mem, Bool.and_eq_true, gs_E]
          constructor
          · rintro ⟨h1, h2, h3⟩
            exact ⟨⟨h1, h2⟩, ⟨⟨by omega, by omega⟩, hF⟩, (fun e => by subst e; rw [hX] at h3; cases h3), h3⟩
          · rintro ⟨⟨h1, h2⟩, _, _, h3⟩
            exact ⟨h1, h2, h3⟩
        have hnd : fr.Nodup := by rw [hfr]; exact (upto_nodup n).filter _
        have collect : ∀ {r}, Ev (fun q => if (m : Int) = 0 then (impl_shrink.l0 q (tab n F) (tabX n X) ((m : Int) + 1)) else (if (fr.length : Int) = 1 then (if 0 ≤ rd fr 0 then (if rd fr 0 < (n : Int) then (if (m : Int) < (((tabX n X).getD (rd fr 0).toNat []).length : Int) then (impl_shrink.l2 q (tab n F) ((tabX n X).set (rd fr 0).toNat (((tabX n X).getD (rd fr 0).toNat []).set (m : Int).toNat false)) (m : Int) (rd fr 0) 0) else none) else none) else none) else (impl_shrink.l0 q (tab n F) (tabX n X) ((m : Int) + 1)))) r → Ev (fun q => impl_shrink.l1 q (tab n F) (tabX n X) (m : Int) [] 0) r := by
          intro r hr
          have e0 : ([] : List Int) = (upto 0).filter (fun p => F p && X p m) := rfl
          rw [e0]
          refine Ev.count n (fun q b j => impl_shrink.l1 q (tab n F) (tabX n X) (m : Int) b j) (fun j => (upto j).filter (fun p => F p && X p m)) _ ?_ (fun j hj ihj => ?_)
          · refine Ev.succ ?_
            simp only [impl_shrink.l1]
            rw [← hfr, hxl, wrap_succ (n := m) (by omega)]
            exact Ev.ite_neg (by omega) hr
          · refine Ev.succ ?_
            simp only [impl_shrink.l1]
            have hl := List.length_filter_le (fun p => F p && X p m) (upto j)
            rw [upto_length] at hl
            have hrj : rdOf false (tab n F) (j : Int) = F j := tab_getD _ (by omega) (by omega) _
            rw [tabX_len (by omega) (by omega), tabX_rd (by omega) (by omega) (by omega) (by omega), hrj, hxl, hfl, wrap_succ (n := j) (by omega)]
            refine Ev.ite_pos (by omega) (Ev.ite_pos (by omega) (Ev.ite_pos (by omega) ?_))
            rw [filter_upto_succ] at ihj
            cases hFj : F j with
            | false =>
              rw [hFj, Bool.false_and, if_neg (by simp), List.append_nil] at ihj
              exact Ev.ite_neg (by simp) ihj
            | true =>
              refine Ev.ite_pos (by first | rfl | trivial) (Ev.ite_pos (by omega) ?_)
              rw [hFj, Bool.true_and] at ihj
              cases hXj : X j m with
              | false =>
                rw [hXj, if_neg (by simp), List.append_nil] at ihj
                exact Ev.ite_neg (by simp) ihj
              | true =>
                rw [hXj, if_pos rfl] at ihj
                exact Ev.ite_pos (by first | rfl | trivial) (Ev.ite_pos (by omega) ihj)
        have tail : ∀ {r}, _ → Ev (fun q => impl_shrink.l0 q (tab n F) (tabX n X) (m : Int)) r := fun {r} h => head (Ev.ite_neg (by rw [hX]; simp) (collect (r := r) h))
        by_cases hm0 : (m : Int) = 0
        · obtain ⟨b, F', X', h1, h2⟩ := next (fun z hz => hz.1 hm0)
          exact ⟨b, F', X', tail (Ev.ite_pos hm0 h1), h2⟩
        · by_cases hl1 : fr.length = 1
          · have h1 := one_of_len hl1
            obtain ⟨pp, hpp⟩ : ∃ pp, pp = rd fr 0 := ⟨_, rfl⟩
            rw [← hpp] at h1
            have hmem : (gs n F X).E pp m = true := (hfm pp).1 (by rw [h1]; simp)
            have hcan : (gs n F X).can (m : Int) pp := ⟨hm0, hmem, fun q hq => by
              have := (hfm q).2 hq
              rw [h1, List.mem_singleton] at this
              exact this⟩
            have hpn := (gs_E.1 hmem).1.1
            have hne := (gs_E.1 hmem).2.2.1
            refine ⟨true, _, _, tail (Ev.ite_neg hm0 (Ev.ite_pos (by omega) ?_)), .two hcan hX⟩
            rw [← hpp, tabX_len hpn.1 hpn.2, tabX_set hpn.1 hpn.2 (by omega)]
            refine Ev.ite_pos hpn.1 (Ev.ite_pos hpn.2 (Ev.ite_pos (by omega) ?_))
            refine Ev.cast (iPour_ev hn F _ (by omega) (by omega) hpn.1 hpn.2 hne) ?_
            congr 2
            refine tabX_congr fun c d _ _ _ _ => ?_
            (try dsimp only)
            by_cases hc : c = pp
            · rw [if_pos hc, if_pos hc]
              have hmp : ¬ ((m : Int) = pp) := fun e => hne e.symm
              by_cases hd : d = m
              · simp [hd, hmp]
              · simp [hd]
            · simp [hc]
          · obtain ⟨b, F', X', h1, h2⟩ := next (fun z hz => hl1 (len1 hnd ((hfm z).2 hz.2.1) (fun y hy => hz.2.2 y ((hfm y).1 hy))))
            exact ⟨b, F', X', tail (Ev.ite_neg hm0 (Ev.ite_neg (by omega) h1)), h2⟩

theorem cnt_del {n : Nat} {B : Int → Bool} {k : Int} (h0 : 0 ≤ k) (h1 : k < n) (hB : B k = true) : ((upto n).filter (fun a => if a = k then false else B a)).length + 1 = ((upto n).filter B).length := by
  have ha := nodup_le ((upto n).filter B) (k :: (upto n).filter (fun a => if a = k then false else B a)) ((upto_nodup n).filter _) (fun y hy => by
    by_cases hy2 : y = k
    · simp [hy2]
    · refine List.mem_cons_of_mem _ (List.mem_filter.2 ⟨(List.mem_filter.1 hy).1, ?_⟩)
      rw [if_neg hy2]
      exact (List.mem_filter.1 hy).2)
  have hb := nodup_le (k :: (upto n).filter (fun a => if a = k then false else B a)) ((upto n).filter B) (List.nodup_cons.2 ⟨fun h => by simp at h, (upto_nodup n).filter _⟩) (fun y hy => by
    rcases List.mem_cons.1 hy with rfl | hy
    · exact upto_filter_mem.2 ⟨⟨h0, h1⟩, hB⟩
    · have := List.mem_filter.1 hy
      refine List.mem_filter.2 ⟨this.1, ?_⟩
      by_cases hy2 : y = k
      · rw [hy2]; exact hB
      · have h3 := this.2
        rwa [if_neg hy2] at h3)
  simp only [List.length_cons] at ha hb
  omega
theorem gs_one {n : Nat} (F : Int → Bool) (X : Int → Int → Bool) (k : Int) : gs n F (fun c d => if c = k ∧ d = k then false else X c d) = gs n F X := by
  refine G2.ext (fun a => by rw [gs_L, gs_L]) (fun a b => ?_)
  rw [gs_E, gs_E]
  refine and_congr_right fun _ => and_congr_right fun _ => and_congr_right fun hne => ?_
  rw [if_neg (fun e => hne (e.1.trans e.2.symm))]
theorem gs_two {n : Nat} {F : Int → Bool} {X : Int → Int → Bool} {k p : Int} (hc : (gs n F X).can k p) : gs n (fun a => if a = k then false else F a) (fun c d => if c = p then (if d = k then false else X p d) || X k d else X c d) = (gs n F X).t2 k p := by
  have h1 := gs_E.1 hc.2.1
  refine G2.ext (fun a => ?_) (fun a b => ?_)
  · rw [gs_L, G2.t2_L, gs_L]
    by_cases ha : a = k <;> simp [ha]
  · rw [gs_E, G2.t2_E, gs_E, gs_E]
    by_cases ha : a = k
    · simp [ha]
    · by_cases hb : b = k
      · simp [hb]
      · rw [if_neg ha, if_neg hb]
        by_cases hap : a = p
        · subst hap
          rw [if_pos rfl, if_neg hb, Bool.or_eq_true]
          constructor
          · rintro ⟨q1, q2, q3, q4 | q4⟩
            · exact ⟨.inl ⟨q1, q2, q3, q4⟩, ha, hb, q3⟩
            · exact ⟨.inr ⟨rfl, h1.2.1, q2, fun e => hb e.symm, q4⟩, ha, hb, q3⟩
          · rintro ⟨q | q, _, _, q3⟩
            · exact ⟨q.1, q.2.1, q3, .inl q.2.2.2⟩
            · exact ⟨h1.1, q.2.2.1, q3, .inr q.2.2.2.2⟩
        · rw [if_neg hap]
          constructor
          · exact fun q => ⟨.inl q, ha, hb, q.2.2.1⟩
          · rintro ⟨q | q, _⟩
            · exact q
            · exact absurd q.1 hap
theorem iLimit_ev {n : Nat} (hn : n ≤ 12) : ∀ (m : Nat) (F : Int → Bool) (X : Int → Int → Bool), ((upto n).filter F).length * 13 + ((upto n).filter (fun a => X a a)).length ≤ m → (gs n F X).all →
    ∃ j, G2.red j (gs n F X) ∧ j ≤ ((upto n).filter F).length ∧ Ev (fun k => impl_LimitOf.l2 k (tab n F) (tabX n X)) ((((upto n).filter F).length : Int) - j, true) := by
  intro m
  induction m using Nat.strongRecOn with
  | _ m ih =>
    intro F X hm hA
    obtain ⟨b, F', X', h1, h2⟩ := iShrink_ev hn F X
    have hs := List.length_filter_le (fun a => X' a a) (upto n)
    rw [upto_length] at hs
    have head : ∀ {r}, Ev (fun k => if b = true then (impl_LimitOf.l2 k (tab n F') (tabX n X')) else ((impl_listOf.f k (tab n F')).bind fun ls => (some ((ls.length : Int), true)))) r → Ev (fun k => impl_LimitOf.l2 k (tab n F) (tabX n X)) r := by
      intro r hr
      refine Ev.succ ?_
      simp only [impl_LimitOf.l2]
      exact Ev.bind h1 hr
    cases h2 with
    | stop hno => exact ⟨0, .stop hno, Nat.zero_le _, head (Ev.ite_neg (by simp) (Ev.bind (listOf_ev n (by omega) F) (Ev.some (by simp))))⟩
    | @one k k0 k1 hX =>
      have hc := cnt_del (n := n) (B := fun a => X a a) k0 k1 hX
      have e1 : (upto n).filter (fun a => if a = k then false else X a a) = (upto n).filter (fun a => if a = k ∧ a = k then false else X a a) := List.filter_congr fun a _ => by simp
      rw [e1] at hc
      obtain ⟨j, g1, g2, g3⟩ := ih _ (by omega) F (fun c d => if c = k ∧ d = k then false else X c d) (Nat.le_refl _) (by rw [gs_one]; exact hA)
      rw [gs_one] at g1
      exact ⟨j, g1, g2, head (Ev.ite_pos rfl g3)⟩
    | @two k p hcan hX =>
      have hk := gs_L.1 (G2.can_ne (gs_ok n F X) hcan).2.1
      have hc := cnt_del (n := n) (B := F) hk.1.1 hk.1.2 hk.2
      obtain ⟨j, g1, g2, g3⟩ := ih (((upto n).filter (fun a => if a = k then false else F a)).length * 13 + ((upto n).filter (fun a => (fun c d => if c = p then (if d = k then false else X p d) || X k d else X c d) a a)).length) (by omega) (fun a => if a = k then false else F a) (fun c d => if c = p then (if d = k then false else X p d) || X k d else X c d) (Nat.le_refl _) (by rw [gs_two hcan]; exact G2.t2_all (gs_ok n F X) hA hcan)
      rw [gs_two hcan] at g1
      refine ⟨j + 1, .step hcan g1, by omega, head (Ev.ite_pos rfl (Ev.cast g3 ?_))⟩
      congr 1
      omega
/-- The graph at the beginning. -/
def X0 (g : List (List Int)) (a b : Int) : Bool := decide (b ∈ rowG g a) && decide (a ∈ leftG g [])
def F0 (g : List (List Int)) (a : Int) : Bool := decide (a ∈ leftG g [])
theorem left_next {g : List (List Int)} (hg : GG g) {a b : Int} (ha : a ∈ leftG g []) (hb : b ∈ rowG g a) : b ∈ leftG g [] := by
  rw [leftG_iff hg (by simp)] at ha ⊢
  exact ha.snoc ⟨hb, by simp⟩
theorem gs0_E {g : List (List Int)} (hg : GG g) {a b : Int} : (gs g.length (F0 g) (X0 g)).E a b = true ↔ a ∈ leftG g [] ∧ b ∈ rowG g a ∧ a ≠ b := by
  rw [gs_E]
  unfold F0 X0
  simp only [Bool.and_eq_true, decide_eq_true_iff]
  constructor
  · rintro ⟨q1, q2, q3, q4⟩; exact ⟨q1.2, q4.1, q3⟩
  · rintro ⟨q1, q2, q3⟩
    exact ⟨⟨(leftG_ok hg []).2 a q1, q1⟩, ⟨(leftG_ok hg []).2 b (left_next hg q1 q2), left_next hg q1 q2⟩, q3, q2, q1⟩
theorem gs0_all {g : List (List Int)} (hg : GG g) : (gs g.length (F0 g) (X0 g)).all := by
  intro x hx
  have h1 : x ∈ leftG g [] := by simpa [F0] using (gs_L.1 hx).2
  have main : ∀ a b, Star (stepG g []) a b → a ∈ leftG g [] → (gs g.length (F0 g) (X0 g)).rch a → (gs g.length (F0 g) (X0 g)).rch b := by
    intro a b hst
    induction hst with
    | refl a => exact fun _ h => h
    | @step a c b h1 _ ih =>
      intro ha hr
      refine ih (left_next hg ha h1.1) ?_
      by_cases hac : a = c
      · exact hac ▸ hr
      · exact .step hr ((gs0_E hg).2 ⟨ha, h1.1, hac⟩)
  have h0 : (0 : Int) ∈ leftG g [] := (leftG_iff hg (by simp) 0).2 (.refl _)
  exact main 0 x ((leftG_iff hg (by simp) x).1 h1) h0 .base
theorem gs0_sp {g : List (List Int)} (hg : GG g) : SpS g.length (gs g.length (F0 g) (X0 g)) (leftG g []) (tab g.length (fun b => if b ∈ leftG g [] then (rowG g b).filter (fun y => decide (y ≠ b)) else [])) := by
  refine ⟨hg.hi, tab_length _ _, leftG_ok hg [], fun a => ?_, fun a ha => ?_⟩
  · rw [gs_L]
    unfold F0
    rw [decide_eq_true_iff]
    exact ⟨fun h => h.2, fun h => ⟨(leftG_ok hg []).2 a h, h⟩⟩
  · have han := (leftG_ok hg []).2 a ha
    rw [tab_getD _ han.1 han.2, if_pos ha]
    have hr := rowG_mem (g := g) han.1 han.2
    refine rise_ext _ _ ((risesL_pair _ _ [] (hg.rise _ hr)).2.filter _) ((upto_rise _).filter _) fun y => ?_
    rw [List.mem_filter, upto_filter_mem, gs0_E hg, decide_eq_true_iff]
    exact ⟨fun h => ⟨hg.inn _ hr y h.1, ha, h.1, fun e => h.2 e.symm⟩, fun h => ⟨h.2.2.1, fun e => h.2.2.2 e.symm⟩⟩
theorem sLim_ev {g : List (List Int)} (hg : GG g) : ∃ j, G2.red j (gs g.length (F0 g) (X0 g)) ∧ Ev (fun k => spec_l7Limit.f k g) (((leftG g []).length : Int) - j) := by
  have hhi := hg.hi
  have hok := leftG_ok hg []
  have hle := hok.le
  obtain ⟨j, h1, h2, h3⟩ := sLimit_ev g.length _ _ _ _ (Nat.le_refl _) (gs_ok _ _ _) (gs0_all hg) (gs0_sp hg)
  refine ⟨j, h1, ?_⟩
  unfold spec_l7Limit.f
  refine Ev.ite_pos (by omega) (Ev.bind (sWithout_ev hg (-1) [] (fun x h => by simp; omega)) ?_)
  have main := Ev.rangeI (leftG g []) (fun k x i => spec_l7Limit.l0 k g (leftG g []) x i) (fun _ _ _ => ((leftG g []).length : Int) - j) (fun x p => x = tab g.length (fun b => if b ∈ p then (rowG g b).filter (fun y => decide (y ≠ b)) else [])) (fun x hx => ?_) (fun x p y q e hx ih => ?_) (List.replicate g.length []) (by rw [tab_rep]; exact tab_congr fun b _ _ => by simp)
  · exact main
  · refine Ev.succ ?_
    simp only [spec_l7Limit.l0]
    rw [hx]
    exact Ev.ite_neg (by omega) h3
  · refine Ev.succ ?_
    simp only [spec_l7Limit.l0]
    have hlen : p.length < (leftG g []).length := by rw [e]; simp
    have hr : rd (leftG g []) (p.length : Int) = y := by rw [e]; exact rd_mid _ _ _
    have hy := hok.2 y (by rw [e]; simp)
    have hrow := (hg.ok (rowG_mem (g := g) hy.1 hy.2)).le
    rw [hr, wrap_succ (by omega)]
    refine Ev.ite_pos (by omega) (Ev.ite_pos (by omega) (Ev.ite_pos hy.1 (Ev.ite_pos hy.2 (Ev.bind (drop_ev y (rowG g y) (by omega)) (ih _ ?_)))))
    rw [hx, tab_set _ hy.1]
    refine tab_congr fun b _ _ => ?_
    by_cases hb : b = y
    · subst hb; simp
    · simp [hb]
theorem iRow_ev {g : List (List Int)} (hg : GG g) (i : Int) (h0 : 0 ≤ i) (h1 : i < g.length) (Y : Int → List Bool) {r : Int × Bool}
    (hnext : Ev (fun k => impl_LimitOf.l0 k g (boolsG g.length (leftG g [])) (tab g.length (fun b => if b = i then tab g.length (X0 g i) else Y b)) (wrap64 (i + 1))) r) :
    Ev (fun k => impl_LimitOf.l1 k g (boolsG g.length (leftG g [])) ((tab g.length Y).set i.toNat (List.replicate g.length false)) i (rowG g i) 0) r := by
  have hr := rowG_mem (g := g) h0 h1
  have hin := hg.inn _ hr
  have hrow := hg.row _ hr
  unfold X0 at hnext
  generalize rowG g i = row at hin hrow hnext ⊢
  rw [tab_set _ h0]
  have main := Ev.rangeI row (fun k x j => impl_LimitOf.l1 k g (boolsG g.length (leftG g [])) x i row j) (fun _ _ _ => r) (fun x p => x = tab g.length (fun b => if b = i then tab g.length (fun t => decide (t ∈ p) && decide (i ∈ leftG g [])) else Y b)) (fun x hx => ?_) (fun x p y q e hx ih => ?_) (tab g.length (fun b => if b = i then List.replicate g.length false else Y b)) (tab_congr fun b _ _ => by
    by_cases hb : b = i
    · rw [if_pos hb, if_pos hb, tab_rep]; exact tab_congr fun t _ _ => by simp
    · rw [if_neg hb, if_neg hb])
  · exact main
  · refine Ev.succ ?_
    simp only [impl_LimitOf.l1]
    rw [hx]
    exact Ev.ite_neg (by omega) hnext
  · refine Ev.succ ?_
    simp only [impl_LimitOf.l1]
    have hlen : p.length < row.length := by rw [e]; simp
    have hrd : rd row (p.length : Int) = y := by rw [e]; exact rd_mid _ _ _
    have hy := hin y (by rw [e]; simp)
    have hbl : (boolsG g.length (leftG g [])).length = g.length := tab_length _ _
    rw [hrd, wrap_succ (by omega), boolsG_rd _ h0 h1, hx, tab_getD _ h0 h1, if_pos rfl, tab_length]
    refine Ev.ite_pos (by omega) (Ev.ite_pos (by omega) (Ev.ite_pos hy.1 (Ev.ite_pos hy.2 (Ev.ite_pos (by omega) (ih _ ?_)))))
    rw [tab_set _ h0]
    refine tab_congr fun b _ _ => ?_
    by_cases hb : b = i
    · rw [if_pos hb, if_pos hb, tab_set _ hy.1]
      refine tab_congr fun t _ _ => ?_
      by_cases ht : t = y
      · subst ht; simp
      · simp [ht]
    · rw [if_neg hb, if_neg hb, if_neg hb]
theorem iLim_ev {g : List (List Int)} (hg : GG g) : ∃ j, G2.red j (gs g.length (F0 g) (X0 g)) ∧ Ev (fun k => impl_LimitOf.l0 k g (boolsG g.length (leftG g [])) (List.replicate g.length []) 0) ((((upto g.length).filter (F0 g)).length : Int) - j, true) := by
  have hhi := hg.hi
  obtain ⟨j, h1, h2, h3⟩ := iLimit_ev hhi _ _ _ (Nat.le_refl _) (gs0_all hg)
  refine ⟨j, h1, ?_⟩
  have e0 : List.replicate g.length ([] : List Bool) = tab g.length (fun b : Int => if b < ((0 : Nat) : Int) then tab g.length (X0 g b) else []) := by
    rw [tab_rep]
    exact tab_congr fun b h _ => by rw [if_neg (by omega)]
  rw [e0]
  refine Ev.count g.length (fun k x i => impl_LimitOf.l0 k g (boolsG g.length (leftG g [])) x i) (fun m => tab g.length (fun b : Int => if b < (m : Int) then tab g.length (X0 g b) else [])) _ ?_ (fun m hm ih => ?_)
  · refine Ev.succ ?_
    simp only [impl_LimitOf.l0]
    refine Ev.ite_neg (by omega) ?_
    rw [show tab g.length (fun b : Int => if b < (g.length : Int) then tab g.length (X0 g b) else []) = tabX g.length (X0 g) from tab_congr fun b _ h => by rw [if_pos h]]
    exact h3
  · refine Ev.succ ?_
    simp only [impl_LimitOf.l0]
    refine Ev.ite_pos (by omega) (Ev.ite_pos (by omega) ?_)
    refine iRow_ev hg (m : Int) (by omega) (by omega) _ ?_
    rw [wrap_succ (by omega)]
    rw [show tab g.length (fun b : Int => if b = (m : Int) then tab g.length (X0 g m) else if b < (m : Int) then tab g.length (X0 g b) else []) = tab g.length (fun b : Int => if b < ((m + 1 : Nat) : Int) then tab g.length (X0 g b) else []) from ?_]
    · exact ih
    · refine tab_congr fun b _ _ => ?_
      by_cases hb : b = m
      · rw [if_pos hb, if_pos (by omega), hb]
      · rw [if_neg hb]
        by_cases h : b < (m : Int)
        · rw [if_pos h, if_pos (by omega)]
        · rw [if_neg h, if_neg (by omega)]
theorem left_cnt {g : List (List Int)} (hg : GG g) : ((upto g.length).filter (F0 g)).length = (leftG g []).length := by
  have hok := leftG_ok hg []
  have h1 := nodup_le ((upto g.length).filter (F0 g)) (leftG g []) ((upto_nodup _).filter _) (fun y hy => by simpa [F0] using (List.mem_filter.1 hy).2)
  have h2 := nodup_le (leftG g []) ((upto g.length).filter (F0 g)) hok.1 (fun y hy => upto_filter_mem.2 ⟨hok.2 y hy, by simpa [F0] using hy⟩)
  omega
theorem limIn_ev (g : List (List Int)) (h0 : g.length ≤ 1048576) (hx : ∀ x ∈ g, x.length ≤ 1048576) : ∃ r, Ev (fun k => spec_LimitOf.f k g) r ∧ Ev (fun k => impl_LimitOf.f k g) r := by
  by_cases h : goodGraphB g = true
  · have hg := goodGraph_GG h hx
    have hhi := hg.hi
    obtain ⟨j, h1, h2⟩ := sLim_ev hg
    obtain ⟨j', h1', h2'⟩ := iLim_ev hg
    obtain rfl := G2.red_one (gs_ok _ _ _) (gs0_all hg) h1 h1'
    rw [left_cnt hg] at h2'
    refine ⟨(((leftG g []).length : Int) - j, true), ?_, ?_⟩
    · unfold spec_LimitOf.f
      exact Ev.bind (sGoodGraph_ev g h0 hx) (Ev.ite_pos h (Ev.bind h2 (Ev.now _)))
    · unfold impl_LimitOf.f
      exact Ev.bind (iGoodGraph_ev g h0 hx) (Ev.ite_pos h (Ev.ite_pos (by omega) (Ev.bind (iReach_ev hg [] (by simp)) h2')))
  · refine ⟨(0, false), ?_, ?_⟩
    · unfold spec_LimitOf.f
      exact Ev.bind (sGoodGraph_ev g h0 hx) (Ev.ite_neg h (Ev.now _))
    · unfold impl_LimitOf.f
      exact Ev.bind (iGoodGraph_ev g h0 hx) (Ev.ite_neg h (Ev.now _))

theorem FnExactLimitOf : laws_FnExactLimitOf.Pure := by
  intro a ha hx
  refine Ev.rounds (g := fun k => laws_FnExactLimitOf.f k a) ?_
  unfold laws_FnExactLimitOf.f
  obtain ⟨r, hr, h⟩ := szGraph_ev a ha (fun x hxm => (hx x hxm).1)
  refine Ev.bind hr ?_
  by_cases hn : r < 0
  · exact Ev.ite_pos hn (Ev.now _)
  · obtain ⟨h1, h2⟩ := h.resolve_left hn
    have tg := toGraph_ev a h1 h2
    have eg := eqGraph_ev a a (by omega) (fun x hxm => by have := h2 x hxm; omega)
    obtain ⟨q, hs, hi⟩ := limIn_ev a h1 h2
    refine Ev.ite_neg hn (Ev.bind tg (Ev.bind hs (Ev.bind tg (Ev.bind hi ?_))))
    refine Ev.ite_pos rfl ?_
    rw [show (q.2 != q.2) = false by simp]
    refine Ev.succ ?_
    simp only [laws_FnExactLimitOf.j0]
    exact Ev.ite_neg (by simp) (Ev.bind tg (Ev.bind eg (Ev.ite_pos (by simp) (Ev.now _))))

end Go.Proofs.Ytbagmhcdhemopaa.Pure
