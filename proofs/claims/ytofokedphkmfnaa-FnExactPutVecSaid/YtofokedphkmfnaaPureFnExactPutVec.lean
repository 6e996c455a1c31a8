/- Of every list the law of putvec tells true. No condition beyond the row's own. -/
import Derived.Test.YtofokedphkmfnaaQ1
import Derived.Test.YtofokedphkmfnaaQ10
import Derived.Test.YtofokedphkmfnaaQ11
import Derived.Test.YtofokedphkmfnaaQ12
import Derived.Test.YtofokedphkmfnaaQ13
import Derived.Test.YtofokedphkmfnaaQ14
import Derived.Test.YtofokedphkmfnaaQ2
import Derived.Test.YtofokedphkmfnaaQ3
import Derived.Test.YtofokedphkmfnaaLib1
namespace Go.Proofs.Ytofokedphkmfnaa.Pure
open Go.RowKit Go.Proofs.Ytofokedphkmfnaa.Lib Go.Proofs.Ytofokedphkmfnaa.Q Go.Proofs.YtofokedphkmfnaaW.PrintWords Go.Proofs.YtofokedphkmfnaaW.PrintLast Go.Proofs.YtofokedphkmfnaaW.PrintMore

theorem l1In_eq (a b c : Int) : spec_l1In.f a b c = some (decide (b ≤ a ∧ a ≤ c)) := by
  unfold spec_l1In.f
  by_cases h : a ≥ b
  · rw [if_pos h]; simp [show b ≤ a from h]
  · rw [if_neg h]; simp; omega

theorem l1U32_eq (a : Int) : spec_l1U32.f a = some (decide (0 ≤ a ∧ a ≤ 4294967295)) := by
  unfold spec_l1U32.f; rw [l1In_eq]; rfl

theorem l1PutU_l0 (n : Nat) : ∀ s : ByteArray, s.size + (lebU n).length ≤ 9223372036854775807 → Ev (fun k => spec_l1PutU.l0 k (n : Int) s) (s ++ strOfNums (lebU n)) := by
  induction n using Nat.strongRecOn with
  | ind n ih =>
    intro s hs
    by_cases hn : n < 128
    · refine ⟨1, fun k hk => ?_⟩
      (try dsimp only)
      obtain ⟨k, rfl⟩ : ∃ m, k = m + 1 := ⟨k - 1, by omega⟩
      simp only [spec_l1PutU.l0]
      rw [lebU_small hn] at hs ⊢
      rw [if_neg (by omega), Option.bind_some, show ((n : Int)) % 256 = n from by omega, if_pos (by rw [strOfNums_size]; exact hs)]
    · rw [lebU_big hn] at hs ⊢
      simp only [List.length_cons] at hs
      obtain ⟨K, hK⟩ := ih (n / 128) (by omega) (s ++ strOfNums [(n : Int) % 128 + 128]) (by rw [str_append_size, strOfNums_size]; simp only [List.length_cons, List.length_nil]; omega)
      (try dsimp only at hK)
      refine ⟨K + 1, fun k hk => ?_⟩
      (try dsimp only)
      obtain ⟨k, rfl, hk'⟩ := within_lo hk
      simp only [spec_l1PutU.l0]
      rw [if_pos (by omega), Option.bind_some, i64_and127, i64_or128 _ (by omega) (by omega), show ((n : Int) % 128 + 128) % 256 = (n : Int) % 128 + 128 from by omega,
        if_pos (by rw [strOfNums_size]; simp only [List.length_cons, List.length_nil]; omega), show ((n : Int)) / 128 = ((n / 128 : Nat) : Int) from by omega, hK k hk',
        append_str_assoc, ← strOfNums_append]
      rfl
theorem l1PutU_ev (a : Int) (h0 : 0 ≤ a) (h1 : a ≤ 9223372036854775807) : Ev (fun k => spec_l1PutU.f k a) (strOfNums (lebU a.toNat)) := by
  obtain ⟨n, rfl⟩ := Int.eq_ofNat_of_zero_le h0
  have hl := lebU_len 9 n (by omega)
  obtain ⟨K, hK⟩ := l1PutU_l0 n (⟨#[]⟩ : ByteArray) (by show 0 + _ ≤ _; omega)
  (try dsimp only at hK)
  refine ⟨K, fun k hk => ?_⟩
  (try dsimp only)
  unfold spec_l1PutU.f
  rw [hK k hk, nil_append_str]; rfl

theorem l1PutVec_l0 (q : List Int) : ∀ (p : List Int) (s : ByteArray), p.length + q.length ≤ 50 → s.size + 10 * q.length ≤ 1000000 → (∀ x ∈ q, 0 ≤ x ∧ x ≤ 4294967295) →
    Ev (fun k => spec_l1PutVec.l0 k s (p ++ q) ((p.length + q.length : Nat) : Int) (p.length : Int)) (s ++ strOfNums (q.flatMap fun x => lebU x.toNat)) := by
  induction q with
  | nil =>
    intro p s h0 h1 hx
    refine ⟨1, fun k hk => ?_⟩
    (try dsimp only)
    obtain ⟨k, rfl⟩ : ∃ m, k = m + 1 := ⟨k - 1, by omega⟩
    simp only [spec_l1PutVec.l0]
    rw [if_neg (by simp), List.flatMap_nil, strOfNums_nil, append_nil_str]
  | cons x q ih =>
    intro p s h0 h1 hx
    simp only [List.length_cons] at h0 h1
    obtain ⟨hx0, hx1⟩ := hx x List.mem_cons_self
    have hl := lebU_len 4 x.toNat (by omega)
    obtain ⟨K1, hK1⟩ := l1PutU_ev x hx0 (by omega)
    (try dsimp only at hK1)
    obtain ⟨K, hK⟩ := ih (p ++ [x]) (s ++ strOfNums (lebU x.toNat)) (by simp; omega) (by rw [str_append_size, strOfNums_size]; omega) (fun y hy => hx y (List.mem_cons_of_mem _ hy))
    (try dsimp only at hK)
    refine ⟨K + K1 + 1, fun k hk => ?_⟩
    (try dsimp only)
    obtain ⟨k, rfl, hk'⟩ := within_lo hk
    simp only [spec_l1PutVec.l0]
    have hK' := hK k (by omega)
    simp only [List.append_assoc, List.cons_append, List.nil_append] at hK'
    have e1 : wrap64 ((p.length : Int) + 1) = ((p ++ [x]).length : Int) := by
      rw [wrap64_id (by omega) (by omega)]; simp
    have e2 : ((p.length + (x :: q).length : Nat) : Int) = (((p ++ [x]).length + q.length : Nat) : Int) := by simp; omega
    rw [if_pos (by simp; omega), if_pos (by omega), if_pos (by simp; omega), rd_mid, hK1 k (by omega), Option.bind_some, if_pos (by rw [strOfNums_size]; omega), e1, e2, hK', List.flatMap_cons, strOfNums_append, append_str_assoc]
theorem sPutVec_l0 (q : List Int) : ∀ (p : List Int), p.length + q.length ≤ 1048576 → (∀ x ∈ p, 0 ≤ x ∧ x ≤ 4294967295) →
    Ev (fun k => spec_PutVec.l0 k (p ++ q) (p ++ q) ((p ++ q).length : Int) (p.length : Int)) (putVecR (p ++ q)) := by
  induction q with
  | nil =>
    intro p h0 hx
    rw [List.append_nil]
    by_cases hl : p.length ≤ 50
    · have hll := lebU_len 4 p.length (by omega)
      obtain ⟨K1, hK1⟩ := l1PutU_ev (p.length : Int) (by omega) (by omega)
      (try dsimp only at hK1)
      obtain ⟨K, hK⟩ := l1PutVec_l0 p [] (strOfNums (lebU p.length)) (by simpa using hl) (by rw [strOfNums_size]; omega) hx
      (try dsimp only at hK)
      refine ⟨K + K1 + 1, fun k hk => ?_⟩
      (try dsimp only)
      obtain ⟨k, rfl, hk'⟩ := within_lo hk
      simp only [spec_PutVec.l0, spec_l1PutVec.f]
      have hK' := hK k (by omega)
      simp only [List.nil_append, List.length_nil, Nat.zero_add] at hK'
      rw [if_neg (by omega), if_neg (by omega), hK1 k (by omega), Option.bind_some, Int.toNat_natCast]
      have : ((0 : Nat) : Int) = 0 := rfl
      rw [this] at hK'
      rw [hK', putVecR_good hx hl, strOfNums_append]; rfl
    · refine ⟨1, fun k hk => ?_⟩
      (try dsimp only)
      obtain ⟨k, rfl⟩ : ∃ m, k = m + 1 := ⟨k - 1, by omega⟩
      simp only [spec_PutVec.l0]
      rw [if_neg (by omega), if_pos (by omega), putVecR_long hl]
  | cons x q ih =>
    intro p h0 hx
    simp only [List.length_cons] at h0
    by_cases hxx : 0 ≤ x ∧ x ≤ 4294967295
    · obtain ⟨K, hK⟩ := ih (p ++ [x]) (by simp; omega) (fun y hy => (List.mem_append.mp hy).elim (hx y) (fun h => by rw [List.mem_singleton.mp h]; exact hxx))
      (try dsimp only at hK)
      refine ⟨K + 1, fun k hk => ?_⟩
      (try dsimp only)
      obtain ⟨k, rfl, hk'⟩ := within_lo hk
      simp only [spec_PutVec.l0]
      have hK' := hK k (by omega)
      simp only [List.append_assoc, List.cons_append, List.nil_append] at hK'
      have e1 : wrap64 ((p.length : Int) + 1) = ((p ++ [x]).length : Int) := by
        rw [wrap64_id (by omega) (by omega)]; simp
      rw [if_pos (by simp; omega), if_pos (by omega), if_pos (by simp; omega), rd_mid, l1U32_eq, Option.bind_some, if_pos (by simpa using hxx), e1, hK']
    · refine ⟨1, fun k hk => ?_⟩
      (try dsimp only)
      obtain ⟨k, rfl⟩ : ∃ m, k = m + 1 := ⟨k - 1, by omega⟩
      simp only [spec_PutVec.l0]
      rw [if_pos (by simp; omega), if_pos (by omega), if_pos (by simp; omega), rd_mid, l1U32_eq, Option.bind_some, if_neg (by simpa using hxx), putVecR_bad (x := x) (by simp) hxx]
theorem sPutVec_ev (l : List Int) (h : l.length ≤ 1048576) : Ev (fun k => spec_PutVec.f k l) (putVecR l) :=
  sPutVec_l0 l [] (by simpa using h) (fun _ h => by simp at h)

theorem within_eq (a b c : Int) : impl_within.f a b c = some (decide (b ≤ a ∧ a ≤ c)) := by
  unfold impl_within.f
  by_cases h : a ≥ b
  · rw [if_pos h]; simp [show b ≤ a from h]
  · rw [if_neg h]; simp; omega

theorem putU_l0 (n : Nat) : ∀ l : List Int, l.length + (lebU n).length ≤ 140737488355328 → Ev (fun k => impl_putU.l0 k l (n : Int)) (l ++ lebU n) := by
  induction n using Nat.strongRecOn with
  | ind n ih =>
    intro s hs
    by_cases hn : n < 128
    · refine ⟨1, fun k hk => ?_⟩
      (try dsimp only)
      obtain ⟨k, rfl⟩ : ∃ m, k = m + 1 := ⟨k - 1, by omega⟩
      simp only [impl_putU.l0]
      rw [lebU_small hn] at hs ⊢
      simp only [List.length_cons, List.length_nil] at hs
      rw [if_neg (by omega), if_pos (by omega), show ((n : Int)) % 256 = n from by omega]
    · rw [lebU_big hn] at hs ⊢
      simp only [List.length_cons] at hs
      obtain ⟨K, hK⟩ := ih (n / 128) (by omega) (s ++ [(n : Int) % 128 + 128]) (by simp only [List.length_append, List.length_cons, List.length_nil]; omega)
      (try dsimp only at hK)
      refine ⟨K + 1, fun k hk => ?_⟩
      (try dsimp only)
      obtain ⟨k, rfl, hk'⟩ := within_lo hk
      simp only [impl_putU.l0]
      rw [if_pos (by omega), if_pos (by omega), u8_or128_any, show ((n : Int)) / 128 = ((n / 128 : Nat) : Int) from by omega, hK k hk', List.append_assoc]
      rfl
theorem putU_ev (l : List Int) (a : Int) (h0 : 0 ≤ a) (h1 : a ≤ 9223372036854775807) (hl : l.length + 10 ≤ 140737488355328) : Ev (fun k => impl_putU.f k l a) (l ++ lebU a.toNat) := by
  obtain ⟨n, rfl⟩ := Int.eq_ofNat_of_zero_le h0
  have hl' := lebU_len 9 n (by omega)
  obtain ⟨K, hK⟩ := putU_l0 n l (by omega)
  (try dsimp only at hK)
  exact ⟨K, fun k hk => by unfold impl_putU.f; exact hK k hk⟩

theorem PutVec1_eq (a : Int) : impl_PutVec_1.f a = some (!decide (0 ≤ a ∧ a ≤ 4294967295)) := by
  unfold impl_PutVec_1.f; rw [within_eq]; rfl
theorem idx61_l0 (q : List Int) : ∀ (p : List Int), p.length + q.length ≤ 1048576 →
    Ev (fun k => slices_IndexFunc_int_int__61.l0 k (p ++ q) ((p.length + q.length : Nat) : Int) (p.length : Int)) (match q.findIdx? (fun a => !decide (0 ≤ a ∧ a ≤ 4294967295)) with | some j => ((p.length + j : Nat) : Int) | none => -1) := by
  induction q with
  | nil =>
    intro p h0
    refine ⟨1, fun k hk => ?_⟩
    (try dsimp only)
    obtain ⟨k, rfl⟩ : ∃ m, k = m + 1 := ⟨k - 1, by omega⟩
    simp only [slices_IndexFunc_int_int__61.l0]
    rw [if_neg (by simp)]; rfl
  | cons x q ih =>
    intro p h0
    simp only [List.length_cons] at h0
    cases hx : (!decide (0 ≤ x ∧ x ≤ 4294967295)) with
    | true =>
      refine ⟨1, fun k hk => ?_⟩
      (try dsimp only)
      obtain ⟨k, rfl⟩ : ∃ m, k = m + 1 := ⟨k - 1, by omega⟩
      simp only [slices_IndexFunc_int_int__61.l0]
      rw [if_pos (by simp; omega), if_pos (by omega), if_pos (by simp; omega), rd_mid, PutVec1_eq, Option.bind_some, hx, if_pos rfl, List.findIdx?_cons, hx]
      simp
    | false =>
      obtain ⟨K, hK⟩ := ih (p ++ [x]) (by simp; omega)
      (try dsimp only at hK)
      refine ⟨K + 1, fun k hk => ?_⟩
      (try dsimp only)
      obtain ⟨k, rfl, hk'⟩ := within_lo hk
      simp only [slices_IndexFunc_int_int__61.l0]
      have hK' := hK k (by omega)
      simp only [List.append_assoc, List.cons_append, List.nil_append] at hK'
      have e1 : wrap64 ((p.length : Int) + 1) = ((p ++ [x]).length : Int) := by
        rw [wrap64_id (by omega) (by omega)]; simp
      have e2 : ((p.length + (x :: q).length : Nat) : Int) = (((p ++ [x]).length + q.length : Nat) : Int) := by simp; omega
      rw [if_pos (by simp; omega), if_pos (by omega), if_pos (by simp; omega), rd_mid, PutVec1_eq, Option.bind_some, hx, if_neg (by simp), e1, e2, hK', List.findIdx?_cons, hx]
      cases q.findIdx? (fun a => !decide (0 ≤ a ∧ a ≤ 4294967295)) with
      | none => rfl
      | some j => simp; omega
theorem contains61_ev (l : List Int) (h : l.length ≤ 1048576) : Ev (fun k => slices_ContainsFunc_int_int__61.f k l) (l.any fun a => !decide (0 ≤ a ∧ a ≤ 4294967295)) := by
  obtain ⟨K, hK⟩ := idx61_l0 l [] (by simpa using h)
  (try dsimp only at hK)
  refine ⟨K, fun k hk => ?_⟩
  (try dsimp only)
  unfold slices_ContainsFunc_int_int__61.f slices_IndexFunc_int_int__61.f
  have hK' := hK k hk
  simp only [List.nil_append, List.length_nil, Nat.zero_add] at hK'
  have : ((0 : Nat) : Int) = 0 := rfl
  rw [this] at hK'
  rw [hK', Option.bind_some]
  congr 1
  rw [Bool.eq_iff_iff, decide_eq_true_iff, List.any_eq_true]
  cases hf : l.findIdx? (fun a => !decide (0 ≤ a ∧ a ≤ 4294967295)) with
  | none =>
    rw [List.findIdx?_eq_none_iff] at hf
    simp only [ge_iff_le]
    constructor
    · intro h; omega
    · rintro ⟨x, hx, h⟩; rw [hf x hx] at h; simp at h
  | some j =>
    simp only [ge_iff_le]
    constructor
    · intro _
      obtain ⟨hj, h1, _⟩ := List.findIdx?_eq_some_iff_getElem.mp hf
      exact ⟨l[j], List.getElem_mem hj, h1⟩
    · intro _; omega
theorem putVec_l0 (q : List Int) : ∀ (p : List Int) (s : List Int), p.length + q.length ≤ 50 → s.length + 10 * q.length ≤ 1000000 → (∀ x ∈ q, 0 ≤ x ∧ x ≤ 4294967295) →
    Ev (fun k => impl_putVec.l0 k s (p ++ q) ((p.length + q.length : Nat) : Int) (p.length : Int)) (s ++ q.flatMap fun x => lebU x.toNat) := by
  induction q with
  | nil =>
    intro p s h0 h1 hx
    refine ⟨1, fun k hk => ?_⟩
    (try dsimp only)
    obtain ⟨k, rfl⟩ : ∃ m, k = m + 1 := ⟨k - 1, by omega⟩
    simp only [impl_putVec.l0]
    rw [if_neg (by simp), List.flatMap_nil, List.append_nil]
  | cons x q ih =>
    intro p s h0 h1 hx
    simp only [List.length_cons] at h0 h1
    obtain ⟨hx0, hx1⟩ := hx x List.mem_cons_self
    have hl := lebU_len 4 x.toNat (by omega)
    obtain ⟨K1, hK1⟩ := putU_ev s x hx0 (by omega) (by omega)
    (try dsimp only at hK1)
    obtain ⟨K, hK⟩ := ih (p ++ [x]) (s ++ lebU x.toNat) (by simp; omega) (by simp; omega) (fun y hy => hx y (List.mem_cons_of_mem _ hy))
    (try dsimp only at hK)
    refine ⟨K + K1 + 1, fun k hk => ?_⟩
    (try dsimp only)
    obtain ⟨k, rfl, hk'⟩ := within_lo hk
    simp only [impl_putVec.l0]
    have hK' := hK k (by omega)
    simp only [List.append_assoc, List.cons_append, List.nil_append] at hK'
    have e1 : wrap64 ((p.length : Int) + 1) = ((p ++ [x]).length : Int) := by
      rw [wrap64_id (by omega) (by omega)]; simp
    have e2 : ((p.length + (x :: q).length : Nat) : Int) = (((p ++ [x]).length + q.length : Nat) : Int) := by simp; omega
    rw [if_pos (by simp; omega), if_pos (by omega), if_pos (by simp; omega), rd_mid, hK1 k (by omega), Option.bind_some, e1, e2, hK', List.flatMap_cons]
theorem iPutVec_ev (l : List Int) (h : l.length ≤ 1048576) : Ev (fun k => impl_PutVec.f k l) (putVecR l) := by
  by_cases hl : l.length ≤ 50
  · obtain ⟨K, hK⟩ := contains61_ev l h
    (try dsimp only at hK)
    by_cases hx : ∀ x ∈ l, 0 ≤ x ∧ x ≤ 4294967295
    · have ha : (l.any fun a => !decide (0 ≤ a ∧ a ≤ 4294967295)) = false := by
        rw [List.any_eq_false]; intro x hx'; simp only [decide_eq_true (hx x hx'), Bool.not_true]; simp
      have hll := lebU_len 4 l.length (by omega)
      obtain ⟨K1, hK1⟩ := putU_ev [] (l.length : Int) (by omega) (by omega) (by simp)
      (try dsimp only at hK1)
      obtain ⟨K2, hK2⟩ := putVec_l0 l [] (lebU l.length) (by simpa using hl) (by omega) hx
      (try dsimp only at hK2)
      refine ⟨K + K1 + K2, fun k hk => ?_⟩
      (try dsimp only)
      have hK' := hK2 k (by omega)
      simp only [List.nil_append, List.length_nil, Nat.zero_add] at hK'
      have : ((0 : Nat) : Int) = 0 := rfl
      rw [this] at hK'
      unfold impl_PutVec.f impl_putVec.f
      rw [if_neg (by omega), hK k (by omega), Option.bind_some, ha, if_neg (by simp), hK1 k (by omega), Option.bind_some, List.nil_append, Int.toNat_natCast, hK', Option.bind_some, putVecR_good hx hl]
    · obtain ⟨x, hx', hx''⟩ : ∃ x ∈ l, ¬ (0 ≤ x ∧ x ≤ 4294967295) := by
        apply Classical.byContradiction; intro hc; apply hx; intro x hx'; apply Classical.byContradiction; intro hc'; exact hc ⟨x, hx', hc'⟩
      have ha : (l.any fun a => !decide (0 ≤ a ∧ a ≤ 4294967295)) = true := by
        rw [List.any_eq_true]; exact ⟨x, hx', by simp only [decide_eq_false hx'', Bool.not_false]⟩
      refine ⟨K, fun k hk => ?_⟩
      (try dsimp only)
      unfold impl_PutVec.f
      rw [if_neg (by omega), hK k (by omega), Option.bind_some, ha, if_pos rfl, putVecR_bad hx' hx'']
  · refine ⟨0, fun k _ => ?_⟩
    (try dsimp only)
    unfold impl_PutVec.f
    rw [if_pos (by omega), putVecR_long hl]

theorem toIntS_l0 (q : List Int) : ∀ (p : List Int), p.length + q.length ≤ 1000000000000000 → Ev (fun k => laws_toIntS.l0 k (p ++ q) (p ++ List.replicate q.length 0) (p.length : Int)) (p ++ q) := by
  induction q with
  | nil =>
    intro p h0
    refine ⟨1, fun k hk => ?_⟩
    (try dsimp only)
    obtain ⟨k, rfl⟩ : ∃ m, k = m + 1 := ⟨k - 1, by omega⟩
    simp only [laws_toIntS.l0]
    rw [if_neg (by simp)]; simp
  | cons x q ih =>
    intro p h0
    simp only [List.length_cons] at h0
    obtain ⟨K, hK⟩ := ih (p ++ [x]) (by simp; omega)
    (try dsimp only at hK)
    refine ⟨K + 1, fun k hk => ?_⟩
    (try dsimp only)
    obtain ⟨k, rfl, hk'⟩ := within_lo hk
    simp only [laws_toIntS.l0]
    have hK' := hK k hk'
    simp only [List.append_assoc, List.cons_append, List.nil_append] at hK'
    have e1 : wrap64 ((p.length : Int) + 1) = ((p ++ [x]).length : Int) := by
      rw [wrap64_id (by omega) (by omega)]; simp
    rw [if_pos (by simp; omega), if_pos (by omega), if_pos (by simp; omega), Int.toNat_natCast, rd_mid, List.length_cons, List.replicate_succ, set_mid, e1, hK']
theorem toIntS_ev (l : List Int) (h : l.length ≤ 1048576) : Ev (fun k => laws_toIntS.f k l) l := by
  obtain ⟨K, hK⟩ := toIntS_l0 l [] (by simp; omega)
  (try dsimp only at hK)
  refine ⟨K, fun k hk => ?_⟩
  (try dsimp only)
  unfold laws_toIntS.f
  rw [if_pos (by omega), if_pos (by omega), Int.toNat_natCast]
  exact hK k hk

theorem eqIntS_l0 (d : Nat) : ∀ (p p' q q' : List Int), p.length = p'.length → q.length = d → q'.length = d → p.length + d ≤ 1000000000000000 → Ev (fun k => laws_eqIntS.l0 k (p ++ q) (p' ++ q') (p.length : Int)) (decide (q = q')) := by
  induction d with
  | zero =>
    intro p p' q q' hp hq hq' hb
    obtain rfl : q = [] := by simpa using hq
    obtain rfl : q' = [] := by simpa using hq'
    refine ⟨1, fun k hk => ?_⟩
    (try dsimp only)
    obtain ⟨k, rfl⟩ : ∃ m, k = m + 1 := ⟨k - 1, by omega⟩
    simp only [laws_eqIntS.l0]
    rw [if_neg (by simp)]; rfl
  | succ d ih =>
    intro p p' q q' hp hq hq' hb
    match q, q', hq, hq' with
    | x :: q, y :: q', hq, hq' =>
      simp only [List.length_cons] at hq hq'
      have r1 := rd_mid p q x
      have r2 := rd_mid p' q' y
      rw [← hp] at r2
      have e1 : wrap64 ((p.length : Int) + 1) = ((p ++ [x]).length : Int) := by
        rw [wrap64_id (by omega) (by omega)]; simp
      by_cases hxy : x = y
      · subst hxy
        obtain ⟨K, hK⟩ := ih (p ++ [x]) (p' ++ [x]) q q' (by simp [hp]) (by omega) (by omega) (by simp; omega)
        (try dsimp only at hK)
        refine ⟨K + 1, fun k hk => ?_⟩
        (try dsimp only)
        obtain ⟨k, rfl, hk'⟩ := within_lo hk
        simp only [laws_eqIntS.l0]
        have hK' := hK k hk'
        simp only [List.append_assoc, List.cons_append, List.nil_append] at hK'
        rw [if_pos (by simp; omega), if_pos (by omega), if_pos (by simp; omega), r1, r2, if_pos rfl, e1, hK']
        simp
      · refine ⟨1, fun k hk => ?_⟩
        (try dsimp only)
        obtain ⟨k, rfl⟩ : ∃ m, k = m + 1 := ⟨k - 1, by omega⟩
        simp only [laws_eqIntS.l0]
        rw [if_pos (by simp; omega), if_pos (by omega), if_pos (by simp; omega), r1, r2, if_neg hxy]
        simp [hxy]
theorem eqIntS_ev (a b : List Int) (h : a.length ≤ 1000000000000000) : Ev (fun k => laws_eqIntS.f k a b) (decide (a = b)) := by
  by_cases hl : a.length = b.length
  · obtain ⟨K, hK⟩ := eqIntS_l0 a.length [] [] a b rfl rfl hl.symm (by simpa using h)
    (try dsimp only at hK)
    refine ⟨K, fun k hk => ?_⟩
    (try dsimp only)
    unfold laws_eqIntS.f
    rw [if_pos (by omega)]
    exact hK k hk
  · refine ⟨0, fun k _ => ?_⟩
    (try dsimp only)
    unfold laws_eqIntS.f
    rw [if_neg (by omega)]
    congr 1; symm
    rw [decide_eq_false_iff_not]
    rintro rfl; exact hl rfl

theorem FnExactPutVec : laws_FnExactPutVec.Pure := by
  intro l _ _ _
  by_cases hl : l.length ≤ 1048576
  · obtain ⟨K1, h1⟩ := toIntS_ev l hl
    (try dsimp only at h1)
    obtain ⟨K2, h2⟩ := sPutVec_ev l hl
    (try dsimp only at h2)
    obtain ⟨K3, h3⟩ := iPutVec_ev l hl
    (try dsimp only at h3)
    obtain ⟨K4, h4⟩ := eqIntS_ev l l (by omega)
    (try dsimp only at h4)
    refine ⟨K1 + K2 + K3 + K4 + 1, ?_⟩
    unfold laws_FnExactPutVec.f
    rw [if_neg (by omega), h1 _ (by omega), Option.bind_some, h2 _ (by omega), Option.bind_some, Option.bind_some, h3 _ (by omega), Option.bind_some, if_pos (by trivial)]
    simp only [laws_FnExactPutVec.j0]
    rw [if_neg (by simp), h1 _ (by omega), Option.bind_some, h4 _ (by omega), Option.bind_some, if_pos (by simp)]
  · exact ⟨0, by unfold laws_FnExactPutVec.f; rw [if_pos (by omega)]⟩

end Go.Proofs.Ytofokedphkmfnaa.Pure
