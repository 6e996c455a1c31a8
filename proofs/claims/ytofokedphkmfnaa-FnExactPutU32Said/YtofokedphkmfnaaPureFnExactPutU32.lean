/- Of every number the law of putu32 tells true. No condition beyond the row's own. -/
import Derived.Test.YtofokedphkmfnaaPFnExactPutU32x1
import Derived.Test.YtofokedphkmfnaaLib1
namespace Go.Proofs.Ytofokedphkmfnaa.Pure
open Go.RowKit Go.Proofs.Ytofokedphkmfnaa.Lib Go.Proofs.Ytofokedphkmfnaa.PFnExactPutU32 Go.Proofs.YtofokedphkmfnaaW.PrintWords Go.Proofs.YtofokedphkmfnaaW.PrintLast Go.Proofs.YtofokedphkmfnaaW.PrintMore

theorem l1In_eq (a b c : Int) : spec_l1In.f a b c = some (decide (b ≤ a ∧ a ≤ c)) := by
  unfold spec_l1In.f
  by_cases h : a ≥ b
  · rw [if_pos h]; simp [show b ≤ a from h]
  · rw [if_neg h]; simp; omega

theorem l1U32_eq (a : Int) : spec_l1U32.f a = some (decide (0 ≤ a ∧ a ≤ 4294967295)) := by
  unfold spec_l1U32.f; rw [l1In_eq]; rfl

theorem l1PutU_l0 (n : Nat) : ∀ s : ByteArray, s.size + (lebU n).length ≤ 9223372036854775807 → Ev (fun k => spec_l1PutU.l0 k (n : Int) s) (s ++ strOfNums (lebU n)) := by
  induction n using Nat.strongRecOn with
  | ind n ih =>
    intro s hs
    by_cases hn : n < 128
    · refine ⟨1, fun k hk => ?_⟩
      (try dsimp only)
      obtain ⟨k, rfl⟩ : ∃ m, k = m + 1 := ⟨k - 1, by omega⟩
      simp only [spec_l1PutU.l0]
      rw [lebU_small hn] at hs ⊢
      rw [if_neg (by omega), Option.bind_some, show ((n : Int)) % 256 = n from by omega, if_pos (by rw [strOfNums_size]; exact hs)]
    · rw [lebU_big hn] at hs ⊢
      simp only [List.length_cons] at hs
      obtain ⟨K, hK⟩ := ih (n / 128) (by omega) (s ++ strOfNums [(n : Int) % 128 + 128]) (by rw [str_append_size, strOfNums_size]; simp only [List.length_cons, List.length_nil]; omega)
      (try dsimp only at hK)
      refine ⟨K + 1, fun k hk => ?_⟩
      (try dsimp only)
      obtain ⟨k, rfl, hk'⟩ := within_lo hk
      simp only [spec_l1PutU.l0]
      rw [if_pos (by omega), Option.bind_some, i64_and127, i64_or128 _ (by omega) (by omega), show ((n : Int) % 128 + 128) % 256 = (n : Int) % 128 + 128 from by omega,
        if_pos (by rw [strOfNums_size]; simp only [List.length_cons, List.length_nil]; omega), show ((n : Int)) / 128 = ((n / 128 : Nat) : Int) from by omega, hK k hk',
        append_str_assoc, ← strOfNums_append]
      rfl
theorem l1PutU_ev (a : Int) (h0 : 0 ≤ a) (h1 : a ≤ 9223372036854775807) : Ev (fun k => spec_l1PutU.f k a) (strOfNums (lebU a.toNat)) := by
  obtain ⟨n, rfl⟩ := Int.eq_ofNat_of_zero_le h0
  have hl := lebU_len 9 n (by omega)
  obtain ⟨K, hK⟩ := l1PutU_l0 n (⟨#[]⟩ : ByteArray) (by show 0 + _ ≤ _; omega)
  (try dsimp only at hK)
  refine ⟨K, fun k hk => ?_⟩
  (try dsimp only)
  unfold spec_l1PutU.f
  rw [hK k hk, nil_append_str]; rfl

theorem sPutU32_ev (a : Int) : Ev (fun k => spec_PutU32.f k a) (if 0 ≤ a ∧ a ≤ 4294967295 then (strOfNums (lebU a.toNat), true) else ((⟨#[]⟩ : ByteArray), false)) := by
  by_cases h : 0 ≤ a ∧ a ≤ 4294967295
  · obtain ⟨K, hK⟩ := l1PutU_ev a h.1 (by omega)
    (try dsimp only at hK)
    refine ⟨K, fun k hk => ?_⟩
    (try dsimp only)
    unfold spec_PutU32.f
    rw [l1U32_eq, Option.bind_some, if_pos (by simpa using h), hK k hk, if_pos h]; rfl
  · refine ⟨0, fun k _ => ?_⟩
    (try dsimp only)
    unfold spec_PutU32.f
    rw [l1U32_eq, Option.bind_some, if_neg (by simpa using h), if_neg h]

theorem within_eq (a b c : Int) : impl_within.f a b c = some (decide (b ≤ a ∧ a ≤ c)) := by
  unfold impl_within.f
  by_cases h : a ≥ b
  · rw [if_pos h]; simp [show b ≤ a from h]
  · rw [if_neg h]; simp; omega

theorem putU_l0 (n : Nat) : ∀ l : List Int, l.length + (lebU n).length ≤ 140737488355328 → Ev (fun k => impl_putU.l0 k l (n : Int)) (l ++ lebU n) := by
  induction n using Nat.strongRecOn with
  | ind n ih =>
    intro s hs
    by_cases hn : n < 128
    · refine ⟨1, fun k hk => ?_⟩
      (try dsimp only)
      obtain ⟨k, rfl⟩ : ∃ m, k = m + 1 := ⟨k - 1, by omega⟩
      simp only [impl_putU.l0]
      rw [lebU_small hn] at hs ⊢
      simp only [List.length_cons, List.length_nil] at hs
      rw [if_neg (by omega), if_pos (by omega), show ((n : Int)) % 256 = n from by omega]
    · rw [lebU_big hn] at hs ⊢
      simp only [List.length_cons] at hs
      obtain ⟨K, hK⟩ := ih (n / 128) (by omega) (s ++ [(n : Int) % 128 + 128]) (by simp only [List.length_append, List.length_cons, List.length_nil]; omega)
      (try dsimp only at hK)
      refine ⟨K + 1, fun k hk => ?_⟩
      (try dsimp only)
      obtain ⟨k, rfl, hk'⟩ := within_lo hk
      simp only [impl_putU.l0]
      rw [if_pos (by omega), if_pos (by omega), u8_or128_any, show ((n : Int)) / 128 = ((n / 128 : Nat) : Int) from by omega, hK k hk', List.append_assoc]
      rfl
theorem putU_ev (l : List Int) (a : Int) (h0 : 0 ≤ a) (h1 : a ≤ 9223372036854775807) (hl : l.length + 10 ≤ 140737488355328) : Ev (fun k => impl_putU.f k l a) (l ++ lebU a.toNat) := by
  obtain ⟨n, rfl⟩ := Int.eq_ofNat_of_zero_le h0
  have hl' := lebU_len 9 n (by omega)
  obtain ⟨K, hK⟩ := putU_l0 n l (by omega)
  (try dsimp only at hK)
  exact ⟨K, fun k hk => by unfold impl_putU.f; exact hK k hk⟩

theorem iPutU32_ev (a : Int) : Ev (fun k => impl_PutU32.f k a) (if 0 ≤ a ∧ a ≤ 4294967295 then (strOfNums (lebU a.toNat), true) else ((⟨#[]⟩ : ByteArray), false)) := by
  by_cases h : 0 ≤ a ∧ a ≤ 4294967295
  · obtain ⟨K, hK⟩ := putU_ev [] a h.1 (by omega) (by simp)
    (try dsimp only at hK)
    refine ⟨K, fun k hk => ?_⟩
    (try dsimp only)
    unfold impl_PutU32.f
    rw [within_eq, Option.bind_some, if_pos (by simpa using h), hK k hk, if_pos h]; rfl
  · refine ⟨0, fun k _ => ?_⟩
    (try dsimp only)
    unfold impl_PutU32.f
    rw [within_eq, Option.bind_some, if_neg (by simpa using h), if_neg h]

theorem FnExactPutU32 : laws_FnExactPutU32.Pure := by
  intro a _
  obtain ⟨K1, h1⟩ := sPutU32_ev a
  (try dsimp only at h1)
  obtain ⟨K2, h2⟩ := iPutU32_ev a
  (try dsimp only at h2)
  refine ⟨K1 + K2, ?_⟩
  unfold laws_FnExactPutU32.f
  rw [h1 _ (by omega), Option.bind_some, h2 _ (by omega), Option.bind_some, if_pos rfl, if_neg (by simp)]

end Go.Proofs.Ytofokedphkmfnaa.Pure
