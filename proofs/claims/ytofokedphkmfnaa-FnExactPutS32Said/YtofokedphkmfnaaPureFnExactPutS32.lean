/- Of every number the law of puts32 tells true. No condition beyond the row's own. -/
import Derived.Test.YtofokedphkmfnaaPFnExactPutS32x1
import Derived.Test.YtofokedphkmfnaaLib1
namespace Go.Proofs.Ytofokedphkmfnaa.Pure
open Go.RowKit Go.Proofs.Ytofokedphkmfnaa.Lib Go.Proofs.Ytofokedphkmfnaa.PFnExactPutS32 Go.Proofs.YtofokedphkmfnaaW.PrintWords Go.Proofs.YtofokedphkmfnaaW.PrintLast Go.Proofs.YtofokedphkmfnaaW.PrintMore

theorem l1In_eq (a b c : Int) : spec_l1In.f a b c = some (decide (b ≤ a ∧ a ≤ c)) := by
  unfold spec_l1In.f
  by_cases h : a ≥ b
  · rw [if_pos h]; simp [show b ≤ a from h]
  · rw [if_neg h]; simp; omega

theorem l1S32_eq (a : Int) : spec_l1S32.f a = some (decide (-2147483648 ≤ a ∧ a ≤ 2147483647)) := by
  unfold spec_l1S32.f; rw [l1In_eq]; rfl

theorem l1PutS_l0 (d : Nat) : ∀ (n : Int) (s : ByteArray), n.natAbs ≤ d → s.size + (lebS n).length ≤ 9223372036854775807 → Ev (fun k => spec_l1PutS.l0 k n s) (s ++ strOfNums (lebS n)) := by
  induction d using Nat.strongRecOn with
  | ind d ih =>
    intro n s hd hs
    by_cases hn : -64 ≤ n ∧ n ≤ 63
    · refine ⟨1, fun k hk => ?_⟩
      (try dsimp only)
      obtain ⟨k, rfl⟩ : ∃ m, k = m + 1 := ⟨k - 1, by omega⟩
      simp only [spec_l1PutS.l0]
      rw [lebS_small hn] at hs ⊢
      rw [l1In_eq, Option.bind_some, if_pos (by simpa using hn), Option.bind_some, i64_and127, show (n % 128) % 256 = n % 128 from by omega, if_pos (by rw [strOfNums_size]; exact hs)]
    · rw [lebS_big hn] at hs ⊢
      simp only [List.length_cons] at hs
      obtain ⟨K, hK⟩ := ih (n / 128).natAbs (by omega) (n / 128) (s ++ strOfNums [n % 128 + 128]) (Nat.le_refl _) (by rw [str_append_size, strOfNums_size]; simp only [List.length_cons, List.length_nil]; omega)
      (try dsimp only at hK)
      refine ⟨K + 1, fun k hk => ?_⟩
      (try dsimp only)
      obtain ⟨k, rfl, hk'⟩ := within_lo hk
      simp only [spec_l1PutS.l0]
      rw [l1In_eq, Option.bind_some, if_neg (by simpa using hn), Option.bind_some, i64_and127, i64_or128 _ (by omega) (by omega), show (n % 128 + 128) % 256 = n % 128 + 128 from by omega,
        if_pos (by rw [strOfNums_size]; simp only [List.length_cons, List.length_nil]; omega), hK k hk', append_str_assoc, ← strOfNums_append]
      rfl
theorem l1PutS_ev (a : Int) (h0 : -9223372036854775808 ≤ a) (h1 : a ≤ 9223372036854775807) : Ev (fun k => spec_l1PutS.f k a) (strOfNums (lebS a)) := by
  have hl := lebS_len 9 a (by omega) (by omega)
  obtain ⟨K, hK⟩ := l1PutS_l0 _ a (⟨#[]⟩ : ByteArray) (Nat.le_refl _) (by show 0 + _ ≤ _; omega)
  (try dsimp only at hK)
  refine ⟨K, fun k hk => ?_⟩
  (try dsimp only)
  unfold spec_l1PutS.f
  rw [hK k hk, nil_append_str]

theorem sPutS32_ev (a : Int) : Ev (fun k => spec_PutS32.f k a) (if -2147483648 ≤ a ∧ a ≤ 2147483647 then (strOfNums (lebS a), true) else ((⟨#[]⟩ : ByteArray), false)) := by
  by_cases h : -2147483648 ≤ a ∧ a ≤ 2147483647
  · obtain ⟨K, hK⟩ := l1PutS_ev a (by omega) (by omega)
    (try dsimp only at hK)
    refine ⟨K, fun k hk => ?_⟩
    (try dsimp only)
    unfold spec_PutS32.f
    rw [l1S32_eq, Option.bind_some, if_pos (by simpa using h), hK k hk, if_pos h]; rfl
  · refine ⟨0, fun k _ => ?_⟩
    (try dsimp only)
    unfold spec_PutS32.f
    rw [l1S32_eq, Option.bind_some, if_neg (by simpa using h), if_neg h]

theorem within_eq (a b c : Int) : impl_within.f a b c = some (decide (b ≤ a ∧ a ≤ c)) := by
  unfold impl_within.f
  by_cases h : a ≥ b
  · rw [if_pos h]; simp [show b ≤ a from h]
  · rw [if_neg h]; simp; omega

theorem iPutS32_l0 (d : Nat) : ∀ (n : Int) (s : List Int), n.natAbs ≤ d → s.length + (lebS n).length ≤ 140737488355328 → Ev (fun k => impl_PutS32.l0 k n s) (strOfNums (s ++ lebS n), true) := by
  induction d using Nat.strongRecOn with
  | ind d ih =>
    intro n s hd hs
    by_cases hn : -64 ≤ n ∧ n ≤ 63
    · refine ⟨1, fun k hk => ?_⟩
      (try dsimp only)
      obtain ⟨k, rfl⟩ : ∃ m, k = m + 1 := ⟨k - 1, by omega⟩
      simp only [impl_PutS32.l0]
      rw [lebS_small hn] at hs ⊢
      simp only [List.length_cons, List.length_nil] at hs
      rw [within_eq, Option.bind_some, if_pos (by simpa using hn), if_pos (by omega), u8_and127_any]
    · rw [lebS_big hn] at hs ⊢
      simp only [List.length_cons] at hs
      obtain ⟨K, hK⟩ := ih (n / 128).natAbs (by omega) (n / 128) (s ++ [n % 128 + 128]) (Nat.le_refl _) (by simp only [List.length_append, List.length_cons, List.length_nil]; omega)
      (try dsimp only at hK)
      refine ⟨K + 1, fun k hk => ?_⟩
      (try dsimp only)
      obtain ⟨k, rfl, hk'⟩ := within_lo hk
      simp only [impl_PutS32.l0]
      rw [within_eq, Option.bind_some, if_neg (by simpa using hn), if_pos (by omega), u8_or128_any, hK k hk', List.append_assoc]
      rfl
theorem iPutS32_ev (a : Int) : Ev (fun k => impl_PutS32.f k a) (if -2147483648 ≤ a ∧ a ≤ 2147483647 then (strOfNums (lebS a), true) else ((⟨#[]⟩ : ByteArray), false)) := by
  by_cases h : -2147483648 ≤ a ∧ a ≤ 2147483647
  · have hl := lebS_len 9 a (by omega) (by omega)
    obtain ⟨K, hK⟩ := iPutS32_l0 _ a [] (Nat.le_refl _) (by simp only [List.length_nil]; omega)
    (try dsimp only at hK)
    refine ⟨K, fun k hk => ?_⟩
    (try dsimp only)
    unfold impl_PutS32.f
    rw [within_eq, Option.bind_some, if_pos (by simpa using h), hK k hk, if_pos h]; rfl
  · refine ⟨0, fun k _ => ?_⟩
    (try dsimp only)
    unfold impl_PutS32.f
    rw [within_eq, Option.bind_some, if_neg (by simpa using h), if_neg h]

theorem FnExactPutS32 : laws_FnExactPutS32.Pure := by
  intro a _
  obtain ⟨K1, h1⟩ := sPutS32_ev a
  (try dsimp only at h1)
  obtain ⟨K2, h2⟩ := iPutS32_ev a
  (try dsimp only at h2)
  refine ⟨K1 + K2, ?_⟩
  unfold laws_FnExactPutS32.f
  rw [h1 _ (by omega), Option.bind_some, h2 _ (by omega), Option.bind_some, if_pos rfl, if_neg (by simp)]

end Go.Proofs.Ytofokedphkmfnaa.Pure
