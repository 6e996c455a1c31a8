/- Of every text the law of isleast tells true. No condition beyond the row's own. -/
import Derived.Test.YtofokedphkmfnaaPFnExactIsLeastx2
import Derived.Test.YtofokedphkmfnaaLib1
namespace Go.Proofs.Ytofokedphkmfnaa.Pure
open Go.RowKit Go.Proofs.Ytofokedphkmfnaa.Lib Go.Proofs.Ytofokedphkmfnaa.PFnExactIsLeast Go.Proofs.YtofokedphkmfnaaW.PrintWords Go.Proofs.YtofokedphkmfnaaW.PrintLast Go.Proofs.YtofokedphkmfnaaW.PrintMore

theorem l1In_eq (a b c : Int) : spec_l1In.f a b c = some (decide (b ≤ a ∧ a ≤ c)) := by
  unfold spec_l1In.f
  by_cases h : a ≥ b
  · rw [if_pos h]; simp [show b ≤ a from h]
  · rw [if_neg h]; simp; omega

theorem l1U32_eq (a : Int) : spec_l1U32.f a = some (decide (0 ≤ a ∧ a ≤ 4294967295)) := by
  unfold spec_l1U32.f; rw [l1In_eq]; rfl

theorem l1Text_eq (s : ByteArray) (a : Int) : spec_l1Text.f s a = some (decide (s.size ≤ 1000 ∧ 0 ≤ a ∧ a < s.size)) := by
  unfold spec_l1Text.f
  by_cases h : (s.size : Int) ≤ 1000
  · rw [if_pos h]
    by_cases h2 : a ≥ 0
    · rw [if_pos h2]; congr 1; simp only [decide_eq_decide]; omega
    · rw [if_neg h2]; congr 1; symm; simp only [decide_eq_false_iff_not]; omega
  · rw [if_neg h]; congr 1; symm; simp only [decide_eq_false_iff_not]; omega

/-- What the reading loop of the reference answers. -/
def tkS (n at0 : Int) (i : Nat) : Option (Int × Nat) → Int × Int × Int
  | none => (0, 0, 0)
  | some (v, m) => (n + 128 ^ i * v, 7 * ((i : Int) + m), at0 + m)
theorem l1Take_l0 (s : ByteArray) (hs : s.size ≤ 1000) (r : Nat) : ∀ (i : Nat) (at0 n : Int), i + r = 5 → 0 ≤ at0 → at0 ≤ s.size → 0 ≤ n → n < 128 ^ i →
    Ev (fun k => spec_l1Take.l0 k s at0 n (i : Int)) (tkS n at0 i (tk s r at0)) := by
  induction r with
  | zero =>
    intro i at0 n hi h0 h1 hn hn'
    refine ⟨1, fun k hk => ?_⟩
    (try dsimp only)
    obtain ⟨k, rfl⟩ : ∃ m, k = m + 1 := ⟨k - 1, by omega⟩
    simp only [spec_l1Take.l0]
    rw [if_neg (by omega)]; rfl
  | succ r ih =>
    intro i at0 n hi h0 h1 hn hn'
    have hb := bt_range s at0
    by_cases hlt : at0 < (s.size : Int)
    · have e1 : wrap64 (7 * (i : Int)) = 7 * (i : Int) := wrap64_id (by omega) (by omega)
      have e2 : IntKind.u64.wrap (7 * (i : Int)) = 7 * (i : Int) := by simp [IntKind.wrap, IntKind.bits, IntKind.signed]; omega
      have e3 : wrap64 (bt s at0) = bt s at0 := wrap64_id (by omega) (by omega)
      have e4 : wrap64 (at0 + 1) = at0 + 1 := wrap64_id (by omega) (by omega)
      have e5 := or_shl i (by omega) n (bt s at0 % 128) hn hn' (by omega) (by omega)
      by_cases hsm : bt s at0 < 128
      · refine ⟨1, fun k hk => ?_⟩
        (try dsimp only)
        obtain ⟨k, rfl⟩ : ∃ m, k = m + 1 := ⟨k - 1, by omega⟩
        simp only [spec_l1Take.l0, tk]
        rw [if_pos (by omega), if_neg (by omega), if_pos h0, if_pos hlt, e1, e2, if_pos (by omega), e3, if_pos hsm, i64_and127, e5, if_pos hlt, if_pos hsm, e4, wrap64_id (by omega) (by omega)]
        simp only [tkS]
        rw [show bt s at0 % 128 = bt s at0 from by omega, show (7 * (i : Int) + 7) = 7 * ((i : Int) + (1 : Nat)) from by omega]; rfl
      · have hpow : (128 : Int) ^ (i + 1) = 128 * 128 ^ i := by rw [Int.pow_succ]; ac_rfl
        have hq : 0 ≤ (128 : Int) ^ i * (bt s at0 % 128) := Int.mul_nonneg (by omega) (by omega)
        have hq' : (128 : Int) ^ i * (bt s at0 % 128) ≤ 128 ^ i * 127 := Int.mul_le_mul (Int.le_refl _) (by omega) (by omega) (by omega)
        obtain ⟨K, hK⟩ := ih (i + 1) (at0 + 1) (n + 128 ^ i * (bt s at0 % 128)) (by omega) (by omega) (by omega) (by omega) (by rw [hpow]; omega)
        (try dsimp only at hK)
        refine ⟨K + 1, fun k hk => ?_⟩
        (try dsimp only)
        obtain ⟨k, rfl, hk'⟩ := within_lo hk
        simp only [spec_l1Take.l0, tk]
        rw [if_pos (by omega), if_neg (by omega), if_pos h0, if_pos hlt, e1, e2, if_pos (by omega), e3, if_neg hsm, i64_and127, e5, if_pos hlt, if_neg hsm, e4, wrap64_id (by omega) (by omega)]
        have hK' := hK k hk'
        rw [show ((i + 1 : Nat) : Int) = (i : Int) + 1 from by omega] at hK'
        rw [hK']
        cases tk s r (at0 + 1) with
        | none => rfl
        | some p =>
          obtain ⟨v, m⟩ := p
          simp only [tkS, Option.map_some, hpow, Option.some.injEq, Prod.mk.injEq]
          refine ⟨?_, by omega, by omega⟩
          rw [Int.mul_add, Int.mul_assoc, Int.mul_left_comm 128, ← Int.add_assoc]
    · refine ⟨1, fun k hk => ?_⟩
      (try dsimp only)
      obtain ⟨k, rfl⟩ : ∃ m, k = m + 1 := ⟨k - 1, by omega⟩
      simp only [spec_l1Take.l0, tk]
      rw [if_pos (by omega), if_pos (by omega), if_neg hlt]; rfl
theorem l1Take_ev (s : ByteArray) (hs : s.size ≤ 1000) (at0 : Int) (h0 : 0 ≤ at0) (h1 : at0 ≤ s.size) : Ev (fun k => spec_l1Take.f k s at0) (tkS 0 at0 0 (tk s 5 at0)) :=
  l1Take_l0 s hs 5 0 at0 0 rfl h0 h1 (Int.le_refl _) (by decide)

theorem sTakeU32_ev (s : ByteArray) (a : Int) : Ev (fun k => spec_TakeU32.f k s a) (takeU32 s a) := by
  by_cases h : s.size ≤ 1000 ∧ 0 ≤ a ∧ a < s.size
  · obtain ⟨K, hK⟩ := l1Take_ev s h.1 a h.2.1 (by omega)
    (try dsimp only at hK)
    have e : takeU32 s a = tuR s a := by unfold takeU32; rw [if_pos ⟨h.1, h.2.1⟩]
    rw [e]
    refine ⟨K, fun k hk => ?_⟩
    (try dsimp only)
    have hK' := hK k hk
    unfold spec_TakeU32.f
    rw [l1Text_eq, Option.bind_some, if_pos (by simpa using h)]
    cases ht : tk s 5 a with
    | none =>
      rw [ht] at hK'
      simp only [tkS] at hK'
      rw [hK', tuR_none ht]; rfl
    | some p =>
      obtain ⟨v, m⟩ := p
      obtain ⟨q0, _, q2, _, _⟩ := tk_some 5 ht
      rw [ht] at hK'
      simp only [tkS] at hK'
      rw [show (0 : Int) + 128 ^ 0 * v = v from by omega] at hK'
      rw [hK', tuR_some ht]
      dsimp only [Option.bind_some]
      rw [if_neg (by omega), l1U32_eq, Option.bind_some]
      by_cases hv : v ≤ 4294967295
      · rw [if_pos (by simp; omega), if_pos hv]
      · rw [if_neg (by simp; omega), if_neg hv]
  · refine ⟨0, fun k _ => ?_⟩
    (try dsimp only)
    unfold spec_TakeU32.f takeU32
    rw [l1Text_eq, Option.bind_some, if_neg (by simpa using h)]
    by_cases h2 : s.size ≤ 1000 ∧ 0 ≤ a
    · rw [if_pos h2, tuR_none (tk_out 5 (by omega))]
    · rw [if_neg h2]

/-- What the reading loop of the program answers. -/
def tkI (n at0 : Int) (i : Nat) : Option (Int × Nat) → Int × Int × Int × Bool
  | none => (0, 0, 0, false)
  | some (v, m) => (n + 128 ^ i * v, 7 * ((i : Int) + m), at0 + i + m, true)
theorem takeBits_l0 (s : ByteArray) (hs : s.size ≤ 1000) (at0 : Int) (h0 : 0 ≤ at0) (ha : at0 ≤ 9223372036854775000) (r : Nat) : ∀ (i : Nat) (n : Int), i + r = 5 → 0 ≤ n → n < 128 ^ i →
    Ev (fun k => impl_takeBits.l0 k s at0 n (i : Int)) (tkI n at0 i (tk s r (at0 + i))) := by
  induction r with
  | zero =>
    intro i n hi hn hn'
    refine ⟨2, fun k hk => ?_⟩
    (try dsimp only)
    obtain ⟨k, rfl⟩ : ∃ m, k = m + 2 := ⟨k - 2, by omega⟩
    simp only [impl_takeBits.l0, impl_takeBits.j1]
    rw [if_neg (by omega), if_neg (by simp)]; rfl
  | succ r ih =>
    intro i n hi hn hn'
    have hb := bt_range s (at0 + i)
    have e0 : wrap64 (at0 + (i : Int)) = at0 + i := wrap64_id (by omega) (by omega)
    by_cases hlt : at0 + (i : Int) < (s.size : Int)
    · have e1 : wrap64 (7 * (i : Int)) = 7 * (i : Int) := wrap64_id (by omega) (by omega)
      have e3 : wrap64 (bt s (at0 + i) % 128) = bt s (at0 + i) % 128 := wrap64_id (by omega) (by omega)
      have e6 : bits .and .u8 (bt s (at0 + i)) 127 = bt s (at0 + i) % 128 := by
        have := u8_and127_any (bt s (at0 + i)); rwa [show bt s (at0 + i) % 256 = bt s (at0 + i) from by omega] at this
      have e5 := or_shl i (by omega) n (bt s (at0 + i) % 128) hn hn' (by omega) (by omega)
      by_cases hsm : bt s (at0 + i) < 128
      · refine ⟨2, fun k hk => ?_⟩
        (try dsimp only)
        obtain ⟨k, rfl⟩ : ∃ m, k = m + 2 := ⟨k - 2, by omega⟩
        simp only [impl_takeBits.l0, impl_takeBits.j1, tk]
        rw [if_pos (by omega), e0, if_pos (by simpa using hlt), if_pos (by omega), if_pos hlt, e1, if_pos (by omega), if_pos hsm, e6, e3, e5, if_pos hlt, if_pos hsm, wrap64_id (x := (i : Int) + 1) (by omega) (by omega), wrap64_id (x := 7 * ((i : Int) + 1)) (by omega) (by omega), wrap64_id (x := at0 + (i : Int) + 1) (by omega) (by omega)]
        simp only [tkI]
        rw [show bt s (at0 + i) % 128 = bt s (at0 + i) from by omega, show 7 * ((i : Int) + 1) = 7 * ((i : Int) + (1 : Nat)) from by omega]; rfl
      · have hpow : (128 : Int) ^ (i + 1) = 128 * 128 ^ i := by rw [Int.pow_succ]; ac_rfl
        have hq : 0 ≤ (128 : Int) ^ i * (bt s (at0 + i) % 128) := Int.mul_nonneg (by omega) (by omega)
        have hq' : (128 : Int) ^ i * (bt s (at0 + i) % 128) ≤ 128 ^ i * 127 := Int.mul_le_mul (Int.le_refl _) (by omega) (by omega) (by omega)
        obtain ⟨K, hK⟩ := ih (i + 1) (n + 128 ^ i * (bt s (at0 + i) % 128)) (by omega) (by omega) (by rw [hpow]; omega)
        (try dsimp only at hK)
        refine ⟨K + 2, fun k hk => ?_⟩
        (try dsimp only)
        obtain ⟨k, rfl, hk'⟩ : ∃ m, k = m + 2 ∧ K ≤ m := ⟨k - 2, by omega, by omega⟩
        simp only [impl_takeBits.l0, impl_takeBits.j1, tk]
        rw [if_pos (by omega), e0, if_pos (by simpa using hlt), if_pos (by omega), if_pos hlt, e1, if_pos (by omega), if_neg hsm, e6, e3, e5, if_pos hlt, if_neg hsm, wrap64_id (x := (i : Int) + 1) (by omega) (by omega)]
        have hK' := hK k hk'
        rw [show ((i + 1 : Nat) : Int) = (i : Int) + 1 from by omega, show at0 + ((i : Int) + 1) = at0 + i + 1 from by omega] at hK'
        rw [hK']
        cases tk s r (at0 + i + 1) with
        | none => rfl
        | some p =>
          obtain ⟨v, m⟩ := p
          simp only [tkI, Option.map_some, hpow, Option.some.injEq, Prod.mk.injEq]
          refine ⟨?_, by omega, by omega, trivial⟩
          rw [Int.mul_add, Int.mul_assoc, Int.mul_left_comm 128, ← Int.add_assoc]
    · refine ⟨2, fun k hk => ?_⟩
      (try dsimp only)
      obtain ⟨k, rfl⟩ : ∃ m, k = m + 2 := ⟨k - 2, by omega⟩
      simp only [impl_takeBits.l0, impl_takeBits.j1, tk]
      rw [if_pos (by omega), e0, if_neg (by simpa using hlt), if_neg hlt]; rfl
theorem takeBits_ev (s : ByteArray) (hs : s.size ≤ 1000) (at0 : Int) (h0 : 0 ≤ at0) (h1 : at0 ≤ 9223372036854775807) : Ev (fun k => impl_takeBits.f k s at0) (tkI 0 at0 0 (tk s 5 at0)) := by
  by_cases ha : at0 ≤ 9223372036854775000
  · have := takeBits_l0 s hs at0 h0 ha 5 0 0 rfl (Int.le_refl _) (by decide)
    rw [show at0 + ((0 : Nat) : Int) = at0 from by omega] at this
    exact this
  · refine ⟨2, fun k hk => ?_⟩
    (try dsimp only)
    obtain ⟨k, rfl⟩ : ∃ m, k = m + 2 := ⟨k - 2, by omega⟩
    simp only [impl_takeBits.f, impl_takeBits.l0, impl_takeBits.j1, tk]
    rw [if_pos (by omega), wrap64_id (by omega) (by omega), if_neg (by simp; omega), if_neg (by omega)]; rfl

theorem takeU_ev (s : ByteArray) (hs : s.size ≤ 1000) (a : Int) (h0 : 0 ≤ a) (h1 : a ≤ 9223372036854775807) : Ev (fun k => impl_takeU.f k s a) (tuR s a) := by
  obtain ⟨K, hK⟩ := takeBits_ev s hs a h0 h1
  (try dsimp only at hK)
  refine ⟨K, fun k hk => ?_⟩
  (try dsimp only)
  have hK' := hK k hk
  unfold impl_takeU.f
  cases ht : tk s 5 a with
  | none =>
    rw [ht] at hK'
    simp only [tkI] at hK'
    rw [hK', tuR_none ht]; rfl
  | some p =>
    obtain ⟨v, m⟩ := p
    rw [ht] at hK'
    simp only [tkI] at hK'
    rw [show (0 : Int) + 128 ^ 0 * v = v from by omega, show a + ((0 : Nat) : Int) + m = a + m from by omega] at hK'
    rw [hK', tuR_some ht]
    dsimp only [Option.bind_some]
    rw [if_pos rfl]
    by_cases hv : v ≤ 4294967295
    · rw [if_neg (by omega), if_pos hv]
    · rw [if_pos (by omega), if_neg hv]

theorem iTakeU32_ev (s : ByteArray) (a : Int) (h1 : a ≤ 9223372036854775807) : Ev (fun k => impl_TakeU32.f k s a) (takeU32 s a) := by
  by_cases h : s.size ≤ 1000 ∧ 0 ≤ a
  · obtain ⟨K, hK⟩ := takeU_ev s h.1 a h.2 h1
    (try dsimp only at hK)
    refine ⟨K, fun k hk => ?_⟩
    (try dsimp only)
    unfold impl_TakeU32.f takeU32
    rw [if_neg (by omega), if_neg (by omega), hK k hk, Option.bind_some, if_pos h]
  · refine ⟨0, fun k _ => ?_⟩
    (try dsimp only)
    unfold impl_TakeU32.f takeU32
    rw [if_neg h]
    by_cases h2 : (s.size : Int) > 1000
    · rw [if_pos h2]
    · rw [if_neg h2, if_pos (by omega)]

theorem l1PutU_l0 (n : Nat) : ∀ s : ByteArray, s.size + (lebU n).length ≤ 9223372036854775807 → Ev (fun k => spec_l1PutU.l0 k (n : Int) s) (s ++ strOfNums (lebU n)) := by
  induction n using Nat.strongRecOn with
  | ind n ih =>
    intro s hs
    by_cases hn : n < 128
    · refine ⟨1, fun k hk => ?_⟩
      (try dsimp only)
      obtain ⟨k, rfl⟩ : ∃ m, k = m + 1 := ⟨k - 1, by omega⟩
      simp only [spec_l1PutU.l0]
      rw [lebU_small hn] at hs ⊢
      rw [if_neg (by omega), Option.bind_some, show ((n : Int)) % 256 = n from by omega, if_pos (by rw [strOfNums_size]; exact hs)]
    · rw [lebU_big hn] at hs ⊢
      simp only [List.length_cons] at hs
      obtain ⟨K, hK⟩ := ih (n / 128) (by omega) (s ++ strOfNums [(n : Int) % 128 + 128]) (by rw [str_append_size, strOfNums_size]; simp only [List.length_cons, List.length_nil]; omega)
      (try dsimp only at hK)
      refine ⟨K + 1, fun k hk => ?_⟩
      (try dsimp only)
      obtain ⟨k, rfl, hk'⟩ := within_lo hk
      simp only [spec_l1PutU.l0]
      rw [if_pos (by omega), Option.bind_some, i64_and127, i64_or128 _ (by omega) (by omega), show ((n : Int) % 128 + 128) % 256 = (n : Int) % 128 + 128 from by omega,
        if_pos (by rw [strOfNums_size]; simp only [List.length_cons, List.length_nil]; omega), show ((n : Int)) / 128 = ((n / 128 : Nat) : Int) from by omega, hK k hk',
        append_str_assoc, ← strOfNums_append]
      rfl
theorem l1PutU_ev (a : Int) (h0 : 0 ≤ a) (h1 : a ≤ 9223372036854775807) : Ev (fun k => spec_l1PutU.f k a) (strOfNums (lebU a.toNat)) := by
  obtain ⟨n, rfl⟩ := Int.eq_ofNat_of_zero_le h0
  have hl := lebU_len 9 n (by omega)
  obtain ⟨K, hK⟩ := l1PutU_l0 n (⟨#[]⟩ : ByteArray) (by show 0 + _ ≤ _; omega)
  (try dsimp only at hK)
  refine ⟨K, fun k hk => ?_⟩
  (try dsimp only)
  unfold spec_l1PutU.f
  rw [hK k hk, nil_append_str]; rfl

theorem putU_l0 (n : Nat) : ∀ l : List Int, l.length + (lebU n).length ≤ 140737488355328 → Ev (fun k => impl_putU.l0 k l (n : Int)) (l ++ lebU n) := by
  induction n using Nat.strongRecOn with
  | ind n ih =>
    intro s hs
    by_cases hn : n < 128
    · refine ⟨1, fun k hk => ?_⟩
      (try dsimp only)
      obtain ⟨k, rfl⟩ : ∃ m, k = m + 1 := ⟨k - 1, by omega⟩
      simp only [impl_putU.l0]
      rw [lebU_small hn] at hs ⊢
      simp only [List.length_cons, List.length_nil] at hs
      rw [if_neg (by omega), if_pos (by omega), show ((n : Int)) % 256 = n from by omega]
    · rw [lebU_big hn] at hs ⊢
      simp only [List.length_cons] at hs
      obtain ⟨K, hK⟩ := ih (n / 128) (by omega) (s ++ [(n : Int) % 128 + 128]) (by simp only [List.length_append, List.length_cons, List.length_nil]; omega)
      (try dsimp only at hK)
      refine ⟨K + 1, fun k hk => ?_⟩
      (try dsimp only)
      obtain ⟨k, rfl, hk'⟩ := within_lo hk
      simp only [impl_putU.l0]
      rw [if_pos (by omega), if_pos (by omega), u8_or128_any, show ((n : Int)) / 128 = ((n / 128 : Nat) : Int) from by omega, hK k hk', List.append_assoc]
      rfl
theorem putU_ev (l : List Int) (a : Int) (h0 : 0 ≤ a) (h1 : a ≤ 9223372036854775807) (hl : l.length + 10 ≤ 140737488355328) : Ev (fun k => impl_putU.f k l a) (l ++ lebU a.toNat) := by
  obtain ⟨n, rfl⟩ := Int.eq_ofNat_of_zero_le h0
  have hl' := lebU_len 9 n (by omega)
  obtain ⟨K, hK⟩ := putU_l0 n l (by omega)
  (try dsimp only at hK)
  exact ⟨K, fun k hk => by unfold impl_putU.f; exact hK k hk⟩

theorem FnExactIsLeast : laws_FnExactIsLeast.Pure := by
  intro s _
  obtain ⟨K1, h1⟩ := sTakeU32_ev s 0
  (try dsimp only at h1)
  obtain ⟨K2, h2⟩ := iTakeU32_ev s 0 (by omega)
  (try dsimp only at h2)
  rcases ht : takeU32 s 0 with ⟨v, e, ok⟩
  rw [ht] at h1 h2
  cases ok with
  | false =>
    refine ⟨K1 + K2, ?_⟩
    unfold laws_FnExactIsLeast.f spec_IsLeast.f impl_IsLeast.f
    split
    · rfl
    · rw [h1 _ (by omega), Option.bind_some, if_neg (by simp), Option.bind_some, h2 _ (by omega), Option.bind_some, if_neg (by simp), Option.bind_some, if_neg (by simp)]
  | true =>
    obtain ⟨q1, q2, q3, q4, q5, q6⟩ := takeU32_true ht
    obtain ⟨K3, h3⟩ := l1PutU_ev v q3 (by omega)
    (try dsimp only at h3)
    obtain ⟨K4, h4⟩ := putU_ev [] v q3 (by omega) (by simp)
    (try dsimp only at h4)
    refine ⟨K1 + K2 + K3 + K4, ?_⟩
    unfold laws_FnExactIsLeast.f spec_IsLeast.f impl_IsLeast.f
    rw [if_neg (by omega), h1 _ (by omega), Option.bind_some, if_pos rfl, h2 _ (by omega)]
    by_cases he : e = (s.size : Int)
    · simp only [Option.bind_some]
      rw [if_pos he, h3 _ (by omega), Option.bind_some, Option.bind_some, if_pos trivial, if_pos he, h4 _ (by omega), Option.bind_some, Option.bind_some, if_neg]
      have hu : tuR s 0 = (v, e, true) := by unfold takeU32 at ht; rwa [if_pos ⟨q1, q2⟩] at ht
      obtain ⟨m, h5, h6, h7⟩ := tuR_true hu
      obtain ⟨i1, i2⟩ := tk_least 5 h5
      have hm : m = s.size := by omega
      subst hm
      rw [List.nil_append]
      by_cases hl : (lebU v.toNat).length = s.size
      · have : (strOfNums (lebU v.toNat)) = s := by rw [i2 hl, bts_all]
        rw [this, hl]; simp
      · have e1 : (((lebU v.toNat).length : Int) == (s.size : Int)) = false := by simp; omega
        have e2 : ((strOfNums (lebU v.toNat)).toList == s.toList) = false := by
          rw [beq_eq_false_iff_ne]
          intro hh
          apply hl
          rw [← strOfNums_size, ← data_length (strOfNums _), ← data_length s]
          have hh' : (strOfNums (lebU v.toNat)).data.toList = s.data.toList := by
            rw [← ByteArray.toList_eq, ← ByteArray.toList_eq]; exact hh
          rw [hh']
        rw [e1, e2]; simp
    · simp only [Option.bind_some]
      rw [if_neg he, Option.bind_some, if_pos trivial, if_neg he, Option.bind_some, if_neg (by simp)]

end Go.Proofs.Ytofokedphkmfnaa.Pure
