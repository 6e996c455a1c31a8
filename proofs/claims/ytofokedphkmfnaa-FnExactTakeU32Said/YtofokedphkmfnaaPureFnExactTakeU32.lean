/- Of every text and place the law of takeu32 tells true. No condition beyond the row's own. -/
import Derived.Test.YtofokedphkmfnaaPFnExactTakeU32x1
import Derived.Test.YtofokedphkmfnaaLib1
namespace Go.Proofs.Ytofokedphkmfnaa.Pure
open Go.RowKit Go.Proofs.Ytofokedphkmfnaa.Lib Go.Proofs.Ytofokedphkmfnaa.PFnExactTakeU32 Go.Proofs.YtofokedphkmfnaaW.PrintWords Go.Proofs.YtofokedphkmfnaaW.PrintLast Go.Proofs.YtofokedphkmfnaaW.PrintMore

theorem l1In_eq (a b c : Int) : spec_l1In.f a b c = some (decide (b ≤ a ∧ a ≤ c)) := by
  unfold spec_l1In.f
  by_cases h : a ≥ b
  · rw [if_pos h]; simp [show b ≤ a from h]
  · rw [if_neg h]; simp; omega

theorem l1U32_eq (a : Int) : spec_l1U32.f a = some (decide (0 ≤ a ∧ a ≤ 4294967295)) := by
  unfold spec_l1U32.f; rw [l1In_eq]; rfl

theorem l1Text_eq (s : ByteArray) (a : Int) : spec_l1Text.f s a = some (decide (s.size ≤ 1000 ∧ 0 ≤ a ∧ a < s.size)) := by
  unfold spec_l1Text.f
  by_cases h : (s.size : Int) ≤ 1000
  · rw [if_pos h]
    by_cases h2 : a ≥ 0
    · rw [if_pos h2]; congr 1; simp only [decide_eq_decide]; omega
    · rw [if_neg h2]; congr 1; symm; simp only [decide_eq_false_iff_not]; omega
  · rw [if_neg h]; congr 1; symm; simp only [decide_eq_false_iff_not]; omega

/-- What the reading loop of the reference answers. -/
def tkS (n at0 : Int) (i : Nat) : Option (Int × Nat) → Int × Int × Int
  | none => (0, 0, 0)
  | some (v, m) => (n + 128 ^ i * v, 7 * ((i : Int) + m), at0 + m)
theorem l1Take_l0 (s : ByteArray) (hs : s.size ≤ 1000) (r : Nat) : ∀ (i : Nat) (at0 n : Int), i + r = 5 → 0 ≤ at0 → at0 ≤ s.size → 0 ≤ n → n < 128 ^ i →
    Ev (fun k => spec_l1Take.l0 k s at0 n (i : Int)) (tkS n at0 i (tk s r at0)) := by
  induction r with
  | zero =>
    intro i at0 n hi h0 h1 hn hn'
    refine ⟨1, fun k hk => ?_⟩
    (try dsimp only)
    obtain ⟨k, rfl⟩ : ∃ m, k = m + 1 := ⟨k - 1, by omega⟩
    simp only [spec_l1Take.l0]
    rw [if_neg (by omega)]; rfl
  | succ r ih =>
    intro i at0 n hi h0 h1 hn hn'
    have hb := bt_range s at0
    by_cases hlt : at0 < (s.size : Int)
    · have e1 : wrap64 (7 * (i : Int)) = 7 * (i : Int) := wrap64_id (by omega) (by omega)
      have e2 : IntKind.u64.wrap (7 * (i : Int)) = 7 * (i : Int) := by simp [IntKind.wrap, IntKind.bits, IntKind.signed]; omega
      have e3 : wrap64 (bt s at0) = bt s at0 := wrap64_id (by omega) (by omega)
      have e4 : wrap64 (at0 + 1) = at0 + 1 := wrap64_id (by omega) (by omega)
      have e5 := or_shl i (by omega) n (bt s at0 % 128) hn hn' (by omega) (by omega)
      by_cases hsm : bt s at0 < 128
      · refine ⟨1, fun k hk => ?_⟩
        (try dsimp only)
        obtain ⟨k, rfl⟩ : ∃ m, k = m + 1 := ⟨k - 1, by omega⟩
        simp only [spec_l1Take.l0, tk]
        rw [if_pos (by omega), if_neg (by omega), if_pos h0, if_pos hlt, e1, e2, if_pos (by omega), e3, if_pos hsm, i64_and127, e5, if_pos hlt, if_pos hsm, e4, wrap64_id (by omega) (by omega)]
        simp only [tkS]
        rw [show bt s at0 % 128 = bt s at0 from by omega, show (7 * (i : Int) + 7) = 7 * ((i : Int) + (1 : Nat)) from by omega]; rfl
      · have hpow : (128 : Int) ^ (i + 1) = 128 * 128 ^ i := by rw [Int.pow_succ]; ac_rfl
        have hq : 0 ≤ (128 : Int) ^ i * (bt s at0 % 128) := Int.mul_nonneg (by omega) (by omega)
        have hq' : (128 : Int) ^ i * (bt s at0 % 128) ≤ 128 ^ i * 127 := Int.mul_le_mul (Int.le_refl _) (by omega) (by omega) (by omega)
        obtain ⟨K, hK⟩ := ih (i + 1) (at0 + 1) (n + 128 ^ i * (bt s at0 % 128)) (by omega) (by omega) (by omega) (by omega) (by rw [hpow]; omega)
        (try dsimp only at hK)
        refine ⟨K + 1, fun k hk => ?_⟩
        (try dsimp only)
        obtain ⟨k, rfl, hk'⟩ := within_lo hk
        simp only [spec_l1Take.l0, tk]
        rw [if_pos (by omega), if_neg (by omega), if_pos h0, if_pos hlt, e1, e2, if_pos (by omega), e3, if_neg hsm, i64_and127, e5, if_pos hlt, if_neg hsm, e4, wrap64_id (by omega) (by omega)]
        have hK' := hK k hk'
        rw [show ((i + 1 : Nat) : Int) = (i : Int) + 1 from by omega] at hK'
        rw [hK']
        cases tk s r (at0 + 1) with
        | none => rfl
        | some p =>
          obtain ⟨v, m⟩ := p
          simp only [tkS, Option.map_some, hpow, Option.some.injEq, Prod.mk.injEq]
          refine ⟨?_, by omega, by omega⟩
          rw [Int.mul_add, Int.mul_assoc, Int.mul_left_comm 128, ← Int.add_assoc]
    · refine ⟨1, fun k hk => ?_⟩
      (try dsimp only)
      obtain ⟨k, rfl⟩ : ∃ m, k = m + 1 := ⟨k - 1, by omega⟩
      simp only [spec_l1Take.l0, tk]
      rw [if_pos (by omega), if_pos (by omega), if_neg hlt]; rfl
theorem l1Take_ev (s : ByteArray) (hs : s.size ≤ 1000) (at0 : Int) (h0 : 0 ≤ at0) (h1 : at0 ≤ s.size) : Ev (fun k => spec_l1Take.f k s at0) (tkS 0 at0 0 (tk s 5 at0)) :=
  l1Take_l0 s hs 5 0 at0 0 rfl h0 h1 (Int.le_refl _) (by decide)

theorem sTakeU32_ev (s : ByteArray) (a : Int) : Ev (fun k => spec_TakeU32.f k s a) (takeU32 s a) := by
  by_cases h : s.size ≤ 1000 ∧ 0 ≤ a ∧ a < s.size
  · obtain ⟨K, hK⟩ := l1Take_ev s h.1 a h.2.1 (by omega)
    (try dsimp only at hK)
    have e : takeU32 s a = tuR s a := by unfold takeU32; rw [if_pos ⟨h.1, h.2.1⟩]
    rw [e]
    refine ⟨K, fun k hk => ?_⟩
    (try dsimp only)
    have hK' := hK k hk
    unfold spec_TakeU32.f
    rw [l1Text_eq, Option.bind_some, if_pos (by simpa using h)]
    cases ht : tk s 5 a with
    | none =>
      rw [ht] at hK'
      simp only [tkS] at hK'
      rw [hK', tuR_none ht]; rfl
    | some p =>
      obtain ⟨v, m⟩ := p
      obtain ⟨q0, _, q2, _, _⟩ := tk_some 5 ht
      rw [ht] at hK'
      simp only [tkS] at hK'
      rw [show (0 : Int) + 128 ^ 0 * v = v from by omega] at hK'
      rw [hK', tuR_some ht]
      dsimp only [Option.bind_some]
      rw [if_neg (by omega), l1U32_eq, Option.bind_some]
      by_cases hv : v ≤ 4294967295
      · rw [if_pos (by simp; omega), if_pos hv]
      · rw [if_neg (by simp; omega), if_neg hv]
  · refine ⟨0, fun k _ => ?_⟩
    (try dsimp only)
    unfold spec_TakeU32.f takeU32
    rw [l1Text_eq, Option.bind_some, if_neg (by simpa using h)]
    by_cases h2 : s.size ≤ 1000 ∧ 0 ≤ a
    · rw [if_pos h2, tuR_none (tk_out 5 (by omega))]
    · rw [if_neg h2]

/-- What the reading loop of the program answers. -/
def tkI (n at0 : Int) (i : Nat) : Option (Int × Nat) → Int × Int × Int × Bool
  | none => (0, 0, 0, false)
  | some (v, m) => (n + 128 ^ i * v, 7 * ((i : Int) + m), at0 + i + m, true)
theorem takeBits_l0 (s : ByteArray) (hs : s.size ≤ 1000) (at0 : Int) (h0 : 0 ≤ at0) (ha : at0 ≤ 9223372036854775000) (r : Nat) : ∀ (i : Nat) (n : Int), i + r = 5 → 0 ≤ n → n < 128 ^ i →
    Ev (fun k => impl_takeBits.l0 k s at0 n (i : Int)) (tkI n at0 i (tk s r (at0 + i))) := by
  induction r with
  | zero =>
    intro i n hi hn hn'
    refine ⟨2, fun k hk => ?_⟩
    (try dsimp only)
    obtain ⟨k, rfl⟩ : ∃ m, k = m + 2 := ⟨k - 2, by omega⟩
    simp only [impl_takeBits.l0, impl_takeBits.j1]
    rw [if_neg (by omega), if_neg (by simp)]; rfl
  | succ r ih =>
    intro i n hi hn hn'
    have hb := bt_range s (at0 + i)
    have e0 : wrap64 (at0 + (i : Int)) = at0 + i := wrap64_id (by omega) (by omega)
    by_cases hlt : at0 + (i : Int) < (s.size : Int)
    · have e1 : wrap64 (7 * (i : Int)) = 7 * (i : Int) := wrap64_id (by omega) (by omega)
      have e3 : wrap64 (bt s (at0 + i) % 128) = bt s (at0 + i) % 128 := wrap64_id (by omega) (by omega)
      have e6 : bits .and .u8 (bt s (at0 + i)) 127 = bt s (at0 + i) % 128 := by
        have := u8_and127_any (bt s (at0 + i)); rwa [show bt s (at0 + i) % 256 = bt s (at0 + i) from by omega] at this
      have e5 := or_shl i (by omega) n (bt s (at0 + i) % 128) hn hn' (by omega) (by omega)
      by_cases hsm : bt s (at0 + i) < 128
      · refine ⟨2, fun k hk => ?_⟩
        (try dsimp only)
        obtain ⟨k, rfl⟩ : ∃ m, k = m + 2 := ⟨k - 2, by omega⟩
        simp only [impl_takeBits.l0, impl_takeBits.j1, tk]
        rw [if_pos (by omega), e0, if_pos (by simpa using hlt), if_pos (by omega), if_pos hlt, e1, if_pos (by omega), if_pos hsm, e6, e3, e5, if_pos hlt, if_pos hsm, wrap64_id (x := (i : Int) + 1) (by omega) (by omega), wrap64_id (x := 7 * ((i : Int) + 1)) (by omega) (by omega), wrap64_id (x := at0 + (i : Int) + 1) (by omega) (by omega)]
        simp only [tkI]
        rw [show bt s (at0 + i) % 128 = bt s (at0 + i) from by omega, show 7 * ((i : Int) + 1) = 7 * ((i : Int) + (1 : Nat)) from by omega]; rfl
      · have hpow : (128 : Int) ^ (i + 1) = 128 * 128 ^ i := by rw [Int.pow_succ]; ac_rfl
        have hq : 0 ≤ (128 : Int) ^ i * (bt s (at0 + i) % 128) := Int.mul_nonneg (by omega) (by omega)
        have hq' : (128 : Int) ^ i * (bt s (at0 + i) % 128) ≤ 128 ^ i * 127 := Int.mul_le_mul (Int.le_refl _) (by omega) (by omega) (by omega)
        obtain ⟨K, hK⟩ := ih (i + 1) (n + 128 ^ i * (bt s (at0 + i) % 128)) (by omega) (by omega) (by rw [hpow]; omega)
        (try dsimp only at hK)
        refine ⟨K + 2, fun k hk => ?_⟩
        (try dsimp only)
        obtain ⟨k, rfl, hk'⟩ : ∃ m, k = m + 2 ∧ K ≤ m := ⟨k - 2, by omega, by omega⟩
        simp only [impl_takeBits.l0, impl_takeBits.j1, tk]
        rw [if_pos (by omega), e0, if_pos (by simpa using hlt), if_pos (by omega), if_pos hlt, e1, if_pos (by omega), if_neg hsm, e6, e3, e5, if_pos hlt, if_neg hsm, wrap64_id (x := (i : Int) + 1) (by omega) (by omega)]
        have hK' := hK k hk'
        rw [show ((i + 1 : Nat) : Int) = (i : Int) + 1 from by omega, show at0 + ((i : Int) + 1) = at0 + i + 1 from by omega] at hK'
        rw [hK']
        cases tk s r (at0 + i + 1) with
        | none => rfl
        | some p =>
          obtain ⟨v, m⟩ := p
          simp only [tkI, Option.map_some, hpow, Option.some.injEq, Prod.mk.injEq]
          refine ⟨?_, by omega, by omega, trivial⟩
          rw [Int.mul_add, Int.mul_assoc, Int.mul_left_comm 128, ← Int.add_assoc]
    · refine ⟨2, fun k hk => ?_⟩
      (try dsimp only)
      obtain ⟨k, rfl⟩ : ∃ m, k = m + 2 := ⟨k - 2, by omega⟩
      simp only [impl_takeBits.l0, impl_takeBits.j1, tk]
      rw [if_pos (by omega), e0, if_neg (by simpa using hlt), if_neg hlt]; rfl
theorem takeBits_ev (s : ByteArray) (hs : s.size ≤ 1000) (at0 : Int) (h0 : 0 ≤ at0) (h1 : at0 ≤ 9223372036854775807) : Ev (fun k => impl_takeBits.f k s at0) (tkI 0 at0 0 (tk s 5 at0)) := by
  by_cases ha : at0 ≤ 9223372036854775000
  · have := takeBits_l0 s hs at0 h0 ha 5 0 0 rfl (Int.le_refl _) (by decide)
    rw [show at0 + ((0 : Nat) : Int) = at0 from by omega] at this
    exact this
  · refine ⟨2, fun k hk => ?_⟩
    (try dsimp only)
    obtain ⟨k, rfl⟩ : ∃ m, k = m + 2 := ⟨k - 2, by omega⟩
    simp only [impl_takeBits.f, impl_takeBits.l0, impl_takeBits.j1, tk]
    rw [if_pos (by omega), wrap64_id (by omega) (by omega), if_neg (by simp; omega), if_neg (by omega)]; rfl

theorem takeU_ev (s : ByteArray) (hs : s.size ≤ 1000) (a : Int) (h0 : 0 ≤ a) (h1 : a ≤ 9223372036854775807) : Ev (fun k => impl_takeU.f k s a) (tuR s a) := by
  obtain ⟨K, hK⟩ := takeBits_ev s hs a h0 h1
  (try dsimp only at hK)
  refine ⟨K, fun k hk => ?_⟩
  (try dsimp only)
  have hK' := hK k hk
  unfold impl_takeU.f
  cases ht : tk s 5 a with
  | none =>
    rw [ht] at hK'
    simp only [tkI] at hK'
    rw [hK', tuR_none ht]; rfl
  | some p =>
    obtain ⟨v, m⟩ := p
    rw [ht] at hK'
    simp only [tkI] at hK'
    rw [show (0 : Int) + 128 ^ 0 * v = v from by omega, show a + ((0 : Nat) : Int) + m = a + m from by omega] at hK'
    rw [hK', tuR_some ht]
    dsimp only [Option.bind_some]
    rw [if_pos rfl]
    by_cases hv : v ≤ 4294967295
    · rw [if_neg (by omega), if_pos hv]
    · rw [if_pos (by omega), if_neg hv]

theorem iTakeU32_ev (s : ByteArray) (a : Int) (h1 : a ≤ 9223372036854775807) : Ev (fun k => impl_TakeU32.f k s a) (takeU32 s a) := by
  by_cases h : s.size ≤ 1000 ∧ 0 ≤ a
  · obtain ⟨K, hK⟩ := takeU_ev s h.1 a h.2 h1
    (try dsimp only at hK)
    refine ⟨K, fun k hk => ?_⟩
    (try dsimp only)
    unfold impl_TakeU32.f takeU32
    rw [if_neg (by omega), if_neg (by omega), hK k hk, Option.bind_some, if_pos h]
  · refine ⟨0, fun k _ => ?_⟩
    (try dsimp only)
    unfold impl_TakeU32.f takeU32
    rw [if_neg h]
    by_cases h2 : (s.size : Int) > 1000
    · rw [if_pos h2]
    · rw [if_neg h2, if_pos (by omega)]

theorem FnExactTakeU32 : laws_FnExactTakeU32.Pure := by
  intro s a _ ha
  obtain ⟨K1, h1⟩ := sTakeU32_ev s a
  (try dsimp only at h1)
  obtain ⟨K2, h2⟩ := iTakeU32_ev s a (wf_i64 ha).2
  (try dsimp only at h2)
  refine ⟨K1 + K2, ?_⟩
  unfold laws_FnExactTakeU32.f
  split
  · rfl
  · rw [h1 _ (by omega), Option.bind_some, h2 _ (by omega), Option.bind_some, if_pos rfl, if_pos rfl, if_neg (by simp)]

end Go.Proofs.Ytofokedphkmfnaa.Pure
