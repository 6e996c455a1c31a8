/- Of every text and place the law of takevec tells true. No condition beyond the row's own. -/
import Derived.Test.YtofokedphkmfnaaQ1
import Derived.Test.YtofokedphkmfnaaQ13
import Derived.Test.YtofokedphkmfnaaQ15
import Derived.Test.YtofokedphkmfnaaQ16
import Derived.Test.YtofokedphkmfnaaQ17
import Derived.Test.YtofokedphkmfnaaQ18
import Derived.Test.YtofokedphkmfnaaQ2
import Derived.Test.YtofokedphkmfnaaQ5
import Derived.Test.YtofokedphkmfnaaQ6
import Derived.Test.YtofokedphkmfnaaQ7
import Derived.Test.YtofokedphkmfnaaLib1
namespace Go.Proofs.Ytofokedphkmfnaa.Pure
open Go.RowKit Go.Proofs.Ytofokedphkmfnaa.Lib Go.Proofs.Ytofokedphkmfnaa.Q Go.Proofs.YtofokedphkmfnaaW.PrintWords Go.Proofs.YtofokedphkmfnaaW.PrintLast Go.Proofs.YtofokedphkmfnaaW.PrintMore

theorem l1In_eq (a b c : Int) : spec_l1In.f a b c = some (decide (b ≤ a ∧ a ≤ c)) := by
  unfold spec_l1In.f
  by_cases h : a ≥ b
  · rw [if_pos h]; simp [show b ≤ a from h]
  · rw [if_neg h]; simp; omega

theorem l1U32_eq (a : Int) : spec_l1U32.f a = some (decide (0 ≤ a ∧ a ≤ 4294967295)) := by
  unfold spec_l1U32.f; rw [l1In_eq]; rfl

theorem l1Text_eq (s : ByteArray) (a : Int) : spec_l1Text.f s a = some (decide (s.size ≤ 1000 ∧ 0 ≤ a ∧ a < s.size)) := by
  unfold spec_l1Text.f
  by_cases h : (s.size : Int) ≤ 1000
  · rw [if_pos h]
    by_cases h2 : a ≥ 0
    · rw [if_pos h2]; congr 1; simp only [decide_eq_decide]; omega
    · rw [if_neg h2]; congr 1; symm; simp only [decide_eq_false_iff_not]; omega
  · rw [if_neg h]; congr 1; symm; simp only [decide_eq_false_iff_not]; omega

/-- What the reading loop of the reference answers. -/
def tkS (n at0 : Int) (i : Nat) : Option (Int × Nat) → Int × Int × Int
  | none => (0, 0, 0)
  | some (v, m) => (n + 128 ^ i * v, 7 * ((i : Int) + m), at0 + m)
theorem l1Take_l0 (s : ByteArray) (hs : s.size ≤ 1000) (r : Nat) : ∀ (i : Nat) (at0 n : Int), i + r = 5 → 0 ≤ at0 → at0 ≤ s.size → 0 ≤ n → n < 128 ^ i →
    Ev (fun k => spec_l1Take.l0 k s at0 n (i : Int)) (tkS n at0 i (tk s r at0)) := by
  induction r with
  | zero =>
    intro i at0 n hi h0 h1 hn hn'
    refine ⟨1, fun k hk => ?_⟩
    (try dsimp only)
    obtain ⟨k, rfl⟩ : ∃ m, k = m + 1 := ⟨k - 1, by omega⟩
    simp only [spec_l1Take.l0]
    rw [if_neg (by omega)]; rfl
  | succ r ih =>
    intro i at0 n hi h0 h1 hn hn'
    have hb := bt_range s at0
    by_cases hlt : at0 < (s.size : Int)
    · have e1 : wrap64 (7 * (i : Int)) = 7 * (i : Int) := wrap64_id (by omega) (by omega)
      have e2 : IntKind.u64.wrap (7 * (i : Int)) = 7 * (i : Int) := by simp [IntKind.wrap, IntKind.bits, IntKind.signed]; omega
      have e3 : wrap64 (bt s at0) = bt s at0 := wrap64_id (by omega) (by omega)
      have e4 : wrap64 (at0 + 1) = at0 + 1 := wrap64_id (by omega) (by omega)
      have e5 := or_shl i (by omega) n (bt s at0 % 128) hn hn' (by omega) (by omega)
      by_cases hsm : bt s at0 < 128
      · refine ⟨1, fun k hk => ?_⟩
        (try dsimp only)
        obtain ⟨k, rfl⟩ : ∃ m, k = m + 1 := ⟨k - 1, by omega⟩
        simp only [spec_l1Take.l0, tk]
        rw [if_pos (by omega), if_neg (by omega), if_pos h0, if_pos hlt, e1, e2, if_pos (by omega), e3, if_pos hsm, i64_and127, e5, if_pos hlt, if_pos hsm, e4, wrap64_id (by omega) (by omega)]
        simp only [tkS]
        rw [show bt s at0 % 128 = bt s at0 from by omega, show (7 * (i : Int) + 7) = 7 * ((i : Int) + (1 : Nat)) from by omega]; rfl
      · have hpow : (128 : Int) ^ (i + 1) = 128 * 128 ^ i := by rw [Int.pow_succ]; ac_rfl
        have hq : 0 ≤ (128 : Int) ^ i * (bt s at0 % 128) := Int.mul_nonneg (by omega) (by omega)
        have hq' : (128 : Int) ^ i * (bt s at0 % 128) ≤ 128 ^ i * 127 := Int.mul_le_mul (Int.le_refl _) (by omega) (by omega) (by omega)
        obtain ⟨K, hK⟩ := ih (i + 1) (at0 + 1) (n + 128 ^ i * (bt s at0 % 128)) (by omega) (by omega) (by omega) (by omega) (by rw [hpow]; omega)
        (try dsimp only at hK)
        refine ⟨K + 1, fun k hk => ?_⟩
        (try dsimp only)
        obtain ⟨k, rfl, hk'⟩ := within_lo hk
        simp only [spec_l1Take.l0, tk]
        rw [if_pos (by omega), if_neg (by omega), if_pos h0, if_pos hlt, e1, e2, if_pos (by omega), e3, if_neg hsm, i64_and127, e5, if_pos hlt, if_neg hsm, e4, wrap64_id (by omega) (by omega)]
        have hK' := hK k hk'
        rw [show ((i + 1 : Nat) : Int) = (i : Int) + 1 from by omega] at hK'
        rw [hK']
        cases tk s r (at0 + 1) with
        | none => rfl
        | some p =>
          obtain ⟨v, m⟩ := p
          simp only [tkS, Option.map_some, hpow, Option.some.injEq, Prod.mk.injEq]
          refine ⟨?_, by omega, by omega⟩
          rw [Int.mul_add, Int.mul_assoc, Int.mul_left_comm 128, ← Int.add_assoc]
    · refine ⟨1, fun k hk => ?_⟩
      (try dsimp only)
      obtain ⟨k, rfl⟩ : ∃ m, k = m + 1 := ⟨k - 1, by omega⟩
      simp only [spec_l1Take.l0, tk]
      rw [if_pos (by omega), if_pos (by omega), if_neg hlt]; rfl
theorem l1Take_ev (s : ByteArray) (hs : s.size ≤ 1000) (at0 : Int) (h0 : 0 ≤ at0) (h1 : at0 ≤ s.size) : Ev (fun k => spec_l1Take.f k s at0) (tkS 0 at0 0 (tk s 5 at0)) :=
  l1Take_l0 s hs 5 0 at0 0 rfl h0 h1 (Int.le_refl _) (by decide)

theorem sTakeU32_ev (s : ByteArray) (a : Int) : Ev (fun k => spec_TakeU32.f k s a) (takeU32 s a) := by
  by_cases h : s.size ≤ 1000 ∧ 0 ≤ a ∧ a < s.size
  · obtain ⟨K, hK⟩ := l1Take_ev s h.1 a h.2.1 (by omega)
    (try dsimp only at hK)
    have e : takeU32 s a = tuR s a := by unfold takeU32; rw [if_pos ⟨h.1, h.2.1⟩]
    rw [e]
    refine ⟨K, fun k hk => ?_⟩
    (try dsimp only)
    have hK' := hK k hk
    unfold spec_TakeU32.f
    rw [l1Text_eq, Option.bind_some, if_pos (by simpa using h)]
    cases ht : tk s 5 a with
    | none =>
      rw [ht] at hK'
      simp only [tkS] at hK'
      rw [hK', tuR_none ht]; rfl
    | some p =>
      obtain ⟨v, m⟩ := p
      obtain ⟨q0, _, q2, _, _⟩ := tk_some 5 ht
      rw [ht] at hK'
      simp only [tkS] at hK'
      rw [show (0 : Int) + 128 ^ 0 * v = v from by omega] at hK'
      rw [hK', tuR_some ht]
      dsimp only [Option.bind_some]
      rw [if_neg (by omega), l1U32_eq, Option.bind_some]
      by_cases hv : v ≤ 4294967295
      · rw [if_pos (by simp; omega), if_pos hv]
      · rw [if_neg (by simp; omega), if_neg hv]
  · refine ⟨0, fun k _ => ?_⟩
    (try dsimp only)
    unfold spec_TakeU32.f takeU32
    rw [l1Text_eq, Option.bind_some, if_neg (by simpa using h)]
    by_cases h2 : s.size ≤ 1000 ∧ 0 ≤ a
    · rw [if_pos h2, tuR_none (tk_out 5 (by omega))]
    · rw [if_neg h2]

theorem sTakeVec_l0 (s : ByteArray) (n : Nat) : ∀ (at0 : Int) (p : List Int), p.length + n ≤ 17592186044416 → Ev (fun k => spec_TakeVec.l0 k s at0 (n : Int) p) (tvR ((tvL s n at0).map fun x => (p ++ x.1, x.2))) := by
  induction n with
  | zero =>
    intro at0 p hp
    refine ⟨1, fun k hk => ?_⟩
    (try dsimp only)
    obtain ⟨k, rfl⟩ : ∃ m, k = m + 1 := ⟨k - 1, by omega⟩
    simp only [spec_TakeVec.l0]
    rw [if_neg (by omega)]; simp [tvL, tvR]
  | succ n ih =>
    intro at0 p hp
    obtain ⟨K1, h1⟩ := sTakeU32_ev s at0
    (try dsimp only at h1)
    rcases ht : takeU32 s at0 with ⟨v, e, ok⟩
    rw [ht] at h1
    cases ok with
    | false =>
      refine ⟨K1 + 1, fun k hk => ?_⟩
      (try dsimp only)
      obtain ⟨k, rfl, hk'⟩ := within_lo hk
      simp only [spec_TakeVec.l0, tvL]
      rw [if_pos (by omega), h1 k hk', Option.bind_some, if_neg (by simp), ht, if_neg (by simp)]; rfl
    | true =>
      obtain ⟨K, hK⟩ := ih e (p ++ [v]) (by simp; omega)
      (try dsimp only at hK)
      refine ⟨K + K1 + 1, fun k hk => ?_⟩
      (try dsimp only)
      obtain ⟨k, rfl, hk'⟩ := within_lo hk
      simp only [spec_TakeVec.l0, tvL]
      rw [if_pos (by omega), h1 k (by omega), Option.bind_some, if_pos (by trivial), if_pos (by omega), show wrap64 (((n + 1 : Nat) : Int) - 1) = (n : Int) from by rw [wrap64_id (by omega) (by omega)]; omega, hK k (by omega), ht, if_pos (by trivial)]
      cases tvL s n e with
      | none => rfl
      | some x => simp [tvR]
theorem sTakeVec_ev (s : ByteArray) (a : Int) : Ev (fun k => spec_TakeVec.f k s a) (takeVec s a) := by
  obtain ⟨K1, h1⟩ := sTakeU32_ev s a
  (try dsimp only at h1)
  rcases ht : takeU32 s a with ⟨v, e, ok⟩
  rw [ht] at h1
  unfold takeVec
  rw [ht]
  cases ok with
  | false =>
    refine ⟨K1 + 1, fun k hk => ?_⟩
    (try dsimp only)
    obtain ⟨k, rfl, hk'⟩ := within_lo hk
    unfold spec_TakeVec.f
    simp only [spec_TakeVec.j0]
    rw [h1 _ (by omega), Option.bind_some, if_neg (by simp), if_pos (by trivial), if_neg (by simp)]
  | true =>
    obtain ⟨q1, q2, q3, q4, q5, q6⟩ := takeU32_true ht
    by_cases hv : v ≤ 50
    · obtain ⟨n, rfl⟩ := Int.eq_ofNat_of_zero_le q3
      obtain ⟨K, hK⟩ := sTakeVec_l0 s n e [] (by simp; omega)
      (try dsimp only at hK)
      refine ⟨K1 + K + 1, fun k hk => ?_⟩
      (try dsimp only)
      obtain ⟨k, rfl, hk'⟩ := within_lo hk
      unfold spec_TakeVec.f
      simp only [spec_TakeVec.j0]
      rw [h1 _ (by omega), Option.bind_some, if_pos (by trivial), if_neg (by simp; omega), hK k (by omega), if_pos ⟨by trivial, hv⟩, Int.toNat_natCast]
      cases tvL s n e <;> rfl
    · refine ⟨K1 + 1, fun k hk => ?_⟩
      (try dsimp only)
      obtain ⟨k, rfl, hk'⟩ := within_lo hk
      unfold spec_TakeVec.f
      simp only [spec_TakeVec.j0]
      rw [h1 _ (by omega), Option.bind_some, if_pos (by trivial), if_pos (by simp; omega), if_neg (by omega)]

/-- What the reading loop of the program answers. -/
def tkI (n at0 : Int) (i : Nat) : Option (Int × Nat) → Int × Int × Int × Bool
  | none => (0, 0, 0, false)
  | some (v, m) => (n + 128 ^ i * v, 7 * ((i : Int) + m), at0 + i + m, true)
theorem takeBits_l0 (s : ByteArray) (hs : s.size ≤ 1000) (at0 : Int) (h0 : 0 ≤ at0) (ha : at0 ≤ 9223372036854775000) (r : Nat) : ∀ (i : Nat) (n : Int), i + r = 5 → 0 ≤ n → n < 128 ^ i →
    Ev (fun k => impl_takeBits.l0 k s at0 n (i : Int)) (tkI n at0 i (tk s r (at0 + i))) := by
  induction r with
  | zero =>
    intro i n hi hn hn'
    refine ⟨2, fun k hk => ?_⟩
    (try dsimp only)
    obtain ⟨k, rfl⟩ : ∃ m, k = m + 2 := ⟨k - 2, by omega⟩
    simp only [impl_takeBits.l0, impl_takeBits.j1]
    rw [if_neg (by omega), if_neg (by simp)]; rfl
  | succ r ih =>
    intro i n hi hn hn'
    have hb := bt_range s (at0 + i)
    have e0 : wrap64 (at0 + (i : Int)) = at0 + i := wrap64_id (by omega) (by omega)
    by_cases hlt : at0 + (i : Int) < (s.size : Int)
    · have e1 : wrap64 (7 * (i : Int)) = 7 * (i : Int) := wrap64_id (by omega) (by omega)
      have e3 : wrap64 (bt s (at0 + i) % 128) = bt s (at0 + i) % 128 := wrap64_id (by omega) (by omega)
      have e6 : bits .and .u8 (bt s (at0 + i)) 127 = bt s (at0 + i) % 128 := by
        have := u8_and127_any (bt s (at0 + i)); rwa [show bt s (at0 + i) % 256 = bt s (at0 + i) from by omega] at this
      have e5 := or_shl i (by omega) n (bt s (at0 + i) % 128) hn hn' (by omega) (by omega)
      by_cases hsm : bt s (at0 + i) < 128
      · refine ⟨2, fun k hk => ?_⟩
        (try dsimp only)
        obtain ⟨k, rfl⟩ : ∃ m, k = m + 2 := ⟨k - 2, by omega⟩
        simp only [impl_takeBits.l0, impl_takeBits.j1, tk]
        rw [if_pos (by omega), e0, if_pos (by simpa using hlt), if_pos (by omega), if_pos hlt, e1, if_pos (by omega), if_pos hsm, e6, e3, e5, if_pos hlt, if_pos hsm, wrap64_id (x := (i : Int) + 1) (by omega) (by omega), wrap64_id (x := 7 * ((i : Int) + 1)) (by omega) (by omega), wrap64_id (x := at0 + (i : Int) + 1) (by omega) (by omega)]
        simp only [tkI]
        rw [show bt s (at0 + i) % 128 = bt s (at0 + i) from by omega, show 7 * ((i : Int) + 1) = 7 * ((i : Int) + (1 : Nat)) from by omega]; rfl
      · have hpow : (128 : Int) ^ (i + 1) = 128 * 128 ^ i := by rw [Int.pow_succ]; ac_rfl
        have hq : 0 ≤ (128 : Int) ^ i * (bt s (at0 + i) % 128) := Int.mul_nonneg (by omega) (by omega)
        have hq' : (128 : Int) ^ i * (bt s (at0 + i) % 128) ≤ 128 ^ i * 127 := Int.mul_le_mul (Int.le_refl _) (by omega) (by omega) (by omega)
        obtain ⟨K, hK⟩ := ih (i + 1) (n + 128 ^ i * (bt s (at0 + i) % 128)) (by omega) (by omega) (by rw [hpow]; omega)
        (try dsimp only at hK)
        refine ⟨K + 2, fun k hk => ?_⟩
        (try dsimp only)
        obtain ⟨k, rfl, hk'⟩ : ∃ m, k = m + 2 ∧ K ≤ m := ⟨k - 2, by omega, by omega⟩
        simp only [impl_takeBits.l0, impl_takeBits.j1, tk]
        rw [if_pos (by omega), e0, if_pos (by simpa using hlt), if_pos (by omega), if_pos hlt, e1, if_pos (by omega), if_neg hsm, e6, e3, e5, if_pos hlt, if_neg hsm, wrap64_id (x := (i : Int) + 1) (by omega) (by omega)]
        have hK' := hK k hk'
        rw [show ((i + 1 : Nat) : Int) = (i : Int) + 1 from by omega, show at0 + ((i : Int) + 1) = at0 + i + 1 from by omega] at hK'
        rw [hK']
        cases tk s r (at0 + i + 1) with
        | none => rfl
        | some p =>
          obtain ⟨v, m⟩ := p
          simp only [tkI, Option.map_some, hpow, Option.some.injEq, Prod.mk.injEq]
          refine ⟨?_, by omega, by omega, trivial⟩
          rw [Int.mul_add, Int.mul_assoc, Int.mul_left_comm 128, ← Int.add_assoc]
    · refine ⟨2, fun k hk => ?_⟩
      (try dsimp only)
      obtain ⟨k, rfl⟩ : ∃ m, k = m + 2 := ⟨k - 2, by omega⟩
      simp only [impl_takeBits.l0, impl_takeBits.j1, tk]
      rw [if_pos (by omega), e0, if_neg (by simpa using hlt), if_neg hlt]; rfl
theorem takeBits_ev (s : ByteArray) (hs : s.size ≤ 1000) (at0 : Int) (h0 : 0 ≤ at0) (h1 : at0 ≤ 9223372036854775807) : Ev (fun k => impl_takeBits.f k s at0) (tkI 0 at0 0 (tk s 5 at0)) := by
  by_cases ha : at0 ≤ 9223372036854775000
  · have := takeBits_l0 s hs at0 h0 ha 5 0 0 rfl (Int.le_refl _) (by decide)
    rw [show at0 + ((0 : Nat) : Int) = at0 from by omega] at this
    exact this
  · refine ⟨2, fun k hk => ?_⟩
    (try dsimp only)
    obtain ⟨k, rfl⟩ : ∃ m, k = m + 2 := ⟨k - 2, by omega⟩
    simp only [impl_takeBits.f, impl_takeBits.l0, impl_takeBits.j1, tk]
    rw [if_pos (by omega), wrap64_id (by omega) (by omega), if_neg (by simp; omega), if_neg (by omega)]; rfl

theorem takeU_ev (s : ByteArray) (hs : s.size ≤ 1000) (a : Int) (h0 : 0 ≤ a) (h1 : a ≤ 9223372036854775807) : Ev (fun k => impl_takeU.f k s a) (tuR s a) := by
  obtain ⟨K, hK⟩ := takeBits_ev s hs a h0 h1
  (try dsimp only at hK)
  refine ⟨K, fun k hk => ?_⟩
  (try dsimp only)
  have hK' := hK k hk
  unfold impl_takeU.f
  cases ht : tk s 5 a with
  | none =>
    rw [ht] at hK'
    simp only [tkI] at hK'
    rw [hK', tuR_none ht]; rfl
  | some p =>
    obtain ⟨v, m⟩ := p
    rw [ht] at hK'
    simp only [tkI] at hK'
    rw [show (0 : Int) + 128 ^ 0 * v = v from by omega, show a + ((0 : Nat) : Int) + m = a + m from by omega] at hK'
    rw [hK', tuR_some ht]
    dsimp only [Option.bind_some]
    rw [if_pos rfl]
    by_cases hv : v ≤ 4294967295
    · rw [if_neg (by omega), if_pos hv]
    · rw [if_pos (by omega), if_neg hv]

theorem takeVec_l0 (s : ByteArray) (hs : s.size ≤ 1000) (r : Nat) : ∀ (at0 : Int) (p : List Int), 0 ≤ at0 → at0 ≤ s.size → p.length + r ≤ 100000 →
    Ev (fun k => impl_takeVec.l0 k s at0 (p ++ List.replicate r 0) ((p.length + r : Nat) : Int) (p.length : Int)) (tvR ((tvL s r at0).map fun x => (p ++ x.1, x.2))) := by
  induction r with
  | zero =>
    intro at0 p h0 h1 hp
    refine ⟨1, fun k hk => ?_⟩
    (try dsimp only)
    obtain ⟨k, rfl⟩ : ∃ m, k = m + 1 := ⟨k - 1, by omega⟩
    simp only [impl_takeVec.l0]
    rw [if_neg (by omega)]; simp [tvL, tvR]
  | succ r ih =>
    intro at0 p h0 h1 hp
    obtain ⟨K1, hK1⟩ := takeU_ev s hs at0 h0 (by omega)
    (try dsimp only at hK1)
    have htu : takeU32 s at0 = tuR s at0 := by unfold takeU32; rw [if_pos ⟨hs, h0⟩]
    rw [← htu] at hK1
    rcases ht : takeU32 s at0 with ⟨v, e, ok⟩
    rw [ht] at hK1
    cases ok with
    | false =>
      refine ⟨K1 + 1, fun k hk => ?_⟩
      (try dsimp only)
      obtain ⟨k, rfl, hk'⟩ := within_lo hk
      simp only [impl_takeVec.l0, tvL]
      rw [if_pos (by omega), hK1 k hk', Option.bind_some, if_pos (by omega), if_pos (by simp; omega), if_neg (by simp), ht, if_neg (by simp)]; rfl
    | true =>
      obtain ⟨q1, q2, q3, q4, q5, q6⟩ := takeU32_true ht
      obtain ⟨K, hK⟩ := ih e (p ++ [v]) (by omega) q6 (by simp; omega)
      (try dsimp only at hK)
      refine ⟨K + K1 + 1, fun k hk => ?_⟩
      (try dsimp only)
      obtain ⟨k, rfl, hk'⟩ := within_lo hk
      simp only [impl_takeVec.l0, tvL]
      have hK' := hK k (by omega)
      simp only [List.append_assoc, List.cons_append, List.nil_append] at hK'
      rw [if_pos (by omega), hK1 k (by omega), Option.bind_some, if_pos (by omega), if_pos (by simp; omega), if_pos (by trivial), Int.toNat_natCast, List.replicate_succ, set_mid, wrap64_id (by omega) (by omega),
        show ((p.length : Int) + 1) = ((p ++ [v]).length : Int) from by simp, show ((p.length + (r + 1) : Nat) : Int) = (((p ++ [v]).length + r : Nat) : Int) from by simp; omega, hK', ht, if_pos (by trivial)]
      cases tvL s r e with
      | none => rfl
      | some x => simp [tvR]
theorem takeVeci_ev (s : ByteArray) (hs : s.size ≤ 1000) (a : Int) (h0 : 0 ≤ a) (ha : a ≤ 9223372036854775807) : Ev (fun k => impl_takeVec.f k s a) (takeVec s a) := by
  obtain ⟨K1, h1⟩ := takeU_ev s hs a h0 ha
  (try dsimp only at h1)
  have htu : takeU32 s a = tuR s a := by unfold takeU32; rw [if_pos ⟨hs, h0⟩]
  rw [← htu] at h1
  rcases ht : takeU32 s a with ⟨v, e, ok⟩
  rw [ht] at h1
  unfold takeVec
  rw [ht]
  cases ok with
  | false =>
    refine ⟨K1 + 1, fun k hk => ?_⟩
    (try dsimp only)
    obtain ⟨k, rfl, hk'⟩ := within_lo hk
    unfold impl_takeVec.f
    simp only [impl_takeVec.j0]
    rw [h1 _ (by omega), Option.bind_some, if_neg (by simp), if_pos (by trivial), if_neg (by simp)]
  | true =>
    obtain ⟨q1, q2, q3, q4, q5, q6⟩ := takeU32_true ht
    by_cases hv : v ≤ 50
    · obtain ⟨n, rfl⟩ := Int.eq_ofNat_of_zero_le q3
      obtain ⟨K, hK⟩ := takeVec_l0 s hs n e [] (by omega) q6 (by simp; omega)
      (try dsimp only at hK)
      refine ⟨K1 + K + 1, fun k hk => ?_⟩
      (try dsimp only)
      obtain ⟨k, rfl, hk'⟩ := within_lo hk
      unfold impl_takeVec.f
      simp only [impl_takeVec.j0]
      have hK' := hK k (by omega)
      simp only [List.length_nil, Nat.zero_add, List.nil_append] at hK'
      rw [h1 _ (by omega), Option.bind_some, if_pos (by trivial), if_neg (by simp; omega), if_pos (by omega), if_pos (by omega), Option.bind_some, Int.toNat_natCast, List.length_replicate, if_pos ⟨by trivial, hv⟩]
      refine Eq.trans hK' ?_
      cases tvL s n e <;> rfl
    · refine ⟨K1 + 1, fun k hk => ?_⟩
      (try dsimp only)
      obtain ⟨k, rfl, hk'⟩ := within_lo hk
      unfold impl_takeVec.f
      simp only [impl_takeVec.j0]
      rw [h1 _ (by omega), Option.bind_some, if_pos (by trivial), if_pos (by simp; omega), if_neg (by omega)]

theorem iTakeVec_ev (s : ByteArray) (a : Int) (ha : a ≤ 9223372036854775807) : Ev (fun k => impl_TakeVec.f k s a) (takeVec s a) := by
  by_cases h : s.size ≤ 1000 ∧ 0 ≤ a
  · obtain ⟨K, hK⟩ := takeVeci_ev s h.1 a h.2 ha
    (try dsimp only at hK)
    refine ⟨K, fun k hk => ?_⟩
    (try dsimp only)
    unfold impl_TakeVec.f
    rw [if_neg (by omega), if_neg (by omega), hK k hk, Option.bind_some]
  · refine ⟨0, fun k _ => ?_⟩
    (try dsimp only)
    have ht : takeU32 s a = (0, 0, false) := by unfold takeU32; rw [if_neg h]
    have hv : takeVec s a = ([], 0, false) := by unfold takeVec; rw [ht]; exact if_neg (by simp)
    rw [hv]
    unfold impl_TakeVec.f
    by_cases h2 : (s.size : Int) > 1000
    · rw [if_pos h2]
    · rw [if_neg h2, if_pos (by omega)]

theorem eqIntS_l0 (d : Nat) : ∀ (p p' q q' : List Int), p.length = p'.length → q.length = d → q'.length = d → p.length + d ≤ 1000000000000000 → Ev (fun k => laws_eqIntS.l0 k (p ++ q) (p' ++ q') (p.length : Int)) (decide (q = q')) := by
  induction d with
  | zero =>
    intro p p' q q' hp hq hq' hb
    obtain rfl : q = [] := by simpa using hq
    obtain rfl : q' = [] := by simpa using hq'
    refine ⟨1, fun k hk => ?_⟩
    (try dsimp only)
    obtain ⟨k, rfl⟩ : ∃ m, k = m + 1 := ⟨k - 1, by omega⟩
    simp only [laws_eqIntS.l0]
    rw [if_neg (by simp)]; rfl
  | succ d ih =>
    intro p p' q q' hp hq hq' hb
    match q, q', hq, hq' with
    | x :: q, y :: q', hq, hq' =>
      simp only [List.length_cons] at hq hq'
      have r1 := rd_mid p q x
      have r2 := rd_mid p' q' y
      rw [← hp] at r2
      have e1 : wrap64 ((p.length : Int) + 1) = ((p ++ [x]).length : Int) := by
        rw [wrap64_id (by omega) (by omega)]; simp
      by_cases hxy : x = y
      · subst hxy
        obtain ⟨K, hK⟩ := ih (p ++ [x]) (p' ++ [x]) q q' (by simp [hp]) (by omega) (by omega) (by simp; omega)
        (try dsimp only at hK)
        refine ⟨K + 1, fun k hk => ?_⟩
        (try dsimp only)
        obtain ⟨k, rfl, hk'⟩ := within_lo hk
        simp only [laws_eqIntS.l0]
        have hK' := hK k hk'
        simp only [List.append_assoc, List.cons_append, List.nil_append] at hK'
        rw [if_pos (by simp; omega), if_pos (by omega), if_pos (by simp; omega), r1, r2, if_pos rfl, e1, hK']
        simp
      · refine ⟨1, fun k hk => ?_⟩
        (try dsimp only)
        obtain ⟨k, rfl⟩ : ∃ m, k = m + 1 := ⟨k - 1, by omega⟩
        simp only [laws_eqIntS.l0]
        rw [if_pos (by simp; omega), if_pos (by omega), if_pos (by simp; omega), r1, r2, if_neg hxy]
        simp [hxy]
theorem eqIntS_ev (a b : List Int) (h : a.length ≤ 1000000000000000) : Ev (fun k => laws_eqIntS.f k a b) (decide (a = b)) := by
  by_cases hl : a.length = b.length
  · obtain ⟨K, hK⟩ := eqIntS_l0 a.length [] [] a b rfl rfl hl.symm (by simpa using h)
    (try dsimp only at hK)
    refine ⟨K, fun k hk => ?_⟩
    (try dsimp only)
    unfold laws_eqIntS.f
    rw [if_pos (by omega)]
    exact hK k hk
  · refine ⟨0, fun k _ => ?_⟩
    (try dsimp only)
    unfold laws_eqIntS.f
    rw [if_neg (by omega)]
    congr 1; symm
    rw [decide_eq_false_iff_not]
    rintro rfl; exact hl rfl

theorem markIntS_l0 (q : List Int) : ∀ (p : List Int) (a : Int), p.length + q.length ≤ 1000000000000000 → -1000000000000000 ≤ a → a + q.length ≤ 1000000000000000000 → Ev (fun k => laws_markIntS.l0 k (p ++ q) a (p.length : Int)) (a + q.length, p ++ upI a q.length) := by
  induction q with
  | nil =>
    intro p a h0 h1 h2
    refine ⟨1, fun k hk => ?_⟩
    (try dsimp only)
    obtain ⟨k, rfl⟩ : ∃ m, k = m + 1 := ⟨k - 1, by omega⟩
    simp only [laws_markIntS.l0]
    rw [if_neg (by simp)]; simp [upI]
  | cons x q ih =>
    intro p a h0 h1 h2
    simp only [List.length_cons] at h0 h2
    obtain ⟨K, hK⟩ := ih (p ++ [a]) (a + 1) (by simp; omega) (by omega) (by omega)
    (try dsimp only at hK)
    refine ⟨K + 1, fun k hk => ?_⟩
    (try dsimp only)
    obtain ⟨k, rfl, hk'⟩ := within_lo hk
    simp only [laws_markIntS.l0]
    have hK' := hK k hk'
    simp only [List.append_assoc, List.cons_append, List.nil_append] at hK'
    have e1 : wrap64 ((p.length : Int) + 1) = ((p ++ [a]).length : Int) := by
      rw [wrap64_id (by omega) (by omega)]; simp
    rw [if_pos (by simp; omega), if_pos (by omega), Int.toNat_natCast, set_mid, e1, wrap64_id (by omega) (by omega), hK']
    simp only [upI, List.length_cons]
    rw [show a + 1 + (q.length : Int) = a + ((q.length + 1 : Nat) : Int) from by omega]
theorem markIntS_ev (l : List Int) (a : Int) (h0 : l.length ≤ 1000000000000000) (h1 : -1000000000000000 ≤ a) (h2 : a + l.length ≤ 1000000000000000000) : Ev (fun k => laws_markIntS.f k l a) (a + l.length, upI a l.length) :=
  markIntS_l0 l [] a (by simpa using h0) h1 h2

theorem heldIntS_l0 (n : Nat) : ∀ (p : List Int) (a : Int), p.length + n ≤ 1000000000000000 → -1000000000000000 ≤ a → a + n ≤ 1000000000000000000 → Ev (fun k => laws_heldIntS.l0 k (p ++ upI a n) a (p.length : Int)) (a + n) := by
  induction n with
  | zero =>
    intro p a h0 h1 h2
    refine ⟨1, fun k hk => ?_⟩
    (try dsimp only)
    obtain ⟨k, rfl⟩ : ∃ m, k = m + 1 := ⟨k - 1, by omega⟩
    simp only [laws_heldIntS.l0]
    rw [if_neg (by simp [upI])]; simp
  | succ n ih =>
    intro p a h0 h1 h2
    obtain ⟨K, hK⟩ := ih (p ++ [a]) (a + 1) (by simp; omega) (by omega) (by omega)
    (try dsimp only at hK)
    refine ⟨K + 1, fun k hk => ?_⟩
    (try dsimp only)
    obtain ⟨k, rfl, hk'⟩ := within_lo hk
    rw [laws_heldIntS.l0, show upI a (n + 1) = a :: upI (a + 1) n from rfl]
    have hK' := hK k hk'
    simp only [List.append_assoc, List.cons_append, List.nil_append] at hK'
    have e1 : wrap64 ((p.length : Int) + 1) = ((p ++ [a]).length : Int) := by
      rw [wrap64_id (by omega) (by omega)]; simp
    rw [if_pos (by simp <;> omega), if_pos (by omega), rd_mid, if_pos rfl, e1, wrap64_id (by omega) (by omega), hK']
    congr 1; omega
theorem heldIntS_ev (n : Nat) (a : Int) (h0 : n ≤ 1000000000000000) (h1 : -1000000000000000 ≤ a) (h2 : a + n ≤ 1000000000000000000) : Ev (fun k => laws_heldIntS.f k (upI a n) a) (a + n) :=
  heldIntS_l0 n [] a (by simpa using h0) h1 h2

theorem tvL_len (s : ByteArray) (n : Nat) : ∀ {at0 : Int} {x : List Int × Int}, tvL s n at0 = some x → x.1.length = n := by
  induction n with
  | zero => intro at0 x h; simp only [tvL, Option.some.injEq] at h; subst h; rfl
  | succ n ih =>
    intro at0 x h
    simp only [tvL] at h
    split at h
    · cases ht : tvL s n (takeU32 s at0).2.1 with
      | none => rw [ht] at h; simp at h
      | some y => rw [ht] at h; simp only [Option.map_some, Option.some.injEq] at h; subst h; simp [ih ht]
    · simp at h
theorem takeVec_len (s : ByteArray) (a : Int) : (takeVec s a).1.length ≤ 50 := by
  unfold takeVec
  split
  · rename_i h
    cases ht : tvL s (takeU32 s a).1.toNat (takeU32 s a).2.1 with
    | none => simp [tvR]
    | some x => simp only [tvR]; rw [tvL_len _ _ ht]; omega
  · simp
theorem FnExactTakeVec : laws_FnExactTakeVec.Pure := by
  intro s a _ ha
  obtain ⟨K1, h1⟩ := sTakeVec_ev s a
  (try dsimp only at h1)
  obtain ⟨K2, h2⟩ := iTakeVec_ev s a (wf_i64 ha).2
  (try dsimp only at h2)
  have hl := takeVec_len s a
  generalize takeVec s a = r at h1 h2 hl
  obtain ⟨l, e, ok⟩ := r
  replace hl : l.length ≤ 50 := hl
  obtain ⟨K3, h3⟩ := eqIntS_ev l l (by omega)
  (try dsimp only at h3)
  obtain ⟨K4, h4⟩ := markIntS_ev l 1 (by omega) (by omega) (by omega)
  (try dsimp only at h4)
  obtain ⟨K5, h5⟩ := heldIntS_ev l.length 1 (by omega) (by omega) (by omega)
  (try dsimp only at h5)
  refine ⟨K1 + K2 + K3 + K4 + K5 + 2, ?_⟩
  unfold laws_FnExactTakeVec.f
  split
  · rfl
  · rw [h1 _ (by omega), Option.bind_some, h2 _ (by omega), Option.bind_some, h3 _ (by omega), Option.bind_some, if_pos (by simp), if_pos (by trivial)]
    simp only [laws_FnExactTakeVec.j0, laws_FnExactTakeVec.j1]
    rw [if_neg (by simp), h4 _ (by omega), Option.bind_some, h5 _ (by omega), Option.bind_some, if_neg (by omega), if_pos (by trivial), h2 _ (by omega), Option.bind_some, h3 _ (by omega), Option.bind_some, if_pos (by simp), if_pos (by trivial),
      if_neg (by simp), h5 _ (by omega), Option.bind_some, if_neg (by omega), if_pos (by trivial)]

end Go.Proofs.Ytofokedphkmfnaa.Pure
