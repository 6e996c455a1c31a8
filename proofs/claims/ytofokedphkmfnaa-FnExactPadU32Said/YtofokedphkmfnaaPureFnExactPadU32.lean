/- Of all numbers the law of padu32 tells true. No condition beyond the row's own. -/
import Derived.Test.YtofokedphkmfnaaQ1
import Derived.Test.YtofokedphkmfnaaQ2
import Derived.Test.YtofokedphkmfnaaQ3
import Derived.Test.YtofokedphkmfnaaQ5
import Derived.Test.YtofokedphkmfnaaQ6
import Derived.Test.YtofokedphkmfnaaLib1
namespace Go.Proofs.Ytofokedphkmfnaa.Pure
open Go.RowKit Go.Proofs.Ytofokedphkmfnaa.Lib Go.Proofs.Ytofokedphkmfnaa.Q Go.Proofs.YtofokedphkmfnaaW.PrintWords Go.Proofs.YtofokedphkmfnaaW.PrintLast Go.Proofs.YtofokedphkmfnaaW.PrintMore
set_option linter.unusedVariables false
set_option linter.unusedSimpArgs false

theorem l1In_eq (a b c : Int) : spec_l1In.f a b c = some (decide (b ≤ a ∧ a ≤ c)) := by
  unfold spec_l1In.f
  by_cases h : a ≥ b
  · rw [if_pos h]; simp [show b ≤ a from h]
  · rw [if_neg h]; simp; omega

theorem l1U32_eq (a : Int) : spec_l1U32.f a = some (decide (0 ≤ a ∧ a ≤ 4294967295)) := by
  unfold spec_l1U32.f; rw [l1In_eq]; rfl

theorem within_eq (a b c : Int) : impl_within.f a b c = some (decide (b ≤ a ∧ a ≤ c)) := by
  unfold impl_within.f
  by_cases h : a ≥ b
  · rw [if_pos h]; simp [show b ≤ a from h]
  · rw [if_neg h]; simp; omega

theorem l1PutU_l0 (n : Nat) : ∀ s : ByteArray, s.size + (lebU n).length ≤ 9223372036854775807 → Ev (fun k => spec_l1PutU.l0 k (n : Int) s) (s ++ strOfNums (lebU n)) := by
  induction n using Nat.strongRecOn with
  | ind n ih =>
    intro s hs
    by_cases hn : n < 128
    · refine ⟨1, fun k hk => ?_⟩
      (try dsimp only)
      obtain ⟨k, rfl⟩ : ∃ m, k = m + 1 := ⟨k - 1, by omega⟩
      simp only [spec_l1PutU.l0]
      rw [lebU_small hn] at hs ⊢
      rw [if_neg (by omega), Option.bind_some, show ((n : Int)) % 256 = n from by omega, if_pos (by rw [strOfNums_size]; exact hs)]
    · rw [lebU_big hn] at hs ⊢
      simp only [List.length_cons] at hs
      obtain ⟨K, hK⟩ := ih (n / 128) (by omega) (s ++ strOfNums [(n : Int) % 128 + 128]) (by rw [str_append_size, strOfNums_size]; simp only [List.length_cons, List.length_nil]; omega)
      (try dsimp only at hK)
      refine ⟨K + 1, fun k hk => ?_⟩
      (try dsimp only)
      obtain ⟨k, rfl, hk'⟩ := within_lo hk
      simp only [spec_l1PutU.l0]
      rw [if_pos (by omega), Option.bind_some, i64_and127, i64_or128 _ (by omega) (by omega), show ((n : Int) % 128 + 128) % 256 = (n : Int) % 128 + 128 from by omega,
        if_pos (by rw [strOfNums_size]; simp only [List.length_cons, List.length_nil]; omega), show ((n : Int)) / 128 = ((n / 128 : Nat) : Int) from by omega, hK k hk',
        append_str_assoc, ← strOfNums_append]
      rfl
theorem l1PutU_ev (a : Int) (h0 : 0 ≤ a) (h1 : a ≤ 9223372036854775807) : Ev (fun k => spec_l1PutU.f k a) (strOfNums (lebU a.toNat)) := by
  obtain ⟨n, rfl⟩ := Int.eq_ofNat_of_zero_le h0
  have hl := lebU_len 9 n (by omega)
  obtain ⟨K, hK⟩ := l1PutU_l0 n (⟨#[]⟩ : ByteArray) (by show 0 + _ ≤ _; omega)
  (try dsimp only at hK)
  refine ⟨K, fun k hk => ?_⟩
  (try dsimp only)
  unfold spec_l1PutU.f
  rw [hK k hk, nil_append_str]; rfl

theorem putU_l0 (n : Nat) : ∀ l : List Int, l.length + (lebU n).length ≤ 140737488355328 → Ev (fun k => impl_putU.l0 k l (n : Int)) (l ++ lebU n) := by
  induction n using Nat.strongRecOn with
  | ind n ih =>
    intro s hs
    by_cases hn : n < 128
    · refine ⟨1, fun k hk => ?_⟩
      (try dsimp only)
      obtain ⟨k, rfl⟩ : ∃ m, k = m + 1 := ⟨k - 1, by omega⟩
      simp only [impl_putU.l0]
      rw [lebU_small hn] at hs ⊢
      simp only [List.length_cons, List.length_nil] at hs
      rw [if_neg (by omega), if_pos (by omega), show ((n : Int)) % 256 = n from by omega]
    · rw [lebU_big hn] at hs ⊢
      simp only [List.length_cons] at hs
      obtain ⟨K, hK⟩ := ih (n / 128) (by omega) (s ++ [(n : Int) % 128 + 128]) (by simp only [List.length_append, List.length_cons, List.length_nil]; omega)
      (try dsimp only at hK)
      refine ⟨K + 1, fun k hk => ?_⟩
      (try dsimp only)
      obtain ⟨k, rfl, hk'⟩ := within_lo hk
      simp only [impl_putU.l0]
      rw [if_pos (by omega), if_pos (by omega), u8_or128_any, show ((n : Int)) / 128 = ((n / 128 : Nat) : Int) from by omega, hK k hk', List.append_assoc]
      rfl
theorem putU_ev (l : List Int) (a : Int) (h0 : 0 ≤ a) (h1 : a ≤ 9223372036854775807) (hl : l.length + 10 ≤ 140737488355328) : Ev (fun k => impl_putU.f k l a) (l ++ lebU a.toNat) := by
  obtain ⟨n, rfl⟩ := Int.eq_ofNat_of_zero_le h0
  have hl' := lebU_len 9 n (by omega)
  obtain ⟨K, hK⟩ := putU_l0 n l (by omega)
  (try dsimp only at hK)
  exact ⟨K, fun k hk => by unfold impl_putU.f; exact hK k hk⟩

theorem iPutU32_ev (a : Int) : Ev (fun k => impl_PutU32.f k a) (if 0 ≤ a ∧ a ≤ 4294967295 then (strOfNums (lebU a.toNat), true) else ((⟨#[]⟩ : ByteArray), false)) := by
  by_cases h : 0 ≤ a ∧ a ≤ 4294967295
  · obtain ⟨K, hK⟩ := putU_ev [] a h.1 (by omega) (by simp)
    (try dsimp only at hK)
    refine ⟨K, fun k hk => ?_⟩
    (try dsimp only)
    unfold impl_PutU32.f
    rw [within_eq, Option.bind_some, if_pos (by simpa using h), hK k hk, if_pos h]; rfl
  · refine ⟨0, fun k _ => ?_⟩
    (try dsimp only)
    unfold impl_PutU32.f
    rw [within_eq, Option.bind_some, if_neg (by simpa using h), if_neg h]

/-- The bytes of a number, so many. -/
def lebP : Nat → Nat → List Int
  | 0, _ => []
  | 1, n => [(n : Int) % 256]
  | m + 2, n => ((n : Int) % 128 + 128) :: lebP (m + 1) (n / 128)
theorem lebP_length (m : Nat) : ∀ n, (lebP m n).length = m := by
  induction m with
  | zero => intro n; rfl
  | succ m ih =>
    intro n
    cases m with
    | zero => rfl
    | succ m => simp only [lebP, List.length_cons, ih]
theorem lebU_lt (n : Nat) : n < 128 ^ (lebU n).length := by
  induction n using Nat.strongRecOn with
  | ind n ih =>
    by_cases h : n < 128
    · rw [lebU_small h]; simpa using h
    · rw [lebU_big h]
      have := ih (n / 128) (by omega)
      simp only [List.length_cons]
      rw [Nat.pow_succ]
      omega
theorem lebP_lebU (n : Nat) : lebU n = lebP (lebU n).length n := by
  induction n using Nat.strongRecOn with
  | ind n ih =>
    by_cases h : n < 128
    · rw [lebU_small h]; simp only [List.length_cons, List.length_nil, lebP]; congr 1; omega
    · have e := ih (n / 128) (by omega)
      have hp := lebU_pos (n / 128)
      rw [lebU_big h]
      obtain ⟨m, hm⟩ : ∃ m, (lebU (n / 128)).length = m + 1 := ⟨(lebU (n / 128)).length - 1, by omega⟩
      simp only [List.length_cons, hm, lebP]
      rw [hm] at e
      rw [← e]
theorem lebP_step (m : Nat) : ∀ n, n < 128 ^ (m + 1) → lebP (m + 2) n = (lebP (m + 1) n).set m (Go.bits .or .u8 ((lebP (m + 1) n).getD m 0) 128) ++ [0] := by
  induction m with
  | zero =>
    intro n h
    simp only [lebP, List.set_cons_zero, List.getD_cons_zero, u8_or128_any, List.cons_append, List.nil_append]
    congr 2
    have : n < 128 := by simpa using h
    omega
  | succ m ih =>
    intro n h
    have h2 : n / 128 < 128 ^ (m + 1) := by rw [Nat.pow_succ] at h; omega
    have e := ih (n / 128) h2
    rw [show lebP (m + 1 + 2) n = ((n : Int) % 128 + 128) :: lebP (m + 2) (n / 128) from rfl, e]
    rw [show lebP (m + 1 + 1) n = ((n : Int) % 128 + 128) :: lebP (m + 1) (n / 128) from rfl]
    simp only [List.set_cons_succ, List.getD_cons_succ, List.cons_append]
theorem iPad_l0 (d : Nat) : ∀ (m n : Nat), n < 128 ^ (m + 1) → m + d ≤ 100 → Ev (fun k => impl_PadU32.l0 k ((m + 1 + d : Nat) : Int) (lebP (m + 1) n)) (lebP (m + 1 + d) n) := by
  induction d with
  | zero =>
    intro m n h hs
    refine Ev.succ ?_
    simp only [impl_PadU32.l0]
    refine Ev.ite_neg ?_ (Ev.now _)
    rw [lebP_length]; omega
  | succ d ih =>
    intro m n h hs
    refine Ev.succ ?_
    simp only [impl_PadU32.l0]
    refine Ev.ite_pos ?_ (Ev.ite_pos ?_ (Ev.ite_pos ?_ ?_))
    · rw [lebP_length]; omega
    · rw [lebP_length]; omega
    · rw [lebP_length]; omega
    · rw [lebP_length, show m + 1 - 1 = m from rfl, ← lebP_step m n h]
      have h2 : n < 128 ^ (m + 1 + 1) := by rw [Nat.pow_succ]; omega
      have := ih (m + 1) n h2 (by omega)
      rw [show m + 1 + 1 + d = m + 1 + (d + 1) from by omega] at this
      exact this
theorem i64_and127 (n : Int) : Go.bits .and .i64 n 127 = n % 128 := by
  have h1 : (BitVec.ofInt 64 127).toNat = 2 ^ 7 - 1 := by decide
  have key : (BitVec.ofInt 64 n &&& BitVec.ofInt 64 127).toNat = (n % ((2 ^ 64 : Nat) : Int)).toNat % 2 ^ 7 := by
    rw [BitVec.toNat_and, BitVec.toNat_ofInt, h1, Nat.and_two_pow_sub_one_eq_mod]
  show IntKind.i64.wrap ((BitVec.ofInt 64 n &&& BitVec.ofInt 64 127).toNat : Nat) = n % 128
  rw [key, IntKind.wrap_i64]
  omega
theorem sPad_l0 (m : Nat) : ∀ (n : Nat) (s : ByteArray), s.size + m ≤ 1000 → Ev (fun k => spec_PadU32.l0 k (n : Int) ((m + 1 : Nat) : Int) s) (s ++ strOfNums (lebP (m + 1) n), true) := by
  induction m with
  | zero =>
    intro n s hs
    refine Ev.succ ?_
    simp only [spec_PadU32.l0]
    refine Ev.ite_neg (by omega) ?_
    simp only [Option.bind_some]
    refine Ev.ite_pos (by rw [strOfNums_size]; simp; omega) (Ev.some ?_)
    rfl
  | succ m ih =>
    intro n s hs
    refine Ev.succ ?_
    simp only [spec_PadU32.l0]
    refine Ev.ite_pos (by omega) ?_
    simp only [Option.bind_some]
    refine Ev.ite_pos (by rw [strOfNums_size]; simp; omega) ?_
    have e1 : wrap64 (((m + 1 + 1 : Nat) : Int) - 1) = ((m + 1 : Nat) : Int) := by rw [wrap64_id (by omega) (by omega)]; omega
    have e2 : (n : Int) / 128 = ((n / 128 : Nat) : Int) := by omega
    have e3 : Go.bits .or .i64 (Go.bits .and .i64 (n : Int) 127) 128 % 256 = (n : Int) % 128 + 128 := by
      rw [i64_and127, i64_or128 _ (by omega) (by omega)]; omega
    rw [e1, e2, e3]
    refine Ev.cast (ih (n / 128) _ (by rw [str_append_size, strOfNums_size]; simp; omega)) ?_
    rw [append_str_assoc, ← strOfNums_append]
    rfl
/-- What PadU32 answers. -/
def padR (n many : Int) : ByteArray × Bool :=
  if (0 ≤ n ∧ n ≤ 4294967295) ∧ ((lebU n.toNat).length : Int) ≤ many ∧ many ≤ 5 then (strOfNums (lebP many.toNat n.toNat), true) else ((⟨#[]⟩ : ByteArray), false)
theorem sPad_ev (n many : Int) : Ev (fun k => spec_PadU32.f k n many) (padR n many) := by
  unfold spec_PadU32.f padR
  rw [l1U32_eq]
  simp only [Option.bind_some]
  by_cases h : 0 ≤ n ∧ n ≤ 4294967295
  · refine Ev.ite_pos (by simpa using h) (Ev.bind (l1PutU_ev n h.1 (by omega)) ?_)
    rw [strOfNums_size, l1In_eq]
    simp only [Option.bind_some]
    by_cases h2 : ((lebU n.toNat).length : Int) ≤ many ∧ many ≤ 5
    · rw [if_pos ⟨h, h2⟩]
      refine Ev.succ ?_
      simp only [spec_PadU32.j0]
      refine Ev.ite_neg (by simpa using h2) ?_
      have hp := lebU_pos n.toNat
      obtain ⟨m, hm⟩ : ∃ m : Nat, many = ((m + 1 : Nat) : Int) := ⟨many.toNat - 1, by omega⟩
      have hn : n = (n.toNat : Int) := by omega
      rw [hm]
      have := sPad_l0 m n.toNat (⟨#[]⟩ : ByteArray) (by have : (⟨#[]⟩ : ByteArray).size = 0 := rfl; omega)
      rw [← hn, nil_append_str] at this
      exact this
    · rw [if_neg (fun hc => h2 hc.2)]
      refine Ev.succ ?_
      simp only [spec_PadU32.j0]
      refine Ev.ite_pos ?_ (Ev.now _)
      simp only [Bool.not_eq_true', decide_eq_false_iff_not]; exact h2
  · refine Ev.ite_neg (by simpa using h) ?_
    rw [if_neg (fun hc => h hc.1)]
    refine Ev.succ ?_
    simp only [spec_PadU32.j0]
    exact Ev.ite_pos (by trivial) (Ev.now _)
theorem bytesOf_str (l : List Int) (h : ∀ x ∈ l, 0 ≤ x ∧ x < 256) : bytesOf (strOfNums l) = l := by
  unfold bytesOf
  rw [strOfNums_data, List.map_map]
  conv => rhs; rw [← List.map_id l]
  refine List.map_congr_left fun x hx => ?_
  obtain ⟨h0, h1⟩ := h x hx
  show (((UInt8.ofNat x.toNat).toNat : Nat) : Int) = x
  rw [UInt8.toNat_ofNat']
  omega
theorem lebU_range (n : Nat) : ∀ x ∈ lebU n, 0 ≤ x ∧ x < 256 := by
  induction n using Nat.strongRecOn with
  | ind n ih =>
    intro x hx
    by_cases h : n < 128
    · rw [lebU_small h] at hx
      simp only [List.mem_singleton] at hx
      omega
    · rw [lebU_big h] at hx
      simp only [List.mem_cons] at hx
      rcases hx with hx | hx
      · omega
      · exact ih (n / 128) (by omega) x hx
theorem iPad_ev (n many : Int) : Ev (fun k => impl_PadU32.f k n many) (padR n many) := by
  unfold impl_PadU32.f padR
  by_cases h : 0 ≤ n ∧ n ≤ 4294967295
  · have h1 := iPutU32_ev n
    rw [if_pos h] at h1
    refine Ev.bind h1 (Ev.ite_pos rfl ?_)
    dsimp only
    rw [strOfNums_size, within_eq]
    simp only [Option.bind_some]
    by_cases h2 : ((lebU n.toNat).length : Int) ≤ many ∧ many ≤ 5
    · rw [if_pos ⟨h, h2⟩]
      refine Ev.ite_pos (by simpa using h2) ?_
      have hp := lebU_pos n.toNat
      rw [bytesOf_str _ (lebU_range _)]
      obtain ⟨m, hm⟩ : ∃ m : Nat, (lebU n.toNat).length = m + 1 := ⟨(lebU n.toNat).length - 1, by omega⟩
      obtain ⟨d, hd⟩ : ∃ d : Nat, many = ((m + 1 + d : Nat) : Int) := ⟨many.toNat - (m + 1), by omega⟩
      have hl := lebU_lt n.toNat
      rw [hm] at hl
      rw [lebP_lebU n.toNat, hm, hd]
      exact Ev.bind (iPad_l0 d m n.toNat hl (by omega)) (Ev.now _)
    · rw [if_neg (fun hc => h2 hc.2)]
      exact Ev.ite_neg (by simpa using h2) (Ev.now _)
  · have h1 := iPutU32_ev n
    rw [if_neg h] at h1
    rw [if_neg (fun hc => h hc.1)]
    exact Ev.bind h1 (Ev.ite_neg (by simp) (Ev.now _))

theorem FnExactPadU32 : laws_FnExactPadU32.Pure := by
  intro a b _ _
  refine Ev.rounds (g := fun k => laws_FnExactPadU32.f k a b) ?_
  unfold laws_FnExactPadU32.f
  exact Ev.bind (sPad_ev a b) (Ev.bind (iPad_ev a b) (Ev.ite_pos (by trivial) (Ev.ite_neg (by simp) (Ev.now _))))

end Go.Proofs.Ytofokedphkmfnaa.Pure
