/- Of all drawn numbers and bytes the law of numbers in seven bits tells true. No condition beyond the row's own. -/
import Derived.Test.YtofokedphkmfnaaQ1
import Derived.Test.YtofokedphkmfnaaQ10
import Derived.Test.YtofokedphkmfnaaQ11
import Derived.Test.YtofokedphkmfnaaQ12
import Derived.Test.YtofokedphkmfnaaQ13
import Derived.Test.YtofokedphkmfnaaQ14
import Derived.Test.YtofokedphkmfnaaQ2
import Derived.Test.YtofokedphkmfnaaQ3
import Derived.Test.YtofokedphkmfnaaQ4
import Derived.Test.YtofokedphkmfnaaQ5
import Derived.Test.YtofokedphkmfnaaQ9
import Derived.Test.YtofokedphkmfnaaLib1
namespace Go.Proofs.Ytofokedphkmfnaa.Pure
open Go.RowKit Go.Proofs.Ytofokedphkmfnaa.Lib Go.Proofs.Ytofokedphkmfnaa.Q Go.Proofs.YtofokedphkmfnaaW.PrintWords Go.Proofs.YtofokedphkmfnaaW.PrintLast Go.Proofs.YtofokedphkmfnaaW.PrintMore
set_option linter.unusedVariables false
set_option linter.unusedSimpArgs false

theorem l1In_eq (a b c : Int) : spec_l1In.f a b c = some (decide (b ≤ a ∧ a ≤ c)) := by
  unfold spec_l1In.f
  by_cases h : a ≥ b
  · rw [if_pos h]; simp [show b ≤ a from h]
  · rw [if_neg h]; simp; omega

theorem l1U32_eq (a : Int) : spec_l1U32.f a = some (decide (0 ≤ a ∧ a ≤ 4294967295)) := by
  unfold spec_l1U32.f; rw [l1In_eq]; rfl

theorem within_eq (a b c : Int) : impl_within.f a b c = some (decide (b ≤ a ∧ a ≤ c)) := by
  unfold impl_within.f
  by_cases h : a ≥ b
  · rw [if_pos h]; simp [show b ≤ a from h]
  · rw [if_neg h]; simp; omega

theorem l1PutU_l0 (n : Nat) : ∀ s : ByteArray, s.size + (lebU n).length ≤ 9223372036854775807 → Ev (fun k => spec_l1PutU.l0 k (n : Int) s) (s ++ strOfNums (lebU n)) := by
  induction n using Nat.strongRecOn with
  | ind n ih =>
    intro s hs
    by_cases hn : n < 128
    · refine ⟨1, fun k hk => ?_⟩
      (try dsimp only)
      obtain ⟨k, rfl⟩ : ∃ m, k = m + 1 := ⟨k - 1, by omega⟩
      simp only [spec_l1PutU.l0]
      rw [lebU_small hn] at hs ⊢
      rw [if_neg (by omega), Option.bind_some, show ((n : Int)) % 256 = n from by omega, if_pos (by rw [strOfNums_size]; exact hs)]
    · rw [lebU_big hn] at hs ⊢
      simp only [List.length_cons] at hs
      obtain ⟨K, hK⟩ := ih (n / 128) (by omega) (s ++ strOfNums [(n : Int) % 128 + 128]) (by rw [str_append_size, strOfNums_size]; simp only [List.length_cons, List.length_nil]; omega)
      (try dsimp only at hK)
      refine ⟨K + 1, fun k hk => ?_⟩
      (try dsimp only)
      obtain ⟨k, rfl, hk'⟩ := within_lo hk
      simp only [spec_l1PutU.l0]
      rw [if_pos (by omega), Option.bind_some, i64_and127, i64_or128 _ (by omega) (by omega), show ((n : Int) % 128 + 128) % 256 = (n : Int) % 128 + 128 from by omega,
        if_pos (by rw [strOfNums_size]; simp only [List.length_cons, List.length_nil]; omega), show ((n : Int)) / 128 = ((n / 128 : Nat) : Int) from by omega, hK k hk',
        append_str_assoc, ← strOfNums_append]
      rfl
theorem l1PutU_ev (a : Int) (h0 : 0 ≤ a) (h1 : a ≤ 9223372036854775807) : Ev (fun k => spec_l1PutU.f k a) (strOfNums (lebU a.toNat)) := by
  obtain ⟨n, rfl⟩ := Int.eq_ofNat_of_zero_le h0
  have hl := lebU_len 9 n (by omega)
  obtain ⟨K, hK⟩ := l1PutU_l0 n (⟨#[]⟩ : ByteArray) (by show 0 + _ ≤ _; omega)
  (try dsimp only at hK)
  refine ⟨K, fun k hk => ?_⟩
  (try dsimp only)
  unfold spec_l1PutU.f
  rw [hK k hk, nil_append_str]; rfl

theorem putU_l0 (n : Nat) : ∀ l : List Int, l.length + (lebU n).length ≤ 140737488355328 → Ev (fun k => impl_putU.l0 k l (n : Int)) (l ++ lebU n) := by
  induction n using Nat.strongRecOn with
  | ind n ih =>
    intro s hs
    by_cases hn : n < 128
    · refine ⟨1, fun k hk => ?_⟩
      (try dsimp only)
      obtain ⟨k, rfl⟩ : ∃ m, k = m + 1 := ⟨k - 1, by omega⟩
      simp only [impl_putU.l0]
      rw [lebU_small hn] at hs ⊢
      simp only [List.length_cons, List.length_nil] at hs
      rw [if_neg (by omega), if_pos (by omega), show ((n : Int)) % 256 = n from by omega]
    · rw [lebU_big hn] at hs ⊢
      simp only [List.length_cons] at hs
      obtain ⟨K, hK⟩ := ih (n / 128) (by omega) (s ++ [(n : Int) % 128 + 128]) (by simp only [List.length_append, List.length_cons, List.length_nil]; omega)
      (try dsimp only at hK)
      refine ⟨K + 1, fun k hk => ?_⟩
      (try dsimp only)
      obtain ⟨k, rfl, hk'⟩ := within_lo hk
      simp only [impl_putU.l0]
      rw [if_pos (by omega), if_pos (by omega), u8_or128_any, show ((n : Int)) / 128 = ((n / 128 : Nat) : Int) from by omega, hK k hk', List.append_assoc]
      rfl
theorem putU_ev (l : List Int) (a : Int) (h0 : 0 ≤ a) (h1 : a ≤ 9223372036854775807) (hl : l.length + 10 ≤ 140737488355328) : Ev (fun k => impl_putU.f k l a) (l ++ lebU a.toNat) := by
  obtain ⟨n, rfl⟩ := Int.eq_ofNat_of_zero_le h0
  have hl' := lebU_len 9 n (by omega)
  obtain ⟨K, hK⟩ := putU_l0 n l (by omega)
  (try dsimp only at hK)
  exact ⟨K, fun k hk => by unfold impl_putU.f; exact hK k hk⟩

theorem iPutU32_ev (a : Int) : Ev (fun k => impl_PutU32.f k a) (if 0 ≤ a ∧ a ≤ 4294967295 then (strOfNums (lebU a.toNat), true) else ((⟨#[]⟩ : ByteArray), false)) := by
  by_cases h : 0 ≤ a ∧ a ≤ 4294967295
  · obtain ⟨K, hK⟩ := putU_ev [] a h.1 (by omega) (by simp)
    (try dsimp only at hK)
    refine ⟨K, fun k hk => ?_⟩
    (try dsimp only)
    unfold impl_PutU32.f
    rw [within_eq, Option.bind_some, if_pos (by simpa using h), hK k hk, if_pos h]; rfl
  · refine ⟨0, fun k _ => ?_⟩
    (try dsimp only)
    unfold impl_PutU32.f
    rw [within_eq, Option.bind_some, if_neg (by simpa using h), if_neg h]

/-- The bytes of a number, so many. -/
def lebP : Nat → Nat → List Int
  | 0, _ => []
  | 1, n => [(n : Int) % 256]
  | m + 2, n => ((n : Int) % 128 + 128) :: lebP (m + 1) (n / 128)
theorem lebP_length (m : Nat) : ∀ n, (lebP m n).length = m := by
  induction m with
  | zero => intro n; rfl
  | succ m ih =>
    intro n
    cases m with
    | zero => rfl
    | succ m => simp only [lebP, List.length_cons, ih]
theorem lebU_lt (n : Nat) : n < 128 ^ (lebU n).length := by
  induction n using Nat.strongRecOn with
  | ind n ih =>
    by_cases h : n < 128
    · rw [lebU_small h]; simpa using h
    · rw [lebU_big h]
      have := ih (n / 128) (by omega)
      simp only [List.length_cons]
      rw [Nat.pow_succ]
      omega
theorem lebP_lebU (n : Nat) : lebU n = lebP (lebU n).length n := by
  induction n using Nat.strongRecOn with
  | ind n ih =>
    by_cases h : n < 128
    · rw [lebU_small h]; simp only [List.length_cons, List.length_nil, lebP]; congr 1; omega
    · have e := ih (n / 128) (by omega)
      have hp := lebU_pos (n / 128)
      rw [lebU_big h]
      obtain ⟨m, hm⟩ : ∃ m, (lebU (n / 128)).length = m + 1 := ⟨(lebU (n / 128)).length - 1, by omega⟩
      simp only [List.length_cons, hm, lebP]
      rw [hm] at e
      rw [← e]
theorem lebP_step (m : Nat) : ∀ n, n < 128 ^ (m + 1) → lebP (m + 2) n = (lebP (m + 1) n).set m (Go.bits .or .u8 ((lebP (m + 1) n).getD m 0) 128) ++ [0] := by
  induction m with
  | zero =>
    intro n h
    simp only [lebP, List.set_cons_zero, List.getD_cons_zero, u8_or128_any, List.cons_append, List.nil_append]
    congr 2
    have : n < 128 := by simpa using h
    omega
  | succ m ih =>
    intro n h
    have h2 : n / 128 < 128 ^ (m + 1) := by rw [Nat.pow_succ] at h; omega
    have e := ih (n / 128) h2
    rw [show lebP (m + 1 + 2) n = ((n : Int) % 128 + 128) :: lebP (m + 2) (n / 128) from rfl, e]
    rw [show lebP (m + 1 + 1) n = ((n : Int) % 128 + 128) :: lebP (m + 1) (n / 128) from rfl]
    simp only [List.set_cons_succ, List.getD_cons_succ, List.cons_append]
theorem iPad_l0 (d : Nat) : ∀ (m n : Nat), n < 128 ^ (m + 1) → m + d ≤ 100 → Ev (fun k => impl_PadU32.l0 k ((m + 1 + d : Nat) : Int) (lebP (m + 1) n)) (lebP (m + 1 + d) n) := by
  induction d with
  | zero =>
    intro m n h hs
    refine Ev.succ ?_
    simp only [impl_PadU32.l0]
    refine Ev.ite_neg ?_ (Ev.now _)
    rw [lebP_length]; omega
  | succ d ih =>
    intro m n h hs
    refine Ev.succ ?_
    simp only [impl_PadU32.l0]
    refine Ev.ite_pos ?_ (Ev.ite_pos ?_ (Ev.ite_pos ?_ ?_))
    · rw [lebP_length]; omega
    · rw [lebP_length]; omega
    · rw [lebP_length]; omega
    · rw [lebP_length, show m + 1 - 1 = m from rfl, ← lebP_step m n h]
      have h2 : n < 128 ^ (m + 1 + 1) := by rw [Nat.pow_succ]; omega
      have := ih (m + 1) n h2 (by omega)
      rw [show m + 1 + 1 + d = m + 1 + (d + 1) from by omega] at this
      exact this
theorem i64_and127 (n : Int) : Go.bits .and .i64 n 127 = n % 128 := by
  have h1 : (BitVec.ofInt 64 127).toNat = 2 ^ 7 - 1 := by decide
  have key : (BitVec.ofInt 64 n &&& BitVec.ofInt 64 127).toNat = (n % ((2 ^ 64 : Nat) : Int)).toNat % 2 ^ 7 := by
    rw [BitVec.toNat_and, BitVec.toNat_ofInt, h1, Nat.and_two_pow_sub_one_eq_mod]
  show IntKind.i64.wrap ((BitVec.ofInt 64 n &&& BitVec.ofInt 64 127).toNat : Nat) = n % 128
  rw [key, IntKind.wrap_i64]
  omega
theorem sPad_l0 (m : Nat) : ∀ (n : Nat) (s : ByteArray), s.size + m ≤ 1000 → Ev (fun k => spec_PadU32.l0 k (n : Int) ((m + 1 : Nat) : Int) s) (s ++ strOfNums (lebP (m + 1) n), true) := by
  induction m with
  | zero =>
    intro n s hs
    refine Ev.succ ?_
    simp only [spec_PadU32.l0]
    refine Ev.ite_neg (by omega) ?_
    simp only [Option.bind_some]
    refine Ev.ite_pos (by rw [strOfNums_size]; simp; omega) (Ev.some ?_)
    rfl
  | succ m ih =>
    intro n s hs
    refine Ev.succ ?_
    simp only [spec_PadU32.l0]
    refine Ev.ite_pos (by omega) ?_
    simp only [Option.bind_some]
    refine Ev.ite_pos (by rw [strOfNums_size]; simp; omega) ?_
    have e1 : wrap64 (((m + 1 + 1 : Nat) : Int) - 1) = ((m + 1 : Nat) : Int) := by rw [wrap64_id (by omega) (by omega)]; omega
    have e2 : (n : Int) / 128 = ((n / 128 : Nat) : Int) := by omega
    have e3 : Go.bits .or .i64 (Go.bits .and .i64 (n : Int) 127) 128 % 256 = (n : Int) % 128 + 128 := by
      rw [i64_and127, i64_or128 _ (by omega) (by omega)]; omega
    rw [e1, e2, e3]
    refine Ev.cast (ih (n / 128) _ (by rw [str_append_size, strOfNums_size]; simp; omega)) ?_
    rw [append_str_assoc, ← strOfNums_append]
    rfl
/-- What PadU32 answers. -/
def padR (n many : Int) : ByteArray × Bool :=
  if (0 ≤ n ∧ n ≤ 4294967295) ∧ ((lebU n.toNat).length : Int) ≤ many ∧ many ≤ 5 then (strOfNums (lebP many.toNat n.toNat), true) else ((⟨#[]⟩ : ByteArray), false)
theorem sPad_ev (n many : Int) : Ev (fun k => spec_PadU32.f k n many) (padR n many) := by
  unfold spec_PadU32.f padR
  rw [l1U32_eq]
  simp only [Option.bind_some]
  by_cases h : 0 ≤ n ∧ n ≤ 4294967295
  · refine Ev.ite_pos (by simpa using h) (Ev.bind (l1PutU_ev n h.1 (by omega)) ?_)
    rw [strOfNums_size, l1In_eq]
    simp only [Option.bind_some]
    by_cases h2 : ((lebU n.toNat).length : Int) ≤ many ∧ many ≤ 5
    · rw [if_pos ⟨h, h2⟩]
      refine Ev.succ ?_
      simp only [spec_PadU32.j0]
      refine Ev.ite_neg (by simpa using h2) ?_
      have hp := lebU_pos n.toNat
      obtain ⟨m, hm⟩ : ∃ m : Nat, many = ((m + 1 : Nat) : Int) := ⟨many.toNat - 1, by omega⟩
      have hn : n = (n.toNat : Int) := by omega
      rw [hm]
      have := sPad_l0 m n.toNat (⟨#[]⟩ : ByteArray) (by have : (⟨#[]⟩ : ByteArray).size = 0 := rfl; omega)
      rw [← hn, nil_append_str] at this
      exact this
    · rw [if_neg (fun hc => h2 hc.2)]
      refine Ev.succ ?_
      simp only [spec_PadU32.j0]
      refine Ev.ite_pos ?_ (Ev.now _)
      simp only [Bool.not_eq_true', decide_eq_false_iff_not]; exact h2
  · refine Ev.ite_neg (by simpa using h) ?_
    rw [if_neg (fun hc => h hc.1)]
    refine Ev.succ ?_
    simp only [spec_PadU32.j0]
    exact Ev.ite_pos (by trivial) (Ev.now _)
theorem bytesOf_str (l : List Int) (h : ∀ x ∈ l, 0 ≤ x ∧ x < 256) : bytesOf (strOfNums l) = l := by
  unfold bytesOf
  rw [strOfNums_data, List.map_map]
  conv => rhs; rw [← List.map_id l]
  refine List.map_congr_left fun x hx => ?_
  obtain ⟨h0, h1⟩ := h x hx
  show (((UInt8.ofNat x.toNat).toNat : Nat) : Int) = x
  rw [UInt8.toNat_ofNat']
  omega
theorem lebU_range (n : Nat) : ∀ x ∈ lebU n, 0 ≤ x ∧ x < 256 := by
  induction n using Nat.strongRecOn with
  | ind n ih =>
    intro x hx
    by_cases h : n < 128
    · rw [lebU_small h] at hx
      simp only [List.mem_singleton] at hx
      omega
    · rw [lebU_big h] at hx
      simp only [List.mem_cons] at hx
      rcases hx with hx | hx
      · omega
      · exact ih (n / 128) (by omega) x hx
theorem iPad_ev (n many : Int) : Ev (fun k => impl_PadU32.f k n many) (padR n many) := by
  unfold impl_PadU32.f padR
  by_cases h : 0 ≤ n ∧ n ≤ 4294967295
  · have h1 := iPutU32_ev n
    rw [if_pos h] at h1
    refine Ev.bind h1 (Ev.ite_pos rfl ?_)
    dsimp only
    rw [strOfNums_size, within_eq]
    simp only [Option.bind_some]
    by_cases h2 : ((lebU n.toNat).length : Int) ≤ many ∧ many ≤ 5
    · rw [if_pos ⟨h, h2⟩]
      refine Ev.ite_pos (by simpa using h2) ?_
      have hp := lebU_pos n.toNat
      rw [bytesOf_str _ (lebU_range _)]
      obtain ⟨m, hm⟩ : ∃ m : Nat, (lebU n.toNat).length = m + 1 := ⟨(lebU n.toNat).length - 1, by omega⟩
      obtain ⟨d, hd⟩ : ∃ d : Nat, many = ((m + 1 + d : Nat) : Int) := ⟨many.toNat - (m + 1), by omega⟩
      have hl := lebU_lt n.toNat
      rw [hm] at hl
      rw [lebP_lebU n.toNat, hm, hd]
      exact Ev.bind (iPad_l0 d m n.toNat hl (by omega)) (Ev.now _)
    · rw [if_neg (fun hc => h2 hc.2)]
      exact Ev.ite_neg (by simpa using h2) (Ev.now _)
  · have h1 := iPutU32_ev n
    rw [if_neg h] at h1
    rw [if_neg (fun hc => h hc.1)]
    exact Ev.bind h1 (Ev.ite_neg (by simp) (Ev.now _))

theorem lebP_range (m : Nat) : ∀ n, ∀ x ∈ lebP m n, 0 ≤ x ∧ x < 256 := by
  induction m with
  | zero => intro n x hx; simp [lebP] at hx
  | succ m ih =>
    intro n x hx
    cases m with
    | zero => simp only [lebP, List.mem_singleton] at hx; omega
    | succ m =>
      simp only [lebP, List.mem_cons] at hx
      rcases hx with hx | hx
      · omega
      · exact ih _ x hx
theorem bts_str (q : List Int) : ∀ p r : List Int, (∀ x ∈ p ++ q ++ r, 0 ≤ x ∧ x < 256) → bts (strOfNums (p ++ q ++ r)) (p.length : Int) q.length = q := by
  induction q with
  | nil => intro p r _; rfl
  | cons y q ih =>
    intro p r h
    have e1 : p ++ (y :: q) ++ r = (p ++ [y]) ++ q ++ r := by simp
    have e2 : bt (strOfNums (p ++ (y :: q) ++ r)) (p.length : Int) = y := by
      rw [← rd_bytesOf, bytesOf_str _ h, List.append_assoc, List.cons_append, rd_mid]
    have e3 := ih (p ++ [y]) r (by rw [← e1]; exact h)
    simp only [List.length_cons, bts]
    rw [e2, e1]
    rw [show ((p ++ [y]).length : Int) = (p.length : Int) + 1 from by simp] at e3
    rw [e3]
theorem tk_lebP (s : ByteArray) (m : Nat) : ∀ (n : Nat) (a : Int) (r : Nat), n < 128 ^ (m + 1) → m + 1 ≤ r → a + (m + 1) ≤ s.size → bts s a (m + 1) = lebP (m + 1) n → tk s r a = some ((n : Int), m + 1) := by
  induction m with
  | zero =>
    intro n a r hn hr ha hb
    obtain ⟨r, rfl⟩ : ∃ t, r = t + 1 := ⟨r - 1, by omega⟩
    simp only [bts, lebP, List.cons.injEq, and_true] at hb
    have hn' : n < 128 := by simpa using hn
    simp only [tk]
    rw [if_pos (by omega), hb, if_pos (by omega)]
    congr 2
    omega
  | succ m ih =>
    intro n a r hn hr ha hb
    obtain ⟨r, rfl⟩ : ∃ t, r = t + 1 := ⟨r - 1, by omega⟩
    rw [show lebP (m + 1 + 1) n = ((n : Int) % 128 + 128) :: lebP (m + 1) (n / 128) from rfl, show bts s a (m + 1 + 1) = bt s a :: bts s (a + 1) (m + 1) from rfl] at hb
    injection hb with hb1 hb2
    have h2 : n / 128 < 128 ^ (m + 1) := by rw [Nat.pow_succ] at hn; omega
    have e := ih (n / 128) (a + 1) r h2 (by omega) (by omega) hb2
    simp only [tk]
    rw [if_pos (by omega), hb1, if_neg (by omega), e]
    simp only [Option.map_some, Option.some.injEq, Prod.mk.injEq, and_true]
    omega
theorem take_lebP (p r : List Int) (n m : Nat) (hn : n < 128 ^ (m + 1)) (h5 : m + 1 ≤ 5) (hv : n ≤ 4294967295) (hp : ∀ x ∈ p, 0 ≤ x ∧ x < 256) (hr : ∀ x ∈ r, 0 ≤ x ∧ x < 256) (hs : p.length + r.length ≤ 990) :
    takeU32 (strOfNums (p ++ lebP (m + 1) n ++ r)) (p.length : Int) = ((n : Int), (p.length : Int) + ((m + 1 : Nat) : Int), true) := by
  have hrange : ∀ x ∈ p ++ lebP (m + 1) n ++ r, 0 ≤ x ∧ x < 256 := by
    intro x hx
    simp only [List.mem_append] at hx
    rcases hx with (hx | hx) | hx
    · exact hp x hx
    · exact lebP_range _ _ x hx
    · exact hr x hx
  have hb := bts_str (lebP (m + 1) n) p r hrange
  rw [lebP_length] at hb
  have hsz : (strOfNums (p ++ lebP (m + 1) n ++ r)).size = p.length + (m + 1) + r.length := by
    rw [strOfNums_size]; simp [lebP_length]; omega
  have ht := tk_lebP (strOfNums (p ++ lebP (m + 1) n ++ r)) m n (p.length : Int) 5 hn h5 (by omega) hb
  unfold takeU32
  rw [if_pos ⟨by omega, by omega⟩, tuR_some ht, if_pos (by omega)]
theorem take_lebU (p r : List Int) (n : Nat) (hv : n ≤ 4294967295) (hp : ∀ x ∈ p, 0 ≤ x ∧ x < 256) (hr : ∀ x ∈ r, 0 ≤ x ∧ x < 256) (hs : p.length + r.length ≤ 990) :
    takeU32 (strOfNums (p ++ lebU n ++ r)) (p.length : Int) = ((n : Int), (p.length : Int) + ((lebU n).length : Int), true) := by
  have h1 := lebU_pos n
  have h2 := lebU_len 4 n (by omega)
  have h3 := lebU_lt n
  obtain ⟨m, hm⟩ : ∃ m, (lebU n).length = m + 1 := ⟨(lebU n).length - 1, by omega⟩
  rw [lebP_lebU n, hm, lebP_length]
  rw [hm] at h3
  exact take_lebP p r n m h3 (by omega) hv hp hr hs
theorem flat_len (l : List Int) (hl : ∀ x ∈ l, 0 ≤ x ∧ x ≤ 4294967295) : (l.flatMap fun x => lebU x.toNat).length ≤ 5 * l.length := by
  induction l with
  | nil => simp
  | cons y l ih =>
    have h2 := lebU_len 4 y.toNat (by have := hl y (by simp); omega)
    have := ih (fun x hx => hl x (by simp [hx]))
    simp only [List.flatMap_cons, List.length_append, List.length_cons]
    omega
theorem flat_range (l : List Int) : ∀ x ∈ (l.flatMap fun x => lebU x.toNat), 0 ≤ x ∧ x < 256 := by
  intro x hx
  rw [List.mem_flatMap] at hx
  obtain ⟨y, _, hy⟩ := hx
  exact lebU_range _ x hy
theorem tvL_flat (l : List Int) : ∀ p : List Int, (∀ x ∈ p, 0 ≤ x ∧ x < 256) → (∀ x ∈ l, 0 ≤ x ∧ x ≤ 4294967295) → p.length + 5 * l.length ≤ 900 →
    tvL (strOfNums (p ++ l.flatMap fun x => lebU x.toNat)) l.length (p.length : Int) = some (l, ((p ++ l.flatMap fun x => lebU x.toNat).length : Int)) := by
  induction l with
  | nil => intro p _ _ _; simp [tvL]
  | cons y l ih =>
    intro p hp hl hs
    have hy := hl y (by simp)
    have h2 := lebU_len 4 y.toNat (by omega)
    have h3 := flat_len l (fun x hx => hl x (by simp [hx]))
    simp only [List.length_cons] at hs
    have ht := take_lebU p (l.flatMap fun x => lebU x.toNat) y.toNat (by omega) hp (flat_range l) (by omega)
    have e1 : p ++ ((y :: l).flatMap fun x => lebU x.toNat) = p ++ lebU y.toNat ++ (l.flatMap fun x => lebU x.toNat) := by simp
    have hi := ih (p ++ lebU y.toNat) (by
      intro x hx
      simp only [List.mem_append] at hx
      rcases hx with hx | hx
      · exact hp x hx
      · exact lebU_range _ x hx) (fun x hx => hl x (by simp [hx])) (by simp only [List.length_append]; omega)
    rw [e1]
    simp only [List.length_cons, tvL]
    rw [ht]
    simp only [if_true]
    rw [show (p.length : Int) + ((lebU y.toNat).length : Int) = ((p ++ lebU y.toNat).length : Int) from by simp, hi]
    simp only [Option.map_some, Option.some.injEq, Prod.mk.injEq, List.cons.injEq, and_true]
    omega
theorem takeVec_put (l : List Int) (hx : ∀ x ∈ l, 0 ≤ x ∧ x ≤ 4294967295) (hl : l.length ≤ 50) :
    takeVec (strOfNums (lebU l.length ++ l.flatMap fun x => lebU x.toNat)) 0 = (l, ((strOfNums (lebU l.length ++ l.flatMap fun x => lebU x.toNat)).size : Int), true) := by
  have h2 := lebU_len 4 l.length (by omega)
  have h3 := flat_len l hx
  have ht := take_lebU [] (l.flatMap fun x => lebU x.toNat) l.length (by omega) (by simp) (flat_range l) (by rw [show ([] : List Int).length = 0 from rfl]; omega)
  rw [List.nil_append] at ht
  have hv := tvL_flat l (lebU l.length) (lebU_range _) hx (by omega)
  unfold takeVec
  rw [show (([] : List Int).length : Int) = 0 from rfl] at ht
  rw [ht]
  simp only [Int.toNat_natCast, Int.zero_add]
  rw [if_pos ⟨trivial, by omega⟩, hv, strOfNums_size]
  rfl

theorem l1Text_eq (s : ByteArray) (a : Int) : spec_l1Text.f s a = some (decide (s.size ≤ 1000 ∧ 0 ≤ a ∧ a < s.size)) := by
  unfold spec_l1Text.f
  by_cases h : (s.size : Int) ≤ 1000
  · rw [if_pos h]
    by_cases h2 : a ≥ 0
    · rw [if_pos h2]; congr 1; simp only [decide_eq_decide]; omega
    · rw [if_neg h2]; congr 1; symm; simp only [decide_eq_false_iff_not]; omega
  · rw [if_neg h]; congr 1; symm; simp only [decide_eq_false_iff_not]; omega

/-- What the reading loop of the reference answers. -/
def tkS (n at0 : Int) (i : Nat) : Option (Int × Nat) → Int × Int × Int
  | none => (0, 0, 0)
  | some (v, m) => (n + 128 ^ i * v, 7 * ((i : Int) + m), at0 + m)
theorem l1Take_l0 (s : ByteArray) (hs : s.size ≤ 1000) (r : Nat) : ∀ (i : Nat) (at0 n : Int), i + r = 5 → 0 ≤ at0 → at0 ≤ s.size → 0 ≤ n → n < 128 ^ i →
    Ev (fun k => spec_l1Take.l0 k s at0 n (i : Int)) (tkS n at0 i (tk s r at0)) := by
  induction r with
  | zero =>
    intro i at0 n hi h0 h1 hn hn'
    refine ⟨1, fun k hk => ?_⟩
    (try dsimp only)
    obtain ⟨k, rfl⟩ : ∃ m, k = m + 1 := ⟨k - 1, by omega⟩
    simp only [spec_l1Take.l0]
    rw [if_neg (by omega)]; rfl
  | succ r ih =>
    intro i at0 n hi h0 h1 hn hn'
    have hb := bt_range s at0
    by_cases hlt : at0 < (s.size : Int)
    · have e1 : wrap64 (7 * (i : Int)) = 7 * (i : Int) := wrap64_id (by omega) (by omega)
      have e2 : IntKind.u64.wrap (7 * (i : Int)) = 7 * (i : Int) := by simp [IntKind.wrap, IntKind.bits, IntKind.signed]; omega
      have e3 : wrap64 (bt s at0) = bt s at0 := wrap64_id (by omega) (by omega)
      have e4 : wrap64 (at0 + 1) = at0 + 1 := wrap64_id (by omega) (by omega)
      have e5 := or_shl i (by omega) n (bt s at0 % 128) hn hn' (by omega) (by omega)
      by_cases hsm : bt s at0 < 128
      · refine ⟨1, fun k hk => ?_⟩
        (try dsimp only)
        obtain ⟨k, rfl⟩ : ∃ m, k = m + 1 := ⟨k - 1, by omega⟩
        simp only [spec_l1Take.l0, tk]
        rw [if_pos (by omega), if_neg (by omega), if_pos h0, if_pos hlt, e1, e2, if_pos (by omega), e3, if_pos hsm, i64_and127, e5, if_pos hlt, if_pos hsm, e4, wrap64_id (by omega) (by omega)]
        simp only [tkS]
        rw [show bt s at0 % 128 = bt s at0 from by omega, show (7 * (i : Int) + 7) = 7 * ((i : Int) + (1 : Nat)) from by omega]; rfl
      · have hpow : (128 : Int) ^ (i + 1) = 128 * 128 ^ i := by rw [Int.pow_succ]; ac_rfl
        have hq : 0 ≤ (128 : Int) ^ i * (bt s at0 % 128) := Int.mul_nonneg (by omega) (by omega)
        have hq' : (128 : Int) ^ i * (bt s at0 % 128) ≤ 128 ^ i * 127 := Int.mul_le_mul (Int.le_refl _) (by omega) (by omega) (by omega)
        obtain ⟨K, hK⟩ := ih (i + 1) (at0 + 1) (n + 128 ^ i * (bt s at0 % 128)) (by omega) (by omega) (by omega) (by omega) (by rw [hpow]; omega)
        (try dsimp only at hK)
        refine ⟨K + 1, fun k hk => ?_⟩
        (try dsimp only)
        obtain ⟨k, rfl, hk'⟩ := within_lo hk
        simp only [spec_l1Take.l0, tk]
        rw [if_pos (by omega), if_neg (by omega), if_pos h0, if_pos hlt, e1, e2, if_pos (by omega), e3, if_neg hsm, i64_and127, e5, if_pos hlt, if_neg hsm, e4, wrap64_id (by omega) (by omega)]
        have hK' := hK k hk'
        rw [show ((i + 1 : Nat) : Int) = (i : Int) + 1 from by omega] at hK'
        rw [hK']
        cases tk s r (at0 + 1) with
        | none => rfl
        | some p =>
          obtain ⟨v, m⟩ := p
          simp only [tkS, Option.map_some, hpow, Option.some.injEq, Prod.mk.injEq]
          refine ⟨?_, by omega, by omega⟩
          rw [Int.mul_add, Int.mul_assoc, Int.mul_left_comm 128, ← Int.add_assoc]
    · refine ⟨1, fun k hk => ?_⟩
      (try dsimp only)
      obtain ⟨k, rfl⟩ : ∃ m, k = m + 1 := ⟨k - 1, by omega⟩
      simp only [spec_l1Take.l0, tk]
      rw [if_pos (by omega), if_pos (by omega), if_neg hlt]; rfl
theorem l1Take_ev (s : ByteArray) (hs : s.size ≤ 1000) (at0 : Int) (h0 : 0 ≤ at0) (h1 : at0 ≤ s.size) : Ev (fun k => spec_l1Take.f k s at0) (tkS 0 at0 0 (tk s 5 at0)) :=
  l1Take_l0 s hs 5 0 at0 0 rfl h0 h1 (Int.le_refl _) (by decide)

theorem sTakeU32_ev (s : ByteArray) (a : Int) : Ev (fun k => spec_TakeU32.f k s a) (takeU32 s a) := by
  by_cases h : s.size ≤ 1000 ∧ 0 ≤ a ∧ a < s.size
  · obtain ⟨K, hK⟩ := l1Take_ev s h.1 a h.2.1 (by omega)
    (try dsimp only at hK)
    have e : takeU32 s a = tuR s a := by unfold takeU32; rw [if_pos ⟨h.1, h.2.1⟩]
    rw [e]
    refine ⟨K, fun k hk => ?_⟩
    (try dsimp only)
    have hK' := hK k hk
    unfold spec_TakeU32.f
    rw [l1Text_eq, Option.bind_some, if_pos (by simpa using h)]
    cases ht : tk s 5 a with
    | none =>
      rw [ht] at hK'
      simp only [tkS] at hK'
      rw [hK', tuR_none ht]; rfl
    | some p =>
      obtain ⟨v, m⟩ := p
      obtain ⟨q0, _, q2, _, _⟩ := tk_some 5 ht
      rw [ht] at hK'
      simp only [tkS] at hK'
      rw [show (0 : Int) + 128 ^ 0 * v = v from by omega] at hK'
      rw [hK', tuR_some ht]
      dsimp only [Option.bind_some]
      rw [if_neg (by omega), l1U32_eq, Option.bind_some]
      by_cases hv : v ≤ 4294967295
      · rw [if_pos (by simp; omega), if_pos hv]
      · rw [if_neg (by simp; omega), if_neg hv]
  · refine ⟨0, fun k _ => ?_⟩
    (try dsimp only)
    unfold spec_TakeU32.f takeU32
    rw [l1Text_eq, Option.bind_some, if_neg (by simpa using h)]
    by_cases h2 : s.size ≤ 1000 ∧ 0 ≤ a
    · rw [if_pos h2, tuR_none (tk_out 5 (by omega))]
    · rw [if_neg h2]

/-- What the reading loop of the program answers. -/
def tkI (n at0 : Int) (i : Nat) : Option (Int × Nat) → Int × Int × Int × Bool
  | none => (0, 0, 0, false)
  | some (v, m) => (n + 128 ^ i * v, 7 * ((i : Int) + m), at0 + i + m, true)
theorem takeBits_l0 (s : ByteArray) (hs : s.size ≤ 1000) (at0 : Int) (h0 : 0 ≤ at0) (ha : at0 ≤ 9223372036854775000) (r : Nat) : ∀ (i : Nat) (n : Int), i + r = 5 → 0 ≤ n → n < 128 ^ i →
    Ev (fun k => impl_takeBits.l0 k s at0 n (i : Int)) (tkI n at0 i (tk s r (at0 + i))) := by
  induction r with
  | zero =>
    intro i n hi hn hn'
    refine ⟨2, fun k hk => ?_⟩
    (try dsimp only)
    obtain ⟨k, rfl⟩ : ∃ m, k = m + 2 := ⟨k - 2, by omega⟩
    simp only [impl_takeBits.l0, impl_takeBits.j1]
    rw [if_neg (by omega), if_neg (by simp)]; rfl
  | succ r ih =>
    intro i n hi hn hn'
    have hb := bt_range s (at0 + i)
    have e0 : wrap64 (at0 + (i : Int)) = at0 + i := wrap64_id (by omega) (by omega)
    by_cases hlt : at0 + (i : Int) < (s.size : Int)
    · have e1 : wrap64 (7 * (i : Int)) = 7 * (i : Int) := wrap64_id (by omega) (by omega)
      have e3 : wrap64 (bt s (at0 + i) % 128) = bt s (at0 + i) % 128 := wrap64_id (by omega) (by omega)
      have e6 : bits .and .u8 (bt s (at0 + i)) 127 = bt s (at0 + i) % 128 := by
        have := u8_and127_any (bt s (at0 + i)); rwa [show bt s (at0 + i) % 256 = bt s (at0 + i) from by omega] at this
      have e5 := or_shl i (by omega) n (bt s (at0 + i) % 128) hn hn' (by omega) (by omega)
      by_cases hsm : bt s (at0 + i) < 128
      · refine ⟨2, fun k hk => ?_⟩
        (try dsimp only)
        obtain ⟨k, rfl⟩ : ∃ m, k = m + 2 := ⟨k - 2, by omega⟩
        simp only [impl_takeBits.l0, impl_takeBits.j1, tk]
        rw [if_pos (by omega), e0, if_pos (by simpa using hlt), if_pos (by omega), if_pos hlt, e1, if_pos (by omega), if_pos hsm, e6, e3, e5, if_pos hlt, if_pos hsm, wrap64_id (x := (i : Int) + 1) (by omega) (by omega), wrap64_id (x := 7 * ((i : Int) + 1)) (by omega) (by omega), wrap64_id (x := at0 + (i : Int) + 1) (by omega) (by omega)]
        simp only [tkI]
        rw [show bt s (at0 + i) % 128 = bt s (at0 + i) from by omega, show 7 * ((i : Int) + 1) = 7 * ((i : Int) + (1 : Nat)) from by omega]; rfl
      · have hpow : (128 : Int) ^ (i + 1) = 128 * 128 ^ i := by rw [Int.pow_succ]; ac_rfl
        have hq : 0 ≤ (128 : Int) ^ i * (bt s (at0 + i) % 128) := Int.mul_nonneg (by omega) (by omega)
        have hq' : (128 : Int) ^ i * (bt s (at0 + i) % 128) ≤ 128 ^ i * 127 := Int.mul_le_mul (Int.le_refl _) (by omega) (by omega) (by omega)
        obtain ⟨K, hK⟩ := ih (i + 1) (n + 128 ^ i * (bt s (at0 + i) % 128)) (by omega) (by omega) (by rw [hpow]; omega)
        (try dsimp only at hK)
        refine ⟨K + 2, fun k hk => ?_⟩
        (try dsimp only)
        obtain ⟨k, rfl, hk'⟩ : ∃ m, k = m + 2 ∧ K ≤ m := ⟨k - 2, by omega, by omega⟩
        simp only [impl_takeBits.l0, impl_takeBits.j1, tk]
        rw [if_pos (by omega), e0, if_pos (by simpa using hlt), if_pos (by omega), if_pos hlt, e1, if_pos (by omega), if_neg hsm, e6, e3, e5, if_pos hlt, if_neg hsm, wrap64_id (x := (i : Int) + 1) (by omega) (by omega)]
        have hK' := hK k hk'
        rw [show ((i + 1 : Nat) : Int) = (i : Int) + 1 from by omega, show at0 + ((i : Int) + 1) = at0 + i + 1 from by omega] at hK'
        rw [hK']
        cases tk s r (at0 + i + 1) with
        | none => rfl
        | some p =>
          obtain ⟨v, m⟩ := p
          simp only [tkI, Option.map_some, hpow, Option.some.injEq, Prod.mk.injEq]
          refine ⟨?_, by omega, by omega, trivial⟩
          rw [Int.mul_add, Int.mul_assoc, Int.mul_left_comm 128, ← Int.add_assoc]
    · refine ⟨2, fun k hk => ?_⟩
      (try dsimp only)
      obtain ⟨k, rfl⟩ : ∃ m, k = m + 2 := ⟨k - 2, by omega⟩
      simp only [impl_takeBits.l0, impl_takeBits.j1, tk]
      rw [if_pos (by omega), e0, if_neg (by simpa using hlt), if_neg hlt]; rfl
theorem takeBits_ev (s : ByteArray) (hs : s.size ≤ 1000) (at0 : Int) (h0 : 0 ≤ at0) (h1 : at0 ≤ 9223372036854775807) : Ev (fun k => impl_takeBits.f k s at0) (tkI 0 at0 0 (tk s 5 at0)) := by
  by_cases ha : at0 ≤ 9223372036854775000
  · have := takeBits_l0 s hs at0 h0 ha 5 0 0 rfl (Int.le_refl _) (by decide)
    rw [show at0 + ((0 : Nat) : Int) = at0 from by omega] at this
    exact this
  · refine ⟨2, fun k hk => ?_⟩
    (try dsimp only)
    obtain ⟨k, rfl⟩ : ∃ m, k = m + 2 := ⟨k - 2, by omega⟩
    simp only [impl_takeBits.f, impl_takeBits.l0, impl_takeBits.j1, tk]
    rw [if_pos (by omega), wrap64_id (by omega) (by omega), if_neg (by simp; omega), if_neg (by omega)]; rfl

theorem takeU_ev (s : ByteArray) (hs : s.size ≤ 1000) (a : Int) (h0 : 0 ≤ a) (h1 : a ≤ 9223372036854775807) : Ev (fun k => impl_takeU.f k s a) (tuR s a) := by
  obtain ⟨K, hK⟩ := takeBits_ev s hs a h0 h1
  (try dsimp only at hK)
  refine ⟨K, fun k hk => ?_⟩
  (try dsimp only)
  have hK' := hK k hk
  unfold impl_takeU.f
  cases ht : tk s 5 a with
  | none =>
    rw [ht] at hK'
    simp only [tkI] at hK'
    rw [hK', tuR_none ht]; rfl
  | some p =>
    obtain ⟨v, m⟩ := p
    rw [ht] at hK'
    simp only [tkI] at hK'
    rw [show (0 : Int) + 128 ^ 0 * v = v from by omega, show a + ((0 : Nat) : Int) + m = a + m from by omega] at hK'
    rw [hK', tuR_some ht]
    dsimp only [Option.bind_some]
    rw [if_pos rfl]
    by_cases hv : v ≤ 4294967295
    · rw [if_neg (by omega), if_pos hv]
    · rw [if_pos (by omega), if_neg hv]

theorem iTakeU32_ev (s : ByteArray) (a : Int) (h1 : a ≤ 9223372036854775807) : Ev (fun k => impl_TakeU32.f k s a) (takeU32 s a) := by
  by_cases h : s.size ≤ 1000 ∧ 0 ≤ a
  · obtain ⟨K, hK⟩ := takeU_ev s h.1 a h.2 h1
    (try dsimp only at hK)
    refine ⟨K, fun k hk => ?_⟩
    (try dsimp only)
    unfold impl_TakeU32.f takeU32
    rw [if_neg (by omega), if_neg (by omega), hK k hk, Option.bind_some, if_pos h]
  · refine ⟨0, fun k _ => ?_⟩
    (try dsimp only)
    unfold impl_TakeU32.f takeU32
    rw [if_neg h]
    by_cases h2 : (s.size : Int) > 1000
    · rw [if_pos h2]
    · rw [if_neg h2, if_pos (by omega)]

theorem sPutU32_ev (a : Int) : Ev (fun k => spec_PutU32.f k a) (if 0 ≤ a ∧ a ≤ 4294967295 then (strOfNums (lebU a.toNat), true) else ((⟨#[]⟩ : ByteArray), false)) := by
  by_cases h : 0 ≤ a ∧ a ≤ 4294967295
  · obtain ⟨K, hK⟩ := l1PutU_ev a h.1 (by omega)
    (try dsimp only at hK)
    refine ⟨K, fun k hk => ?_⟩
    (try dsimp only)
    unfold spec_PutU32.f
    rw [l1U32_eq, Option.bind_some, if_pos (by simpa using h), hK k hk, if_pos h]; rfl
  · refine ⟨0, fun k _ => ?_⟩
    (try dsimp only)
    unfold spec_PutU32.f
    rw [l1U32_eq, Option.bind_some, if_neg (by simpa using h), if_neg h]

theorem iPutS32_l0 (d : Nat) : ∀ (n : Int) (s : List Int), n.natAbs ≤ d → s.length + (lebS n).length ≤ 140737488355328 → Ev (fun k => impl_PutS32.l0 k n s) (strOfNums (s ++ lebS n), true) := by
  induction d using Nat.strongRecOn with
  | ind d ih =>
    intro n s hd hs
    by_cases hn : -64 ≤ n ∧ n ≤ 63
    · refine ⟨1, fun k hk => ?_⟩
      (try dsimp only)
      obtain ⟨k, rfl⟩ : ∃ m, k = m + 1 := ⟨k - 1, by omega⟩
      simp only [impl_PutS32.l0]
      rw [lebS_small hn] at hs ⊢
      simp only [List.length_cons, List.length_nil] at hs
      rw [within_eq, Option.bind_some, if_pos (by simpa using hn), if_pos (by omega), u8_and127_any]
    · rw [lebS_big hn] at hs ⊢
      simp only [List.length_cons] at hs
      obtain ⟨K, hK⟩ := ih (n / 128).natAbs (by omega) (n / 128) (s ++ [n % 128 + 128]) (Nat.le_refl _) (by simp only [List.length_append, List.length_cons, List.length_nil]; omega)
      (try dsimp only at hK)
      refine ⟨K + 1, fun k hk => ?_⟩
      (try dsimp only)
      obtain ⟨k, rfl, hk'⟩ := within_lo hk
      simp only [impl_PutS32.l0]
      rw [within_eq, Option.bind_some, if_neg (by simpa using hn), if_pos (by omega), u8_or128_any, hK k hk', List.append_assoc]
      rfl
theorem iPutS32_ev (a : Int) : Ev (fun k => impl_PutS32.f k a) (if -2147483648 ≤ a ∧ a ≤ 2147483647 then (strOfNums (lebS a), true) else ((⟨#[]⟩ : ByteArray), false)) := by
  by_cases h : -2147483648 ≤ a ∧ a ≤ 2147483647
  · have hl := lebS_len 9 a (by omega) (by omega)
    obtain ⟨K, hK⟩ := iPutS32_l0 _ a [] (Nat.le_refl _) (by simp only [List.length_nil]; omega)
    (try dsimp only at hK)
    refine ⟨K, fun k hk => ?_⟩
    (try dsimp only)
    unfold impl_PutS32.f
    rw [within_eq, Option.bind_some, if_pos (by simpa using h), hK k hk, if_pos h]; rfl
  · refine ⟨0, fun k _ => ?_⟩
    (try dsimp only)
    unfold impl_PutS32.f
    rw [within_eq, Option.bind_some, if_neg (by simpa using h), if_neg h]

theorem l1S32_eq (a : Int) : spec_l1S32.f a = some (decide (-2147483648 ≤ a ∧ a ≤ 2147483647)) := by
  unfold spec_l1S32.f; rw [l1In_eq]; rfl

theorem l1PutS_l0 (d : Nat) : ∀ (n : Int) (s : ByteArray), n.natAbs ≤ d → s.size + (lebS n).length ≤ 9223372036854775807 → Ev (fun k => spec_l1PutS.l0 k n s) (s ++ strOfNums (lebS n)) := by
  induction d using Nat.strongRecOn with
  | ind d ih =>
    intro n s hd hs
    by_cases hn : -64 ≤ n ∧ n ≤ 63
    · refine ⟨1, fun k hk => ?_⟩
      (try dsimp only)
      obtain ⟨k, rfl⟩ : ∃ m, k = m + 1 := ⟨k - 1, by omega⟩
      simp only [spec_l1PutS.l0]
      rw [lebS_small hn] at hs ⊢
      rw [l1In_eq, Option.bind_some, if_pos (by simpa using hn), Option.bind_some, i64_and127, show (n % 128) % 256 = n % 128 from by omega, if_pos (by rw [strOfNums_size]; exact hs)]
    · rw [lebS_big hn] at hs ⊢
      simp only [List.length_cons] at hs
      obtain ⟨K, hK⟩ := ih (n / 128).natAbs (by omega) (n / 128) (s ++ strOfNums [n % 128 + 128]) (Nat.le_refl _) (by rw [str_append_size, strOfNums_size]; simp only [List.length_cons, List.length_nil]; omega)
      (try dsimp only at hK)
      refine ⟨K + 1, fun k hk => ?_⟩
      (try dsimp only)
      obtain ⟨k, rfl, hk'⟩ := within_lo hk
      simp only [spec_l1PutS.l0]
      rw [l1In_eq, Option.bind_some, if_neg (by simpa using hn), Option.bind_some, i64_and127, i64_or128 _ (by omega) (by omega), show (n % 128 + 128) % 256 = n % 128 + 128 from by omega,
        if_pos (by rw [strOfNums_size]; simp only [List.length_cons, List.length_nil]; omega), hK k hk', append_str_assoc, ← strOfNums_append]
      rfl
theorem l1PutS_ev (a : Int) (h0 : -9223372036854775808 ≤ a) (h1 : a ≤ 9223372036854775807) : Ev (fun k => spec_l1PutS.f k a) (strOfNums (lebS a)) := by
  have hl := lebS_len 9 a (by omega) (by omega)
  obtain ⟨K, hK⟩ := l1PutS_l0 _ a (⟨#[]⟩ : ByteArray) (Nat.le_refl _) (by show 0 + _ ≤ _; omega)
  (try dsimp only at hK)
  refine ⟨K, fun k hk => ?_⟩
  (try dsimp only)
  unfold spec_l1PutS.f
  rw [hK k hk, nil_append_str]

theorem sPutS32_ev (a : Int) : Ev (fun k => spec_PutS32.f k a) (if -2147483648 ≤ a ∧ a ≤ 2147483647 then (strOfNums (lebS a), true) else ((⟨#[]⟩ : ByteArray), false)) := by
  by_cases h : -2147483648 ≤ a ∧ a ≤ 2147483647
  · obtain ⟨K, hK⟩ := l1PutS_ev a (by omega) (by omega)
    (try dsimp only at hK)
    refine ⟨K, fun k hk => ?_⟩
    (try dsimp only)
    unfold spec_PutS32.f
    rw [l1S32_eq, Option.bind_some, if_pos (by simpa using h), hK k hk, if_pos h]; rfl
  · refine ⟨0, fun k _ => ?_⟩
    (try dsimp only)
    unfold spec_PutS32.f
    rw [l1S32_eq, Option.bind_some, if_neg (by simpa using h), if_neg h]

/-- What is read lies there as it would be put, in as many bytes. -/
theorem tk_bts {s : ByteArray} (r : Nat) : ∀ {at0 v : Int} {m : Nat}, tk s r at0 = some (v, m) → bts s at0 m = lebP m v.toNat := by
  induction r with
  | zero => intro at0 v m h; simp [tk] at h
  | succ r ih =>
    intro at0 v m h
    simp only [tk] at h
    by_cases h1 : at0 < (s.size : Int)
    · rw [if_pos h1] at h
      have hb := bt_range s at0
      by_cases h2 : bt s at0 < 128
      · rw [if_pos h2] at h
        injection h with h; injection h with h3 h4; subst h3; subst h4
        simp only [bts, lebP, List.cons.injEq, and_true]; omega
      · rw [if_neg h2] at h
        cases ht : tk s r (at0 + 1) with
        | none => rw [ht] at h; simp at h
        | some p =>
          obtain ⟨v', m'⟩ := p
          rw [ht] at h
          simp only [Option.map_some, Option.some.injEq, Prod.mk.injEq] at h
          obtain ⟨rfl, rfl⟩ := h
          obtain ⟨q0, q1, q2, q3, q4⟩ := tk_some r ht
          have e := ih ht
          obtain ⟨j, rfl⟩ : ∃ j, m' = j + 1 := ⟨m' - 1, by omega⟩
          rw [show bts s at0 (j + 1 + 1) = bt s at0 :: bts s (at0 + 1) (j + 1) from rfl, e, show lebP (j + 1 + 1) (bt s at0 % 128 + 128 * v').toNat = (((bt s at0 % 128 + 128 * v').toNat : Int) % 128 + 128) :: lebP (j + 1) ((bt s at0 % 128 + 128 * v').toNat / 128) from rfl]
          congr 1
          · omega
          · congr 1; omega
    · rw [if_neg h1] at h; simp at h
/-- A number with a sign, as its bytes are: one without a sign, below 128 to the power of their count. -/
theorem lebS_lebP (d : Nat) : ∀ n : Int, n.natAbs ≤ d → ∃ j : Nat, (lebS n).length = j + 1 ∧ -(64 * 128 ^ j) ≤ n ∧ n < 64 * 128 ^ j ∧ lebS n = lebP (j + 1) (n % 128 ^ (j + 1)).toNat := by
  induction d with
  | zero =>
    intro n hn
    obtain rfl : n = 0 := by omega
    refine ⟨0, ?_, by omega, by omega, ?_⟩
    · rw [lebS_small (by omega)]; rfl
    · rw [lebS_small (by omega)]; rfl
  | succ d ih =>
    intro n hn
    by_cases h : -64 ≤ n ∧ n ≤ 63
    · refine ⟨0, ?_, by omega, by omega, ?_⟩
      · rw [lebS_small h]; rfl
      · rw [lebS_small h]
        simp only [lebP, List.cons.injEq, and_true, Nat.zero_add, Int.pow_one]
        omega
    · obtain ⟨j, h1, h2, h3, h4⟩ := ih (n / 128) (by omega)
      have hp : (64 * 128 ^ (j + 1) : Int) = 128 * (64 * 128 ^ j) := by rw [Int.pow_succ]; ac_rfl
      have hq : (128 ^ (j + 1 + 1) : Int) = 128 * 128 ^ (j + 1) := by rw [Int.pow_succ]; ac_rfl
      have hpos : (0 : Int) < 128 ^ (j + 1) := Int.pow_pos (by omega)
      refine ⟨j + 1, ?_, ?_, ?_, ?_⟩
      · rw [lebS_big h, List.length_cons, h1]
      · rw [hp]; generalize (64 * 128 ^ j : Int) = q at *; omega
      · rw [hp]; generalize (64 * 128 ^ j : Int) = q at *; omega
      · rw [lebS_big h, h4, hq]
        have hm : n % (128 * 128 ^ (j + 1)) = n % 128 + 128 * (n / 128 % 128 ^ (j + 1)) := by
          have h5 := Int.emod_add_mul_ediv (n / 128) (128 ^ (j + 1))
          have h6 := Int.emod_nonneg (n / 128) (b := 128 ^ (j + 1)) (by omega)
          have h7 := Int.emod_lt_of_pos (n / 128) hpos
          generalize n / 128 / 128 ^ (j + 1) = z at *
          generalize n / 128 % 128 ^ (j + 1) = y at *
          generalize (128 : Int) ^ (j + 1) = q at *
          have h8 : n = (n % 128 + 128 * y) + (128 * q) * z := by
            rw [Int.mul_assoc]
            generalize q * z = t at *
            omega
          have h9 : 0 ≤ n % 128 + 128 * y ∧ n % 128 + 128 * y < 128 * q := by omega
          generalize n % 128 + 128 * y = c at *
          rw [h8, Int.add_mul_emod_self_left, Int.emod_eq_of_lt h9.1 h9.2]
        have h0 := Int.emod_nonneg (n / 128) (b := 128 ^ (j + 1)) (by omega)
        generalize hy : n / 128 % 128 ^ (j + 1) = y at *
        rw [hm, show lebP (j + 1 + 1) (n % 128 + 128 * y).toNat = (((n % 128 + 128 * y).toNat : Int) % 128 + 128) :: lebP (j + 1) ((n % 128 + 128 * y).toNat / 128) from rfl]
        congr 1
        · omega
        · congr 1; omega
theorem take_lebS (r : List Int) (n : Int) (hv : -2147483648 ≤ n ∧ n ≤ 2147483647) (hr : ∀ x ∈ r, 0 ≤ x ∧ x < 256) (hs : r.length ≤ 900) :
    takeS32 (strOfNums (lebS n ++ r)) 0 = (n, ((lebS n).length : Int), true) := by
  obtain ⟨j, h1, h2, h3, h4⟩ := lebS_lebP n.natAbs n (Nat.le_refl _)
  have hl := lebS_len 4 n (by omega) (by omega)
  have hpos : (0 : Int) < 128 ^ (j + 1) := Int.pow_pos (by omega)
  have hm0 := Int.emod_nonneg n (b := 128 ^ (j + 1)) (by omega)
  have hm1 := Int.emod_lt_of_pos n hpos
  obtain ⟨u, hu⟩ : ∃ u : Nat, n % 128 ^ (j + 1) = (u : Int) := ⟨(n % 128 ^ (j + 1)).toNat, by omega⟩
  have hu2 : u < 128 ^ (j + 1) := by
    have : (u : Int) < ((128 ^ (j + 1) : Nat) : Int) := by rw [← hu]; simpa using hm1
    omega
  rw [hu, Int.toNat_natCast] at h4
  have hrange : ∀ x ∈ ([] : List Int) ++ lebP (j + 1) u ++ r, 0 ≤ x ∧ x < 256 := by
    intro x hx
    simp only [List.nil_append, List.mem_append] at hx
    exact hx.elim (lebP_range _ _ x) (hr x)
  have hb := bts_str (lebP (j + 1) u) [] r hrange
  rw [lebP_length, List.nil_append] at hb
  have hsz : (strOfNums (lebP (j + 1) u ++ r)).size = (j + 1) + r.length := by
    rw [strOfNums_size]; simp [lebP_length]
  have ht := tk_lebP (strOfNums (lebP (j + 1) u ++ r)) j u (([] : List Int).length : Int) 5 hu2 (by omega) (by simp; omega) hb
  rw [h4]
  unfold takeS32
  have e0 : (([] : List Int).length : Int) = 0 := rfl
  rw [e0] at ht
  rw [if_pos ⟨by omega, by omega⟩, lebP_length]
  have hp2 : (2 : Int) ^ (7 * (j + 1)) = 128 ^ (j + 1) := pow128 (j + 1)
  have hp3 : (2 : Int) ^ (7 * (j + 1) - 1) = 64 * 128 ^ j := by
    rw [show 7 * (j + 1) - 1 = 6 + 7 * j by omega, Int.pow_add, pow128]; rfl
  have hp4 : (128 : Int) ^ (j + 1) = 128 * 128 ^ j := by rw [Int.pow_succ]; ac_rfl
  have hq : (0 : Int) < 128 ^ j := Int.pow_pos (by omega)
  have hdm := Int.emod_add_mul_ediv n (128 ^ (j + 1))
  have hbit : ∀ q : Int, 0 < q → ∀ v : Int, 0 ≤ v → v < 2 * q → (v / q % 2 = 1 ↔ q ≤ v) := by
    intro q hq v v0 v1
    constructor
    · intro h
      apply Classical.byContradiction
      intro hc
      rw [Int.ediv_eq_zero_of_lt v0 (by omega)] at h
      omega
    · intro h
      have e : v = (v - q) + q * 1 := by omega
      rw [e, Int.add_mul_ediv_left _ _ (by omega), Int.ediv_eq_zero_of_lt (by omega) (by omega)]
      rfl
  have hlen : ((j + 1 : Nat) : Int) = (lebS n).length := by rw [h1]
  by_cases hneg : n < 0
  · have hval : n % 128 ^ (j + 1) = n + 128 ^ (j + 1) := by
      rw [hp4] at hm0 hm1 hdm ⊢
      generalize (128 : Int) ^ j = q at *
      have e : n = (n + 128 * q) + (128 * q) * (-1) := by omega
      rw [e, Int.add_mul_emod_self_left, Int.emod_eq_of_lt (by omega) (by omega)]
      omega
    have hv2 : (u : Int) / 2 ^ (7 * (j + 1) - 1) % 2 = 1 := by
      rw [hp3]
      exact (hbit (64 * 128 ^ j) (by omega) u (by omega) (by rw [← hu]; rw [hp4] at hm1; omega)).2 (by rw [← hu, hval, hp4]; omega)
    rw [tsR_neg ht hv2, hp2, if_pos ⟨by omega, by omega⟩]
    congr 1
    · omega
    · congr 1; omega
  · have hval : n % 128 ^ (j + 1) = n := Int.emod_eq_of_lt (by omega) (by rw [hp4]; omega)
    have hv2 : ¬ (u : Int) / 2 ^ (7 * (j + 1) - 1) % 2 = 1 := by
      rw [hp3]
      intro hc
      have := (hbit (64 * 128 ^ j) (by omega) u (by omega) (by rw [← hu]; rw [hp4] at hm1; omega)).1 hc
      omega
    rw [tsR_pos ht hv2, if_pos ⟨by omega, by omega⟩]
    congr 1
    · omega
    · congr 1; omega
theorem lebU_ge (n : Nat) : ∀ j : Nat, (lebU n).length = j + 2 → 128 ^ (j + 1) ≤ n := by
  induction n using Nat.strongRecOn with
  | ind n ih =>
    intro j hj
    by_cases h : n < 128
    · rw [lebU_small h] at hj; simp at hj
    · rw [lebU_big h, List.length_cons] at hj
      cases j with
      | zero => simp; omega
      | succ j =>
        have := ih (n / 128) (by omega) j (by omega)
        rw [Nat.pow_succ]
        omega
theorem least_both (s : ByteArray) : ∃ r, Ev (fun k => impl_IsLeast.f k s) r ∧ Ev (fun k => spec_IsLeast.f k s) r := by
  have h1 := sTakeU32_ev s 0
  have h2 := iTakeU32_ev s 0 (by omega)
  rcases ht : takeU32 s 0 with ⟨v, e, ok⟩
  rw [ht] at h1 h2
  unfold impl_IsLeast.f spec_IsLeast.f
  cases ok with
  | false => exact ⟨false, Ev.bind h2 (Ev.ite_neg (by simp) (Ev.now _)), Ev.bind h1 (Ev.ite_neg (by simp) (Ev.now _))⟩
  | true =>
    obtain ⟨q1, q2, q3, q4, q5, q6⟩ := takeU32_true ht
    have h3 := l1PutU_ev v q3 (by omega)
    have h4 := putU_ev [] v q3 (by omega) (by simp)
    by_cases he : e = (s.size : Int)
    · refine ⟨_, Ev.bind h2 (Ev.ite_pos rfl (Ev.ite_pos he (Ev.bind h4 (Ev.now _)))), Ev.bind h1 (Ev.ite_pos rfl (Ev.ite_pos he (Ev.bind h3 (Ev.some ?_))))⟩
      have hu : tuR s 0 = (v, e, true) := by unfold takeU32 at ht; rwa [if_pos ⟨q1, q2⟩] at ht
      obtain ⟨m, h5, h6, h7⟩ := tuR_true hu
      obtain ⟨i1, i2⟩ := tk_least 5 h5
      have hm : m = s.size := by omega
      subst hm
      rw [List.nil_append]
      by_cases hl : (lebU v.toNat).length = s.size
      · have : (strOfNums (lebU v.toNat)) = s := by rw [i2 hl, bts_all]
        rw [this, hl]; simp
      · have e1 : (((lebU v.toNat).length : Int) == (s.size : Int)) = false := by simp; omega
        have e2 : ((strOfNums (lebU v.toNat)).toList == s.toList) = false := by
          rw [beq_eq_false_iff_ne]
          intro hh
          apply hl
          rw [← strOfNums_size, ← data_length (strOfNums _), ← data_length s]
          have hh' : (strOfNums (lebU v.toNat)).data.toList = s.data.toList := by
            rw [← ByteArray.toList_eq, ← ByteArray.toList_eq]; exact hh
          rw [hh']
        rw [e1, e2]
    · exact ⟨false, Ev.bind h2 (Ev.ite_pos rfl (Ev.ite_neg he (Ev.now _))), Ev.bind h1 (Ev.ite_pos rfl (Ev.ite_neg he (Ev.now _)))⟩
theorem least_lebU (n : Int) (h0 : 0 ≤ n) (h1 : n ≤ 4294967295) : Ev (fun k => impl_IsLeast.f k (strOfNums (lebU n.toNat))) true := by
  have ht := take_lebU [] [] n.toNat (by omega) (by simp) (by simp) (by simp)
  rw [List.nil_append, List.append_nil, show (([] : List Int).length : Int) = 0 from rfl] at ht
  have h2 := iTakeU32_ev (strOfNums (lebU n.toNat)) 0 (by omega)
  rw [ht] at h2
  have h4 := putU_ev [] n h0 (by omega) (by simp)
  unfold impl_IsLeast.f
  have e1 : ((n.toNat : Nat) : Int) = n := by omega
  rw [e1] at h2
  refine Ev.bind h2 (Ev.ite_pos rfl (Ev.ite_pos (by dsimp only; rw [strOfNums_size]; omega) (Ev.bind h4 (Ev.some ?_))))
  rw [strOfNums_size]; simp
theorem bts_extract (s : ByteArray) (a m : Nat) (h : a + m ≤ s.size) : strOfNums (bts s (a : Int) m) = s.extract a (a + m) := by
  apply ByteArray.ext
  apply Array.toList_inj.mp
  rw [strOfNums_data]
  apply List.ext_getElem?
  intro j
  rw [List.getElem?_map]
  have hd : (s.extract a (a + m)).data.toList = (s.data.toList.drop a).take m := by
    rw [ByteArray.data_extract, Array.toList_extract, List.extract_eq_take_drop]
    congr 1; omega
  rw [hd, List.getElem?_take]
  by_cases hj : j < m
  · rw [bts_get s m a j hj, if_pos hj, List.getElem?_drop]
    have h' : a + j < s.data.toList.length := by rw [data_length]; omega
    rw [List.getElem?_eq_getElem h']
    simp only [Option.map_some, Option.some.injEq]
    unfold bt
    rw [dif_pos (by omega)]
    have : (((a : Int) + (j : Int)).toNat) = a + j := by omega
    simp only [this]
    have e : s[a + j]'(by omega) = s.data.toList[a + j]'h' := rfl
    rw [← e]
    simp
  · rw [List.getElem?_eq_none (by rw [bts_length]; omega), if_neg hj]; rfl

theorem u64_and255 (x : Int) (h0 : 0 ≤ x) (h1 : x < 18446744073709551616) : Go.bits .and .u64 x 255 = x % 256 := by
  have h := bits_mask .u64 64 (by decide) (fun n h₀ h₁ => by rw [IntKind.wrap_u64]; omega) 8 (by decide) x h0 h1
  rw [show ((255 : Int)) = 2 ^ 8 - 1 from rfl, h]
  rfl
theorem wf_u8 {x : Int} (h : (Lit.int .u8 x).wf = true) : 0 ≤ x ∧ x ≤ 255 := by
  have e1 : IntKind.u8.min = 0 := by decide
  have e2 : IntKind.u8.max = 255 := by decide
  simp only [Lit.wf, e1, e2, Bool.and_eq_true, decide_eq_true_eq] at h
  exact h
theorem u64_lo (x : Int) : 0 ≤ IntKind.u64.wrap x ∧ IntKind.u64.wrap x < 18446744073709551616 := by
  rw [IntKind.wrap_u64]; omega
theorem rd_mem (l : List Int) (i : Int) (h0 : 0 ≤ i) (h1 : i < l.length) : rd l i ∈ l := by
  unfold rd
  have : i.toNat < l.length := by omega
  simp [List.getD_eq_getElem?_getD, List.getElem?_eq_getElem this]
/-- A cursor's next number. -/
theorem next_some (l : List Int) (hl : ∀ x ∈ l, (Lit.int .u8 x).wf = true) (p s : Int) (h0 : 0 ≤ p) (h1 : p ≤ 4611686018427387904) :
    ∃ v s', spec_l1Cur_next.f l p s = some (v, p + 1, s') ∧ 0 ≤ v ∧ v ≤ 255 := by
  have key : ∀ z : Int, 0 ≤ wrap64 (Go.bits .and .u64 (IntKind.u64.wrap z / 1099511627776) 255) ∧ wrap64 (Go.bits .and .u64 (IntKind.u64.wrap z / 1099511627776) 255) ≤ 255 := by
    intro z
    have hz := u64_lo z
    rw [u64_and255 _ (by omega) (by omega), wrap64_id (by omega) (by omega)]
    omega
  unfold spec_l1Cur_next.f
  rw [show wrap64 (p + 1) = p + 1 from wrap64_id (by omega) (by omega)]
  by_cases h : p < (l.length : Int)
  · rw [if_pos h, if_pos h0, if_pos (by omega)]
    have hx := wf_u8 (hl _ (rd_mem l p h0 h))
    exact ⟨_, _, rfl, by rw [wrap64_id (by omega) (by omega)]; exact hx⟩
  · rw [if_neg h, if_neg (by omega)]
    exact ⟨_, _, rfl, key _⟩
/-- A cursor's pick of n. -/
theorem pick_some (l : List Int) (hl : ∀ x ∈ l, (Lit.int .u8 x).wf = true) (p s n : Int) (h0 : 0 ≤ p) (h1 : p ≤ 4611686018427387000) :
    ∃ v p' s', spec_l1Cur_pick.f l p s n = some (v, p', s') ∧ 0 ≤ v ∧ (v < n ∨ v = 0) ∧ v ≤ 65535 ∧ p ≤ p' ∧ p' ≤ p + 2 := by
  unfold spec_l1Cur_pick.f
  by_cases hn : n ≤ 1
  · rw [if_pos hn]; exact ⟨0, p, s, rfl, by omega, .inr rfl, by omega, by omega, by omega⟩
  · rw [if_neg hn]
    obtain ⟨v, s1, e1, hv0, hv1⟩ := next_some l hl p s h0 (by omega)
    rw [e1, Option.bind_some]
    have tm : ∀ z : Int, 0 ≤ z → 0 ≤ Int.tmod z n ∧ Int.tmod z n < n ∧ Int.tmod z n ≤ z := by
      intro z hz
      rw [Int.tmod_eq_emod_of_nonneg hz]
      have e1 : 0 ≤ z % n := Int.emod_nonneg _ (by omega)
      have e2 : z % n < n := Int.emod_lt_of_pos _ (by omega)
      refine ⟨e1, e2, ?_⟩
      by_cases hzn : z < n
      · rw [Int.emod_eq_of_lt hz hzn]; omega
      · omega
    by_cases hb : n > 200
    · rw [if_pos hb]
      obtain ⟨v2, s2, e2, hw0, hw1⟩ := next_some l hl (p + 1) s1 (by omega) (by omega)
      dsimp only
      rw [e2, Option.bind_some, if_neg (by omega)]
      dsimp only
      rw [wrap64_id (x := v * 256) (by omega) (by omega), wrap64_id (by omega) (by omega)]
      obtain ⟨t0, t1, t2⟩ := tm (v * 256 + v2) (by omega)
      exact ⟨_, _, _, rfl, t0, .inl t1, by omega, by omega, by omega⟩
    · rw [if_neg hb, if_neg (by omega)]
      dsimp only
      obtain ⟨t0, t1, t2⟩ := tm v (by omega)
      exact ⟨_, _, _, rfl, t0, .inl t1, by omega, by omega, by omega⟩

/-- A cursor's choice among some. -/
theorem among_some (l : List Int) (hl : ∀ x ∈ l, (Lit.int .u8 x).wf = true) (p s : Int) (m : List Int) (hm : m ≠ []) (h0 : 0 ≤ p) (h1 : p ≤ 4611686018427387000) :
    ∃ v p' s', spec_l1Cur_among.f l p s m = some (v, p', s') ∧ v ∈ m ∧ p ≤ p' ∧ p' ≤ p + 2 := by
  unfold spec_l1Cur_among.f
  obtain ⟨v, p', s', e, v0, v1, v2, q0, q1⟩ := pick_some l hl p s (m.length : Int) h0 h1
  have hpos : 0 < m.length := List.length_pos_iff.mpr hm
  rw [e, Option.bind_some]
  dsimp only
  rw [if_pos v0, if_pos (by omega)]
  exact ⟨_, _, _, rfl, rd_mem m v v0 (by omega), q0, q1⟩

theorem one_some (l : List Int) (hl : ∀ x ∈ l, (Lit.int .u8 x).wf = true) (p s n : Int) (h0 : 0 ≤ p) (h1 : p ≤ 4611686018427387000) :
    ∃ b p' s', spec_l1Cur_one.f l p s n = some (b, p', s') ∧ p ≤ p' ∧ p' ≤ p + 2 := by
  unfold spec_l1Cur_one.f
  obtain ⟨v, p', s', e, _, _, _, q0, q1⟩ := pick_some l hl p s n h0 h1
  rw [e]
  exact ⟨_, _, _, rfl, q0, q1⟩
theorem u32_some (l : List Int) (hl : ∀ x ∈ l, (Lit.int .u8 x).wf = true) (p s : Int) (h0 : 0 ≤ p) (h1 : p ≤ 4611686018427386000) :
    ∃ v p' s', spec_l1Cur_u32.f l p s = some (v, p', s') ∧ p ≤ p' ∧ p' ≤ p + 8 := by
  unfold spec_l1Cur_u32.f
  obtain ⟨b, p1, s1, e1, q0, q1⟩ := one_some l hl p s 2 h0 (by omega)
  rw [e1, Option.bind_some]
  dsimp only
  cases b with
  | true =>
    obtain ⟨v, p2, s2, e2, _, r0, r1⟩ := among_some l hl p1 s1 [0, 1, 127, 128, 16383, 16384, 2097152, 268435455, 268435456, 4294967295, 4294967296, (-1)] (by simp) (by omega) (by omega)
    rw [if_pos rfl, e2]
    exact ⟨_, _, _, rfl, by dsimp only; omega, by dsimp only; omega⟩
  | false =>
    obtain ⟨v, p2, s2, e2, _, _, _, r0, r1⟩ := pick_some l hl p1 s1 256 (by omega) (by omega)
    obtain ⟨c, p3, s3, e3, c0, c1, c2, t0, t1⟩ := pick_some l hl p2 s2 25 (by omega) (by omega)
    rw [if_neg (by decide), e2, Option.bind_some]
    dsimp only
    rw [e3, Option.bind_some]
    dsimp only
    rw [if_pos (u64_lo _).1]
    exact ⟨_, _, _, rfl, by omega, by omega⟩
theorem s32_some (l : List Int) (hl : ∀ x ∈ l, (Lit.int .u8 x).wf = true) (p s : Int) (h0 : 0 ≤ p) (h1 : p ≤ 4611686018427386000) :
    ∃ v p' s', spec_l1Cur_s32.f l p s = some (v, p', s') ∧ p ≤ p' ∧ p' ≤ p + 8 := by
  unfold spec_l1Cur_s32.f
  obtain ⟨b, p1, s1, e1, q0, q1⟩ := one_some l hl p s 2 h0 (by omega)
  rw [e1, Option.bind_some]
  dsimp only
  cases b with
  | true =>
    obtain ⟨v, p2, s2, e2, _, r0, r1⟩ := among_some l hl p1 s1 [0, (-1), 63, 64, (-64), (-65), 8191, 8192, (-8192), (-8193), 2147483647, 2147483648, (-2147483648), (-2147483649)] (by simp) (by omega) (by omega)
    rw [if_pos rfl, e2]
    exact ⟨_, _, _, rfl, by dsimp only; omega, by dsimp only; omega⟩
  | false =>
    obtain ⟨v, p2, s2, e2, _, _, _, r0, r1⟩ := pick_some l hl p1 s1 256 (by omega) (by omega)
    obtain ⟨c, p3, s3, e3, c0, c1, c2, t0, t1⟩ := pick_some l hl p2 s2 22 (by omega) (by omega)
    obtain ⟨d, p4, s4, e4, d0, d1, d2, u0, u1⟩ := pick_some l hl p3 s3 22 (by omega) (by omega)
    rw [if_neg (by decide), e2, Option.bind_some]
    dsimp only
    rw [e3, Option.bind_some]
    dsimp only
    rw [if_pos (u64_lo _).1, e4, Option.bind_some]
    dsimp only
    rw [if_pos (u64_lo _).1]
    exact ⟨_, _, _, rfl, by omega, by omega⟩

theorem spoilt_l0 (l : List Int) (hl : ∀ x ∈ l, (Lit.int .u8 x).wf = true) (w : ByteArray) (hw : 0 < w.size) (hw2 : w.size ≤ 1000) (n : Nat) : ∀ (t : ByteArray) (p s : Int), 0 ≤ p → p + 8 * n ≤ 1000000 → t.size + n ≤ 1000000 →
    ∃ t' p' s', Ev (fun k => spec_l1Cur_spoilt.l0 k t w (n : Int) l p s) (t', p', s') ∧ t'.size ≤ t.size + n ∧ p ≤ p' ∧ p' ≤ p + 8 * n := by
  induction n with
  | zero =>
    intro t p s h0 h1 h2
    refine ⟨t, p, s, ?_, by omega, by omega, by omega⟩
    refine Ev.succ ?_
    simp only [spec_l1Cur_spoilt.l0]
    refine Ev.ite_neg (by omega) (Ev.succ ?_)
    simp only [spec_l1Cur_spoilt.j1]
    exact Ev.ite_neg (by simp) (Ev.now _)
  | succ n ih =>
    intro t p s h0 h1 h2
    by_cases ht : (t.size : Int) > 0
    · obtain ⟨i, p1, s1, e1, i0, i1, _, q0, q1⟩ := pick_some l hl p s (t.size : Int) h0 (by omega)
      obtain ⟨j, p2, s2, e2, j0, j1, _, r0, r1⟩ := pick_some l hl p1 s1 (w.size : Int) (by omega) (by omega)
      obtain ⟨c, p3, s3, e3, c0, c1, _, u0, u1⟩ := pick_some l hl p2 s2 3 (by omega) (by omega)
      have ei : wrap64 (i + 1) = i + 1 := wrap64_id (by omega) (by omega)
      have en : wrap64 (((n + 1 : Nat) : Int) - 1) = (n : Int) := by rw [wrap64_id (by omega) (by omega)]; omega
      have ex : ∀ a b : Nat, (t.extract a b).size ≤ t.size - a ∧ (t.extract a b).size ≤ b - a := by
        intro a b; rw [ByteArray.size_extract]; omega
      have x1 := ex 0 i.toNat
      have x2 := ex i.toNat t.size
      have x3 := ex (i + 1).toNat t.size
      have z1 : (strOfNums ([bt w j] : List Int)).size = 1 := by rw [strOfNums_size]; rfl
      -- the text behind this spoiling
      obtain ⟨t2, ht2, hs2⟩ : ∃ t2 : ByteArray, t2.size ≤ t.size + 1 ∧ ∀ r, Ev (fun k => spec_l1Cur_spoilt.l0 k t2 w (n : Int) l p3 s3) r → Ev (fun k => spec_l1Cur_spoilt.j1 k t w ((n + 1 : Nat) : Int) true l p s) r := by
        by_cases hc0 : c = 0
        · refine ⟨((t.extract 0 i.toNat) ++ (strOfNums [bt w j])) ++ (t.extract i.toNat t.size), by rw [str_append_size, str_append_size, z1]; omega, fun r hr => Ev.succ ?_⟩
          simp only [spec_l1Cur_spoilt.j1]
          refine Ev.ite_pos (by trivial) (Ev.bind (Ev.const e1) (Ev.bind (Ev.const e2) (Ev.ite_pos j0 (Ev.ite_pos (by omega) ?_))))
          dsimp only [Option.bind_some]
          refine Ev.bind (Ev.const e3) (Ev.ite_pos hc0 (Ev.ite_pos i0 (Ev.ite_pos (by omega) (Ev.ite_pos (by rw [z1]; omega) (Ev.ite_pos (by rw [str_append_size, z1]; omega) ?_)))))
          rw [en]; exact hr
        · by_cases hc1 : c = 1
          · refine ⟨((t.extract 0 i.toNat) ++ (strOfNums [bt w j])) ++ (t.extract (i + 1).toNat t.size), by rw [str_append_size, str_append_size, z1]; omega, fun r hr => Ev.succ ?_⟩
            simp only [spec_l1Cur_spoilt.j1]
            refine Ev.ite_pos (by trivial) (Ev.bind (Ev.const e1) (Ev.bind (Ev.const e2) (Ev.ite_pos j0 (Ev.ite_pos (by omega) ?_))))
            dsimp only [Option.bind_some]
            refine Ev.bind (Ev.const e3) (Ev.ite_neg hc0 (Ev.ite_pos hc1 (Ev.ite_pos i0 (Ev.ite_pos (by omega) (Ev.ite_pos (by rw [z1]; omega) ?_)))))
            dsimp only
            rw [ei, en]
            exact Ev.ite_pos (by omega) (Ev.ite_pos (by omega) (Ev.ite_pos (by rw [str_append_size, z1]; omega) hr))
          · refine ⟨(t.extract 0 i.toNat) ++ (t.extract (i + 1).toNat t.size), by rw [str_append_size]; omega, fun r hr => Ev.succ ?_⟩
            simp only [spec_l1Cur_spoilt.j1]
            refine Ev.ite_pos (by trivial) (Ev.bind (Ev.const e1) (Ev.bind (Ev.const e2) (Ev.ite_pos j0 (Ev.ite_pos (by omega) ?_))))
            dsimp only [Option.bind_some]
            refine Ev.bind (Ev.const e3) (Ev.ite_neg hc0 (Ev.ite_neg hc1 (Ev.ite_pos i0 (Ev.ite_pos (by omega) ?_))))
            dsimp only
            rw [ei, en]
            exact Ev.ite_pos (by omega) (Ev.ite_pos (by omega) (Ev.ite_pos (by omega) hr))
      obtain ⟨t', p', s', he, hlen, v0, v1⟩ := ih t2 p3 s3 (by omega) (by omega) (by omega)
      refine ⟨t', p', s', ?_, by omega, by omega, by omega⟩
      refine Ev.succ ?_
      simp only [spec_l1Cur_spoilt.l0]
      refine Ev.ite_pos (by omega) ?_
      rw [decide_eq_true ht]
      exact hs2 _ he
    · refine ⟨t, p, s, ?_, by omega, by omega, by omega⟩
      refine Ev.succ ?_
      simp only [spec_l1Cur_spoilt.l0]
      refine Ev.ite_pos (by omega) (Ev.succ ?_)
      simp only [spec_l1Cur_spoilt.j1]
      rw [decide_eq_false ht]
      exact Ev.ite_neg (by simp) (Ev.now _)
theorem spoilt_ev (l : List Int) (hl : ∀ x ∈ l, (Lit.int .u8 x).wf = true) (t w : ByteArray) (hw : 0 < w.size) (hw2 : w.size ≤ 1000) (p s : Int) (h0 : 0 ≤ p) (h1 : p ≤ 100000) (ht : t.size ≤ 100000) :
    ∃ t' p' s', Ev (fun k => spec_l1Cur_spoilt.f k l p s t w) (t', p', s') ∧ t'.size ≤ t.size + 3 ∧ p ≤ p' ∧ p' ≤ p + 100 := by
  unfold spec_l1Cur_spoilt.f
  obtain ⟨v, p1, s1, e1, v0, v1, _, q0, q1⟩ := pick_some l hl p s 3 h0 (by omega)
  obtain ⟨t', p', s', he, hlen, u0, u1⟩ := spoilt_l0 l hl w hw hw2 v.toNat t p1 s1 (by omega) (by omega) (by omega)
  rw [show (v.toNat : Int) = v from by omega] at he
  exact ⟨t', p', s', Ev.bind (Ev.const e1) he, by omega, by omega, by omega⟩

theorem iTakeS32_ev (s : ByteArray) (a : Int) (h1 : a ≤ 9223372036854775807) : Ev (fun k => impl_TakeS32.f k s a) (takeS32 s a) := by
  by_cases h : s.size ≤ 1000 ∧ 0 ≤ a
  · obtain ⟨K, hK⟩ := takeBits_ev s h.1 a h.2 h1
    (try dsimp only at hK)
    have e : takeS32 s a = tsR s a := by unfold takeS32; rw [if_pos ⟨h.1, h.2⟩]
    rw [e]
    refine ⟨K + 1, fun k hk => ?_⟩
    (try dsimp only)
    obtain ⟨k, rfl, hk'⟩ := within_lo hk
    have hK' := hK k hk'
    unfold impl_TakeS32.f
    simp only [impl_TakeS32.j0]
    rw [if_neg (by omega), if_neg (by simp; omega)]
    cases ht : tk s 5 a with
    | none =>
      rw [ht] at hK'
      simp only [tkI] at hK'
      rw [hK', tsR_none ht]; rfl
    | some p =>
      obtain ⟨v, m⟩ := p
      obtain ⟨q0, q1, q2, q3, _⟩ := tk_some 5 ht
      have hp := pow_le_5 m q3
      have e1 : wrap64 (7 * (m : Int) - 1) = 7 * (m : Int) - 1 := wrap64_id (by omega) (by omega)
      rw [← pow128] at q1
      rw [ht] at hK'
      simp only [tkI] at hK'
      rw [show (0 : Int) + 128 ^ 0 * v = v from by omega, show 7 * (((0 : Nat) : Int) + m) = 7 * (m : Int) from by omega, show a + ((0 : Nat) : Int) + m = a + m from by omega] at hK'
      rw [hK']
      dsimp only [Option.bind_some]
      rw [if_pos rfl, e1, if_pos (by omega), shr_top v m q2 q3, i64_and1, shl_one m q3]
      by_cases hb : v / 2 ^ (7 * m - 1) % 2 = 1
      · rw [if_pos hb, if_pos (by omega), wrap64_id (x := v - 2 ^ (7 * m)) (by omega) (by omega), within_eq, Option.bind_some, tsR_neg ht hb]
        by_cases hv : -2147483648 ≤ v - 2 ^ (7 * m) ∧ v - 2 ^ (7 * m) ≤ 2147483647
        · rw [if_pos (by simpa using hv), if_pos hv]
        · rw [if_neg (by simpa using hv), if_neg hv]
      · rw [if_neg hb, within_eq, Option.bind_some, tsR_pos ht hb]
        by_cases hv : -2147483648 ≤ v ∧ v ≤ 2147483647
        · rw [if_pos (by simpa using hv), if_pos hv]
        · rw [if_neg (by simpa using hv), if_neg hv]
  · refine ⟨1, fun k hk => ?_⟩
    (try dsimp only)
    obtain ⟨k, rfl⟩ : ∃ m, k = m + 1 := ⟨k - 1, by omega⟩
    unfold impl_TakeS32.f takeS32
    simp only [impl_TakeS32.j0]
    rw [if_neg h]
    by_cases h2 : (s.size : Int) > 1000
    · rw [if_pos h2, if_pos trivial]
    · rw [if_neg h2, if_pos (by simp; omega)]

theorem sTakeS32_ev (s : ByteArray) (a : Int) : Ev (fun k => spec_TakeS32.f k s a) (takeS32 s a) := by
  by_cases h : s.size ≤ 1000 ∧ 0 ≤ a ∧ a < s.size
  · obtain ⟨K, hK⟩ := l1Take_ev s h.1 a h.2.1 (by omega)
    (try dsimp only at hK)
    have e : takeS32 s a = tsR s a := by unfold takeS32; rw [if_pos ⟨h.1, h.2.1⟩]
    rw [e]
    refine ⟨K, fun k hk => ?_⟩
    (try dsimp only)
    have hK' := hK k hk
    unfold spec_TakeS32.f
    rw [l1Text_eq, Option.bind_some, if_pos (by simpa using h)]
    cases ht : tk s 5 a with
    | none =>
      rw [ht] at hK'
      simp only [tkS] at hK'
      rw [hK', tsR_none ht]; rfl
    | some p =>
      obtain ⟨v, m⟩ := p
      obtain ⟨q0, q1, q2, q3, _⟩ := tk_some 5 ht
      have hp := pow_le_5 m q3
      have e1 : IntKind.u64.wrap (wrap64 (7 * (m : Int) - 1)) = 7 * (m : Int) - 1 := by
        rw [wrap64_id (by omega) (by omega)]; simp [IntKind.wrap, IntKind.bits, IntKind.signed]; omega
      have e2 : IntKind.u64.wrap (7 * (m : Int)) = 7 * (m : Int) := by
        simp [IntKind.wrap, IntKind.bits, IntKind.signed]; omega
      rw [← pow128] at q1
      rw [ht] at hK'
      simp only [tkS] at hK'
      rw [show (0 : Int) + 128 ^ 0 * v = v from by omega, show 7 * (((0 : Nat) : Int) + m) = 7 * (m : Int) from by omega] at hK'
      rw [hK']
      dsimp only [Option.bind_some]
      rw [if_neg (by omega), e1, e2, if_pos (by omega), shr_top v m q2 q3, i64_and1, shl_one m q3]
      by_cases hb : v / 2 ^ (7 * m - 1) % 2 = 1
      · rw [if_pos hb, if_pos (by omega), wrap64_id (x := v - 2 ^ (7 * m)) (by omega) (by omega), l1S32_eq, Option.bind_some, tsR_neg ht hb]
        by_cases hv : -2147483648 ≤ v - 2 ^ (7 * m) ∧ v - 2 ^ (7 * m) ≤ 2147483647
        · rw [if_pos (by simpa using hv), if_pos hv]
        · rw [if_neg (by simpa using hv), if_neg hv]
      · rw [if_neg hb, l1S32_eq, Option.bind_some, tsR_pos ht hb]
        by_cases hv : -2147483648 ≤ v ∧ v ≤ 2147483647
        · rw [if_pos (by simpa using hv), if_pos hv]
        · rw [if_neg (by simpa using hv), if_neg hv]
  · refine ⟨0, fun k _ => ?_⟩
    (try dsimp only)
    unfold spec_TakeS32.f takeS32
    rw [l1Text_eq, Option.bind_some, if_neg (by simpa using h)]
    by_cases h2 : s.size ≤ 1000 ∧ 0 ≤ a
    · rw [if_pos h2, tsR_none (tk_out 5 (by omega))]
    · rw [if_neg h2]

theorem putU_sz (n : Int) : ∃ r, Ev (fun k => spec_PutU32.f k n) r ∧ r.1.size ≤ 5 := by
  refine ⟨_, sPutU32_ev n, ?_⟩
  split
  · rw [strOfNums_size]; exact lebU_len 4 n.toNat (by omega)
  · decide
theorem putS_sz (n : Int) : ∃ r, Ev (fun k => spec_PutS32.f k n) r ∧ r.1.size ≤ 5 := by
  refine ⟨_, sPutS32_ev n, ?_⟩
  split
  · rw [strOfNums_size]; exact lebS_len 4 n (by omega) (by omega)
  · decide
theorem pad_sz (n m : Int) : ∃ r, Ev (fun k => spec_PadU32.f k n m) r ∧ r.1.size ≤ 5 := by
  refine ⟨_, sPad_ev n m, ?_⟩
  unfold padR
  split
  · rw [strOfNums_size, lebP_length]; omega
  · decide
theorem lebText_l0 (l : List Int) (hl : ∀ x ∈ l, (Lit.int .u8 x).wf = true) (n : Nat) : ∀ (t : ByteArray) (p s : Int), 0 ≤ p → p + 20 * n ≤ 1000 → t.size + 5 * n ≤ 100 →
    ∃ t' p' s', Ev (fun k => spec_l1Cur_lebText.l0 k t (n : Int) l p s) (t', p', s') ∧ t'.size ≤ t.size + 5 * n + 3 ∧ 0 ≤ p' ∧ p' ≤ p + 20 * n + 110 := by
  induction n with
  | zero =>
    intro t p s h0 h1 h2
    obtain ⟨b, p1, s1, e1, q0, q1⟩ := one_some l hl p s 4 h0 (by omega)
    cases b with
    | true =>
      obtain ⟨t', p2, s2, e2, ht, r0, r1⟩ := spoilt_ev l hl t (⟨#[0, 128, 255, 127, 15, 16]⟩ : ByteArray) (by decide) (by decide) p1 s1 (by omega) (by omega) (by omega)
      refine ⟨t', p2, s2, Ev.succ ?_, by omega, by omega, by omega⟩
      simp only [spec_l1Cur_lebText.l0]
      exact Ev.ite_neg (by omega) (Ev.bind (Ev.const e1) (Ev.ite_pos rfl (Ev.bind e2 (Ev.now _))))
    | false =>
      refine ⟨t, p1, s1, Ev.succ ?_, by omega, by omega, by omega⟩
      simp only [spec_l1Cur_lebText.l0]
      exact Ev.ite_neg (by omega) (Ev.bind (Ev.const e1) (Ev.ite_neg (by simp) (Ev.now _)))
  | succ n ih =>
    intro t p s h0 h1 h2
    have en : wrap64 (((n + 1 : Nat) : Int) - 1) = (n : Int) := by rw [wrap64_id (by omega) (by omega)]; omega
    obtain ⟨c, p1, s1, e1, _, _, _, q0, q1⟩ := pick_some l hl p s 3 h0 (by omega)
    obtain ⟨t2, p2, s2, ht2, r0, r1, hs2⟩ : ∃ (t2 : ByteArray) (p2 s2 : Int), t2.size ≤ t.size + 5 ∧ 0 ≤ p2 ∧ p2 ≤ p + 20 ∧ ∀ r, Ev (fun k => spec_l1Cur_lebText.l0 k t2 (n : Int) l p2 s2) r → Ev (fun k => spec_l1Cur_lebText.l0 k t ((n + 1 : Nat) : Int) l p s) r := by
      by_cases c0 : c = 0
      · obtain ⟨v, p2, s2, e2, u0, u1⟩ := u32_some l hl p1 s1 (by omega) (by omega)
        obtain ⟨x, e3, hx⟩ := putU_sz v
        refine ⟨t ++ x.1, p2, s2, by rw [str_append_size]; omega, by omega, by omega, fun r hr => Ev.succ ?_⟩
        simp only [spec_l1Cur_lebText.l0]
        rw [en]
        exact Ev.ite_pos (by omega) (Ev.bind (Ev.const e1) (Ev.ite_pos c0 (Ev.bind (Ev.const e2) (Ev.bind e3 (Ev.ite_pos (by omega) hr)))))
      · by_cases c1 : c = 1
        · obtain ⟨v, p2, s2, e2, u0, u1⟩ := s32_some l hl p1 s1 (by omega) (by omega)
          obtain ⟨x, e3, hx⟩ := putS_sz v
          refine ⟨t ++ x.1, p2, s2, by rw [str_append_size]; omega, by omega, by omega, fun r hr => Ev.succ ?_⟩
          simp only [spec_l1Cur_lebText.l0]
          rw [en]
          exact Ev.ite_pos (by omega) (Ev.bind (Ev.const e1) (Ev.ite_neg c0 (Ev.ite_pos c1 (Ev.bind (Ev.const e2) (Ev.bind e3 (Ev.ite_pos (by omega) hr))))))
        · obtain ⟨v, p2, s2, e2, u0, u1⟩ := u32_some l hl p1 s1 (by omega) (by omega)
          obtain ⟨x, e3, hx⟩ := pad_sz v 5
          refine ⟨t ++ x.1, p2, s2, by rw [str_append_size]; omega, by omega, by omega, fun r hr => Ev.succ ?_⟩
          simp only [spec_l1Cur_lebText.l0]
          rw [en]
          exact Ev.ite_pos (by omega) (Ev.bind (Ev.const e1) (Ev.ite_neg c0 (Ev.ite_neg c1 (Ev.bind (Ev.const e2) (Ev.bind e3 (Ev.ite_pos (by omega) hr))))))
    obtain ⟨t', p', s', he, hlen, v0, v1⟩ := ih t2 p2 s2 r0 (by omega) (by omega)
    exact ⟨t', p', s', hs2 _ he, by omega, by omega, by omega⟩
theorem drawTakeU_ev (l : List Int) (hl : ∀ x ∈ l, (Lit.int .u8 x).wf = true) : ∃ u a, Ev (fun k => spec_DrawTakeU32.f k l) (u, a) ∧ a ≤ 65535 := by
  unfold spec_DrawTakeU32.f spec_l1Cur_lebText.f
  obtain ⟨c, p1, s1, e1, c0, c1, _, q0, q1⟩ := pick_some l hl 0 0 4 (by omega) (by omega)
  obtain ⟨m, hm⟩ : ∃ m : Nat, wrap64 (1 + c) = (m : Int) ∧ m ≤ 4 := ⟨(1 + c).toNat, by rw [wrap64_id (by omega) (by omega)]; omega, by omega⟩
  obtain ⟨t, p2, s2, e2, ht, r0, r1⟩ := lebText_l0 l hl m (⟨#[]⟩ : ByteArray) p1 s1 (by omega) (by omega) (by have : (⟨#[]⟩ : ByteArray).size = 0 := rfl; omega)
  obtain ⟨d, p3, s3, e3, d0, d1, d2, _, _⟩ := pick_some l hl p2 s2 (wrap64 ((t.size : Int) + 2)) (by omega) (by omega)
  rw [← hm.1] at e2
  refine ⟨t, wrap64 (d - 1), Ev.bind (Ev.bind (Ev.const e1) e2) (Ev.bind (Ev.const e3) (Ev.now _)), ?_⟩
  rw [wrap64_id (by omega) (by omega)]; omega
theorem drawLeast_ev (l : List Int) (hl : ∀ x ∈ l, (Lit.int .u8 x).wf = true) : ∃ v, Ev (fun k => spec_DrawIsLeast.f k l) v := by
  unfold spec_DrawIsLeast.f
  obtain ⟨n, p1, s1, e1, q0, q1⟩ := u32_some l hl 0 0 (by omega) (by omega)
  have e2 := sPutU32_ev n
  obtain ⟨b, p2, s2, e3, r0, r1⟩ := one_some l hl p1 s1 3 (by omega) (by omega)
  cases b with
  | false => exact ⟨_, Ev.bind (Ev.const e1) (Ev.bind e2 (Ev.bind (Ev.const e3) (Ev.ite_neg (by simp) (Ev.now _))))⟩
  | true =>
    obtain ⟨n2, p3, s3, e4, u0, u1⟩ := u32_some l hl p2 s2 (by omega) (by omega)
    obtain ⟨c, p4, s4, e5, _, _, _, _, _⟩ := pick_some l hl p3 s3 6 (by omega) (by omega)
    exact ⟨_, Ev.bind (Ev.const e1) (Ev.bind e2 (Ev.bind (Ev.const e3) (Ev.ite_pos rfl (Ev.bind (Ev.const e4) (Ev.bind (Ev.const e5) (Ev.bind (sPad_ev n2 c) (Ev.now _)))))))⟩
theorem leb_j3 (l : List Int) (hl : ∀ x ∈ l, (Lit.int .u8 x).wf = true) : Ev (fun k => laws_FnLeb.j3 k l) true := by
  obtain ⟨u, a, e1, ha⟩ := drawTakeU_ev l hl
  obtain ⟨v, e2⟩ := drawLeast_ev l hl
  obtain ⟨r, e3, e4⟩ := least_both v
  refine Ev.succ ?_
  simp only [laws_FnLeb.j3]
  refine Ev.bind e1 (Ev.bind (iTakeU32_ev u a (by omega)) (Ev.bind (sTakeU32_ev u a) (Ev.bind (iTakeS32_ev u a (by omega)) (Ev.bind (sTakeS32_ev u a) (Ev.bind e2 ?_)))))
  refine Ev.ite_neg (by simp) (Ev.ite_pos rfl (Ev.ite_pos rfl (Ev.ite_neg (by simp) (Ev.ite_pos rfl (Ev.ite_pos rfl (Ev.bind e3 (Ev.bind e4 ?_)))))))
  rw [bne_self_eq_false]
  refine Ev.succ ?_
  simp only [laws_FnLeb.j4]
  refine Ev.ite_neg (by simp) ?_
  rcases ht : takeU32 u a with ⟨x, e, ok⟩
  cases ok with
  | false => exact Ev.ite_neg (by simp) (Ev.now _)
  | true =>
    obtain ⟨q1, q2, q3, q4, q5, q6⟩ := takeU32_true ht
    have hu : tuR u a = (x, e, true) := by unfold takeU32 at ht; rwa [if_pos ⟨q1, q2⟩] at ht
    obtain ⟨m, h5, h6, h7⟩ := tuR_true hu
    obtain ⟨t0, t1, t2, t3, t4⟩ := tk_some 5 h5
    obtain ⟨i1, i2⟩ := tk_least 5 h5
    have hb := tk_bts 5 h5
    have hw : wrap64 (e - a) = (m : Int) := by rw [wrap64_id (by omega) (by omega)]; omega
    have hp : padR x (m : Int) = (strOfNums (lebP m x.toNat), true) := by
      unfold padR
      rw [if_pos ⟨⟨q3, q4⟩, by omega, by omega⟩, Int.toNat_natCast]
    dsimp only
    rw [hw]
    refine Ev.ite_pos rfl (Ev.bind (iPad_ev x (m : Int)) ?_)
    rw [hp]
    refine Ev.ite_pos rfl (Ev.ite_pos q2 (Ev.ite_pos (by omega) (Ev.ite_pos (by omega) (Ev.some ?_))))
    dsimp only
    have hx := bts_extract u a.toNat m (by omega)
    rw [show ((a.toNat : Nat) : Int) = a by omega, hb] at hx
    rw [hx, show e.toNat = a.toNat + m by omega]
    simp
theorem leb_j1 (l0 l1 : List Int) (hl0 : ∀ x ∈ l0, (Lit.int .u8 x).wf = true) (hl1 : ∀ x ∈ l1, (Lit.int .u8 x).wf = true) : Ev (fun k => laws_FnLeb.j1 k l0 l1) true := by
  have J3 := leb_j3 l1 hl1
  obtain ⟨n, p1, s1, e1, q0, q1⟩ := s32_some l0 hl0 0 0 (by omega) (by omega)
  have d1 : spec_DrawPutS32.f l0 = some n := by unfold spec_DrawPutS32.f; rw [e1]; rfl
  have hL : Ev (fun k => impl_LenS32.f k n) ((((if -2147483648 ≤ n ∧ n ≤ 2147483647 then (strOfNums (lebS n), true) else ((⟨#[]⟩ : ByteArray), false)) : ByteArray × Bool).1.size : Int), ((if -2147483648 ≤ n ∧ n ≤ 2147483647 then (strOfNums (lebS n), true) else ((⟨#[]⟩ : ByteArray), false)) : ByteArray × Bool).2) := by
    unfold impl_LenS32.f
    exact Ev.bind (iPutS32_ev n) (Ev.now _)
  refine Ev.succ ?_
  simp only [laws_FnLeb.j1]
  refine Ev.bind (Ev.const d1) (Ev.bind (iPutS32_ev n) (Ev.bind (sPutS32_ev n) (Ev.bind hL ?_)))
  refine Ev.ite_neg (by simp) (Ev.ite_pos rfl (Ev.ite_neg (by simp) ?_))
  rw [bne_self_eq_false]
  refine Ev.succ ?_
  simp only [laws_FnLeb.j2]
  refine Ev.ite_neg (by simp) ?_
  by_cases h : -2147483648 ≤ n ∧ n ≤ 2147483647
  · simp only [if_pos h]
    have hlen := lebS_len 4 n (by omega) (by omega)
    have ht := take_lebS [120] n h (by simp) (by simp)
    rw [strOfNums_append, show strOfNums [120] = (⟨#[120]⟩ : ByteArray) from rfl] at ht
    have hi := iTakeS32_ev (strOfNums (lebS n) ++ (⟨#[120]⟩ : ByteArray)) 0 (by omega)
    rw [ht] at hi
    exact Ev.ite_pos (by trivial) (Ev.ite_pos (by rw [strOfNums_size]; omega) (Ev.bind hi (Ev.ite_pos rfl (Ev.ite_pos rfl (Ev.ite_pos (by dsimp only; rw [strOfNums_size]) J3)))))
  · simp only [if_neg h]
    exact Ev.ite_neg (by simp) J3
theorem FnLeb : laws_FnLeb.Pure := by
  intro l0 l1 _ _ hl0 _ _ hl1
  refine Ev.rounds (g := fun k => laws_FnLeb.f k l0 l1) ?_
  have J1 := leb_j1 l0 l1 hl0 hl1
  unfold laws_FnLeb.f
  by_cases hbig : wrap64 ((l0.length : Int) + (l1.length : Int)) > 1048576
  · exact Ev.ite_pos hbig (Ev.now _)
  refine Ev.ite_neg hbig ?_
  obtain ⟨n, p1, s1, e1, q0, q1⟩ := u32_some l0 hl0 0 0 (by omega) (by omega)
  have d1 : spec_DrawPutU32.f l0 = some n := by unfold spec_DrawPutU32.f; rw [e1]; rfl
  have hL : Ev (fun k => impl_LenU32.f k n) ((((if 0 ≤ n ∧ n ≤ 4294967295 then (strOfNums (lebU n.toNat), true) else ((⟨#[]⟩ : ByteArray), false)) : ByteArray × Bool).1.size : Int), ((if 0 ≤ n ∧ n ≤ 4294967295 then (strOfNums (lebU n.toNat), true) else ((⟨#[]⟩ : ByteArray), false)) : ByteArray × Bool).2) := by
    unfold impl_LenU32.f
    exact Ev.bind (iPutU32_ev n) (Ev.now _)
  refine Ev.bind (Ev.const d1) (Ev.bind (iPutU32_ev n) (Ev.bind (sPutU32_ev n) (Ev.bind hL ?_)))
  refine Ev.ite_neg (by simp) (Ev.ite_pos rfl (Ev.ite_neg (by simp) ?_))
  rw [bne_self_eq_false]
  refine Ev.succ ?_
  simp only [laws_FnLeb.j0]
  refine Ev.ite_neg (by simp) ?_
  by_cases h : 0 ≤ n ∧ n ≤ 4294967295
  · simp only [if_pos h]
    have hlen := lebU_len 4 n.toNat (by omega)
    have hpos := lebU_pos n.toNat
    have ht := take_lebU [] [120] n.toNat (by omega) (by simp) (by simp) (by simp)
    rw [List.nil_append, show (([] : List Int).length : Int) = 0 from rfl, strOfNums_append, show strOfNums [120] = (⟨#[120]⟩ : ByteArray) from rfl, show ((n.toNat : Nat) : Int) = n by omega] at ht
    have hi := iTakeU32_ev (strOfNums (lebU n.toNat) ++ (⟨#[120]⟩ : ByteArray)) 0 (by omega)
    rw [ht] at hi
    have hsz : (strOfNums (lebU n.toNat)).size = (lebU n.toNat).length := strOfNums_size _
    refine Ev.ite_pos (by trivial) (Ev.ite_pos (by omega) (Ev.bind hi (Ev.ite_pos rfl (Ev.ite_pos rfl (Ev.ite_pos (by dsimp only; omega) (Ev.bind (least_lebU n h.1 h.2) (Ev.ite_pos rfl ?_)))))))
    by_cases h1 : ((strOfNums (lebU n.toNat)).size : Int) > 1
    · obtain ⟨j, hj⟩ : ∃ j : Nat, (lebU n.toNat).length = j + 2 := ⟨(lebU n.toNat).length - 2, by omega⟩
      have hge := lebU_ge n.toNat j hj
      have hsh : IntKind.u64.wrap (wrap64 (wrap64 (7 * ((strOfNums (lebU n.toNat)).size : Int)) - 7)) = 7 * ((j + 1 : Nat) : Int) := by
        rw [hsz, hj, wrap64_id (x := 7 * ((j + 2 : Nat) : Int)) (by omega) (by omega), wrap64_id (by omega) (by omega)]
        have h2 : (2 : Int) ^ IntKind.u64.bits = 18446744073709551616 := rfl
        simp only [IntKind.wrap]
        rw [h2]
        first | omega | (simp [IntKind.signed]; omega)
      refine Ev.ite_pos h1 (Ev.ite_pos (by rw [hsh]; omega) (Ev.ite_neg ?_ J1))
      rw [hsh]
      intro hc
      unfold shr at hc
      have e2 : (7 * ((j + 1 : Nat) : Int)).toNat = 7 * (j + 1) := by omega
      have e3 : min (7 * (j + 1)) IntKind.i64.bits = 7 * (j + 1) := Nat.min_eq_left (by show 7 * (j + 1) ≤ 64; omega)
      rw [e2, e3, pow128] at hc
      have hg : (128 : Int) ^ (j + 1) ≤ n := by
        have : ((128 ^ (j + 1) : Nat) : Int) ≤ (n.toNat : Int) := by omega
        have e4 : ((128 ^ (j + 1) : Nat) : Int) = (128 : Int) ^ (j + 1) := by simp
        omega
      have hq : (0 : Int) < 128 ^ (j + 1) := Int.pow_pos (by omega)
      have : 1 ≤ n / 128 ^ (j + 1) := by
        rw [Int.le_ediv_iff_mul_le hq]; omega
      omega
    · exact Ev.ite_neg h1 J1
  · simp only [if_neg h]
    exact Ev.ite_neg (by simp) J1

end Go.Proofs.Ytofokedphkmfnaa.Pure
