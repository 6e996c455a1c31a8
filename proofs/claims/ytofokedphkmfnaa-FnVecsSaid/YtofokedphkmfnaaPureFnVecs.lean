/- Of all drawn lists the law of lists tells true. No condition beyond the row's own. -/
import Derived.Test.YtofokedphkmfnaaQ1
import Derived.Test.YtofokedphkmfnaaQ11
import Derived.Test.YtofokedphkmfnaaQ12
import Derived.Test.YtofokedphkmfnaaQ13
import Derived.Test.YtofokedphkmfnaaQ14
import Derived.Test.YtofokedphkmfnaaQ16
import Derived.Test.YtofokedphkmfnaaQ17
import Derived.Test.YtofokedphkmfnaaQ2
import Derived.Test.YtofokedphkmfnaaQ20
import Derived.Test.YtofokedphkmfnaaQ21
import Derived.Test.YtofokedphkmfnaaQ22
import Derived.Test.YtofokedphkmfnaaQ23
import Derived.Test.YtofokedphkmfnaaQ24
import Derived.Test.YtofokedphkmfnaaQ25
import Derived.Test.YtofokedphkmfnaaQ26
import Derived.Test.YtofokedphkmfnaaQ3
import Derived.Test.YtofokedphkmfnaaQ5
import Derived.Test.YtofokedphkmfnaaQ6
import Derived.Test.YtofokedphkmfnaaQ7
import Derived.Test.YtofokedphkmfnaaQ8
import Derived.Test.YtofokedphkmfnaaLib1
namespace Go.Proofs.Ytofokedphkmfnaa.Pure
open Go.RowKit Go.Proofs.Ytofokedphkmfnaa.Lib Go.Proofs.Ytofokedphkmfnaa.Q Go.Proofs.YtofokedphkmfnaaW.PrintWords Go.Proofs.YtofokedphkmfnaaW.PrintLast Go.Proofs.YtofokedphkmfnaaW.PrintMore
set_option linter.unusedVariables false
set_option linter.unusedSimpArgs false

theorem u64_and255 (x : Int) (h0 : 0 ≤ x) (h1 : x < 18446744073709551616) : Go.bits .and .u64 x 255 = x % 256 := by
  have h := bits_mask .u64 64 (by decide) (fun n h₀ h₁ => by rw [IntKind.wrap_u64]; omega) 8 (by decide) x h0 h1
  rw [show ((255 : Int)) = 2 ^ 8 - 1 from rfl, h]
  rfl
theorem wf_u8 {x : Int} (h : (Lit.int .u8 x).wf = true) : 0 ≤ x ∧ x ≤ 255 := by
  have e1 : IntKind.u8.min = 0 := by decide
  have e2 : IntKind.u8.max = 255 := by decide
  simp only [Lit.wf, e1, e2, Bool.and_eq_true, decide_eq_true_eq] at h
  exact h
theorem u64_lo (x : Int) : 0 ≤ IntKind.u64.wrap x ∧ IntKind.u64.wrap x < 18446744073709551616 := by
  rw [IntKind.wrap_u64]; omega
theorem rd_mem (l : List Int) (i : Int) (h0 : 0 ≤ i) (h1 : i < l.length) : rd l i ∈ l := by
  unfold rd
  have : i.toNat < l.length := by omega
  simp [List.getD_eq_getElem?_getD, List.getElem?_eq_getElem this]
/-- A cursor's next number. -/
theorem next_some (l : List Int) (hl : ∀ x ∈ l, (Lit.int .u8 x).wf = true) (p s : Int) (h0 : 0 ≤ p) (h1 : p ≤ 4611686018427387904) :
    ∃ v s', spec_l1Cur_next.f l p s = some (v, p + 1, s') ∧ 0 ≤ v ∧ v ≤ 255 := by
  have key : ∀ z : Int, 0 ≤ wrap64 (Go.bits .and .u64 (IntKind.u64.wrap z / 1099511627776) 255) ∧ wrap64 (Go.bits .and .u64 (IntKind.u64.wrap z / 1099511627776) 255) ≤ 255 := by
    intro z
    have hz := u64_lo z
    rw [u64_and255 _ (by omega) (by omega), wrap64_id (by omega) (by omega)]
    omega
  unfold spec_l1Cur_next.f
  rw [show wrap64 (p + 1) = p + 1 from wrap64_id (by omega) (by omega)]
  by_cases h : p < (l.length : Int)
  · rw [if_pos h, if_pos h0, if_pos (by omega)]
    have hx := wf_u8 (hl _ (rd_mem l p h0 h))
    exact ⟨_, _, rfl, by rw [wrap64_id (by omega) (by omega)]; exact hx⟩
  · rw [if_neg h, if_neg (by omega)]
    exact ⟨_, _, rfl, key _⟩
/-- A cursor's pick of n. -/
theorem pick_some (l : List Int) (hl : ∀ x ∈ l, (Lit.int .u8 x).wf = true) (p s n : Int) (h0 : 0 ≤ p) (h1 : p ≤ 4611686018427387000) :
    ∃ v p' s', spec_l1Cur_pick.f l p s n = some (v, p', s') ∧ 0 ≤ v ∧ (v < n ∨ v = 0) ∧ v ≤ 65535 ∧ p ≤ p' ∧ p' ≤ p + 2 := by
  unfold spec_l1Cur_pick.f
  by_cases hn : n ≤ 1
  · rw [if_pos hn]; exact ⟨0, p, s, rfl, by omega, .inr rfl, by omega, by omega, by omega⟩
  · rw [if_neg hn]
    obtain ⟨v, s1, e1, hv0, hv1⟩ := next_some l hl p s h0 (by omega)
    rw [e1, Option.bind_some]
    have tm : ∀ z : Int, 0 ≤ z → 0 ≤ Int.tmod z n ∧ Int.tmod z n < n ∧ Int.tmod z n ≤ z := by
      intro z hz
      rw [Int.tmod_eq_emod_of_nonneg hz]
      have e1 : 0 ≤ z % n := Int.emod_nonneg _ (by omega)
      have e2 : z % n < n := Int.emod_lt_of_pos _ (by omega)
      refine ⟨e1, e2, ?_⟩
      by_cases hzn : z < n
      · rw [Int.emod_eq_of_lt hz hzn]; omega
      · omega
    by_cases hb : n > 200
    · rw [if_pos hb]
      obtain ⟨v2, s2, e2, hw0, hw1⟩ := next_some l hl (p + 1) s1 (by omega) (by omega)
      dsimp only
      rw [e2, Option.bind_some, if_neg (by omega)]
      dsimp only
      rw [wrap64_id (x := v * 256) (by omega) (by omega), wrap64_id (by omega) (by omega)]
      obtain ⟨t0, t1, t2⟩ := tm (v * 256 + v2) (by omega)
      exact ⟨_, _, _, rfl, t0, .inl t1, by omega, by omega, by omega⟩
    · rw [if_neg hb, if_neg (by omega)]
      dsimp only
      obtain ⟨t0, t1, t2⟩ := tm v (by omega)
      exact ⟨_, _, _, rfl, t0, .inl t1, by omega, by omega, by omega⟩

/-- A cursor's choice among some. -/
theorem among_some (l : List Int) (hl : ∀ x ∈ l, (Lit.int .u8 x).wf = true) (p s : Int) (m : List Int) (hm : m ≠ []) (h0 : 0 ≤ p) (h1 : p ≤ 4611686018427387000) :
    ∃ v p' s', spec_l1Cur_among.f l p s m = some (v, p', s') ∧ v ∈ m ∧ p ≤ p' ∧ p' ≤ p + 2 := by
  unfold spec_l1Cur_among.f
  obtain ⟨v, p', s', e, v0, v1, v2, q0, q1⟩ := pick_some l hl p s (m.length : Int) h0 h1
  have hpos : 0 < m.length := List.length_pos_iff.mpr hm
  rw [e, Option.bind_some]
  dsimp only
  rw [if_pos v0, if_pos (by omega)]
  exact ⟨_, _, _, rfl, rd_mem m v v0 (by omega), q0, q1⟩

theorem one_some (l : List Int) (hl : ∀ x ∈ l, (Lit.int .u8 x).wf = true) (p s n : Int) (h0 : 0 ≤ p) (h1 : p ≤ 4611686018427387000) :
    ∃ b p' s', spec_l1Cur_one.f l p s n = some (b, p', s') ∧ p ≤ p' ∧ p' ≤ p + 2 := by
  unfold spec_l1Cur_one.f
  obtain ⟨v, p', s', e, _, _, _, q0, q1⟩ := pick_some l hl p s n h0 h1
  rw [e]
  exact ⟨_, _, _, rfl, q0, q1⟩
theorem u32_some (l : List Int) (hl : ∀ x ∈ l, (Lit.int .u8 x).wf = true) (p s : Int) (h0 : 0 ≤ p) (h1 : p ≤ 4611686018427386000) :
    ∃ v p' s', spec_l1Cur_u32.f l p s = some (v, p', s') ∧ p ≤ p' ∧ p' ≤ p + 8 := by
  unfold spec_l1Cur_u32.f
  obtain ⟨b, p1, s1, e1, q0, q1⟩ := one_some l hl p s 2 h0 (by omega)
  rw [e1, Option.bind_some]
  dsimp only
  cases b with
  | true =>
    obtain ⟨v, p2, s2, e2, _, r0, r1⟩ := among_some l hl p1 s1 [0, 1, 127, 128, 16383, 16384, 2097152, 268435455, 268435456, 4294967295, 4294967296, (-1)] (by simp) (by omega) (by omega)
    rw [if_pos rfl, e2]
    exact ⟨_, _, _, rfl, by dsimp only; omega, by dsimp only; omega⟩
  | false =>
    obtain ⟨v, p2, s2, e2, _, _, _, r0, r1⟩ := pick_some l hl p1 s1 256 (by omega) (by omega)
    obtain ⟨c, p3, s3, e3, c0, c1, c2, t0, t1⟩ := pick_some l hl p2 s2 25 (by omega) (by omega)
    rw [if_neg (by decide), e2, Option.bind_some]
    dsimp only
    rw [e3, Option.bind_some]
    dsimp only
    rw [if_pos (u64_lo _).1]
    exact ⟨_, _, _, rfl, by omega, by omega⟩
theorem s32_some (l : List Int) (hl : ∀ x ∈ l, (Lit.int .u8 x).wf = true) (p s : Int) (h0 : 0 ≤ p) (h1 : p ≤ 4611686018427386000) :
    ∃ v p' s', spec_l1Cur_s32.f l p s = some (v, p', s') ∧ p ≤ p' ∧ p' ≤ p + 8 := by
  unfold spec_l1Cur_s32.f
  obtain ⟨b, p1, s1, e1, q0, q1⟩ := one_some l hl p s 2 h0 (by omega)
  rw [e1, Option.bind_some]
  dsimp only
  cases b with
  | true =>
    obtain ⟨v, p2, s2, e2, _, r0, r1⟩ := among_some l hl p1 s1 [0, (-1), 63, 64, (-64), (-65), 8191, 8192, (-8192), (-8193), 2147483647, 2147483648, (-2147483648), (-2147483649)] (by simp) (by omega) (by omega)
    rw [if_pos rfl, e2]
    exact ⟨_, _, _, rfl, by dsimp only; omega, by dsimp only; omega⟩
  | false =>
    obtain ⟨v, p2, s2, e2, _, _, _, r0, r1⟩ := pick_some l hl p1 s1 256 (by omega) (by omega)
    obtain ⟨c, p3, s3, e3, c0, c1, c2, t0, t1⟩ := pick_some l hl p2 s2 22 (by omega) (by omega)
    obtain ⟨d, p4, s4, e4, d0, d1, d2, u0, u1⟩ := pick_some l hl p3 s3 22 (by omega) (by omega)
    rw [if_neg (by decide), e2, Option.bind_some]
    dsimp only
    rw [e3, Option.bind_some]
    dsimp only
    rw [if_pos (u64_lo _).1, e4, Option.bind_some]
    dsimp only
    rw [if_pos (u64_lo _).1]
    exact ⟨_, _, _, rfl, by omega, by omega⟩

theorem vec_l0 (l : List Int) (hl : ∀ x ∈ l, (Lit.int .u8 x).wf = true) (n : Nat) : ∀ (t : List Int) (p s : Int), 0 ≤ p → p + 8 * n ≤ 1000000 → t.length + n ≤ 1000 →
    ∃ t' p' s', Ev (fun k => spec_l1Cur_vec.l0 k t (n : Int) l p s) (t', p', s') ∧ t'.length = t.length + n ∧ p ≤ p' ∧ p' ≤ p + 8 * n + 10 := by
  induction n with
  | zero =>
    intro t p s h0 h1 h3
    by_cases ht : (t.length : Int) > 0
    · obtain ⟨b, p1, s1, e1, q0, q1⟩ := one_some l hl p s 20 h0 (by omega)
      cases b with
      | true =>
        obtain ⟨v, p2, s2, e2, r0, r1⟩ := u32_some l hl p1 s1 (by omega) (by omega)
        refine ⟨t.set (0 : Int).toNat v, p2, s2, ?_, by simp, by omega, by omega⟩
        refine Ev.succ ?_
        simp only [spec_l1Cur_vec.l0]
        refine Ev.ite_neg (by omega) (Ev.ite_pos ht (Ev.bind (Ev.const e1) (Ev.ite_pos rfl (Ev.bind (Ev.const e2) (Ev.ite_pos (by omega) (Ev.now _))))))
      | false =>
        refine ⟨t, p1, s1, ?_, by simp, by omega, by omega⟩
        refine Ev.succ ?_
        simp only [spec_l1Cur_vec.l0]
        refine Ev.ite_neg (by omega) (Ev.ite_pos ht (Ev.bind (Ev.const e1) (Ev.ite_neg (by simp) (Ev.now _))))
    · refine ⟨t, p, s, ?_, by simp, by omega, by omega⟩
      refine Ev.succ ?_
      simp only [spec_l1Cur_vec.l0]
      exact Ev.ite_neg (by omega) (Ev.ite_neg ht (Ev.now _))
  | succ n ih =>
    intro t p s h0 h1 h3
    obtain ⟨v, p1, s1, e1, q0, q1⟩ := u32_some l hl p s h0 (by omega)
    obtain ⟨t', p', s', he, hlen, r0, r1⟩ : ∃ t' p' s', Ev (fun k => spec_l1Cur_vec.l0 k (t ++ [Go.bits .and .i64 v 4294967295]) (n : Int) l p1 s1) (t', p', s') ∧ t'.length = t.length + 1 + n ∧ p1 ≤ p' ∧ p' ≤ p1 + 8 * n + 10 := by
      have := ih (t ++ [Go.bits .and .i64 v 4294967295]) p1 s1 (by omega) (by omega) (by simp; omega)
      simpa using this
    refine ⟨t', p', s', ?_, by omega, by omega, by omega⟩
    refine Ev.succ ?_
    simp only [spec_l1Cur_vec.l0]
    refine Ev.ite_pos (by omega) (Ev.bind (Ev.const e1) (Ev.ite_pos (by omega) ?_))
    rw [show wrap64 (((n + 1 : Nat) : Int) - 1) = (n : Int) from by rw [wrap64_id (by omega) (by omega)]; omega]
    exact he
theorem vec_ev (l : List Int) (hl : ∀ x ∈ l, (Lit.int .u8 x).wf = true) (p s : Int) (h0 : 0 ≤ p) (h1 : p ≤ 1000) :
    ∃ t' p' s', Ev (fun k => spec_l1Cur_vec.f k l p s) (t', p', s') ∧ t'.length ≤ 51 ∧ p ≤ p' ∧ p' ≤ p + 1000 := by
  unfold spec_l1Cur_vec.f
  obtain ⟨v, p1, s1, e1, v0, v1, _, q0, q1⟩ := pick_some l hl p s 6 h0 (by omega)
  obtain ⟨b, p2, s2, e2, r0, r1⟩ := one_some l hl p1 s1 20 (by omega) (by omega)
  cases b with
  | true =>
    obtain ⟨c, p3, s3, e3, c0, c1, _, t0, t1⟩ := pick_some l hl p2 s2 2 (by omega) (by omega)
    obtain ⟨t', p', s', he, hlen, u0, u1⟩ := vec_l0 l hl (50 + c).toNat [] p3 s3 (by omega) (by omega) (by simp; omega)
    refine ⟨t', p', s', ?_, by simp at hlen; omega, by omega, by omega⟩
    refine Ev.bind (Ev.const e1) (Ev.bind (Ev.const e2) (Ev.ite_pos rfl (Ev.bind (Ev.const e3) (Ev.succ ?_))))
    dsimp only [spec_l1Cur_vec.j0]
    rw [wrap64_id (by omega) (by omega)]
    rw [show ((50 + c).toNat : Int) = 50 + c from by omega] at he
    exact he
  | false =>
    obtain ⟨t', p', s', he, hlen, u0, u1⟩ := vec_l0 l hl v.toNat [] p2 s2 (by omega) (by omega) (by simp; omega)
    refine ⟨t', p', s', ?_, by simp at hlen; omega, by omega, by omega⟩
    refine Ev.bind (Ev.const e1) (Ev.bind (Ev.const e2) (Ev.ite_neg (by simp) (Ev.succ ?_)))
    dsimp only [spec_l1Cur_vec.j0]
    rw [show (v.toNat : Int) = v from by omega] at he
    exact he

theorem spoilt_l0 (l : List Int) (hl : ∀ x ∈ l, (Lit.int .u8 x).wf = true) (w : ByteArray) (hw : 0 < w.size) (hw2 : w.size ≤ 1000) (n : Nat) : ∀ (t : ByteArray) (p s : Int), 0 ≤ p → p + 8 * n ≤ 1000000 → t.size + n ≤ 1000000 →
    ∃ t' p' s', Ev (fun k => spec_l1Cur_spoilt.l0 k t w (n : Int) l p s) (t', p', s') ∧ t'.size ≤ t.size + n ∧ p ≤ p' ∧ p' ≤ p + 8 * n := by
  induction n with
  | zero =>
    intro t p s h0 h1 h2
    refine ⟨t, p, s, ?_, by omega, by omega, by omega⟩
    refine Ev.succ ?_
    simp only [spec_l1Cur_spoilt.l0]
    refine Ev.ite_neg (by omega) (Ev.succ ?_)
    simp only [spec_l1Cur_spoilt.j1]
    exact Ev.ite_neg (by simp) (Ev.now _)
  | succ n ih =>
    intro t p s h0 h1 h2
    by_cases ht : (t.size : Int) > 0
    · obtain ⟨i, p1, s1, e1, i0, i1, _, q0, q1⟩ := pick_some l hl p s (t.size : Int) h0 (by omega)
      obtain ⟨j, p2, s2, e2, j0, j1, _, r0, r1⟩ := pick_some l hl p1 s1 (w.size : Int) (by omega) (by omega)
      obtain ⟨c, p3, s3, e3, c0, c1, _, u0, u1⟩ := pick_some l hl p2 s2 3 (by omega) (by omega)
      have ei : wrap64 (i + 1) = i + 1 := wrap64_id (by omega) (by omega)
      have en : wrap64 (((n + 1 : Nat) : Int) - 1) = (n : Int) := by rw [wrap64_id (by omega) (by omega)]; omega
      have ex : ∀ a b : Nat, (t.extract a b).size ≤ t.size - a ∧ (t.extract a b).size ≤ b - a := by
        intro a b; rw [ByteArray.size_extract]; omega
      have x1 := ex 0 i.toNat
      have x2 := ex i.toNat t.size
      have x3 := ex (i + 1).toNat t.size
      have z1 : (strOfNums ([bt w j] : List Int)).size = 1 := by rw [strOfNums_size]; rfl
      -- the text behind this spoiling
      obtain ⟨t2, ht2, hs2⟩ : ∃ t2 : ByteArray, t2.size ≤ t.size + 1 ∧ ∀ r, Ev (fun k => spec_l1Cur_spoilt.l0 k t2 w (n : Int) l p3 s3) r → Ev (fun k => spec_l1Cur_spoilt.j1 k t w ((n + 1 : Nat) : Int) true l p s) r := by
        by_cases hc0 : c = 0
        · refine ⟨((t.extract 0 i.toNat) ++ (strOfNums [bt w j])) ++ (t.extract i.toNat t.size), by rw [str_append_size, str_append_size, z1]; omega, fun r hr => Ev.succ ?_⟩
          simp only [spec_l1Cur_spoilt.j1]
          refine Ev.ite_pos (by trivial) (Ev.bind (Ev.const e1) (Ev.bind (Ev.const e2) (Ev.ite_pos j0 (Ev.ite_pos (by omega) ?_))))
          dsimp only [Option.bind_some]
          refine Ev.bind (Ev.const e3) (Ev.ite_pos hc0 (Ev.ite_pos i0 (Ev.ite_pos (by omega) (Ev.ite_pos (by rw [z1]; omega) (Ev.ite_pos (by rw [str_append_size, z1]; omega) ?_)))))
          rw [en]; exact hr
        · by_cases hc1 : c = 1
          · refine ⟨((t.extract 0 i.toNat) ++ (strOfNums [bt w j])) ++ (t.extract (i + 1).toNat t.size), by rw [str_append_size, str_append_size, z1]; omega, fun r hr => Ev.succ ?_⟩
            simp only [spec_l1Cur_spoilt.j1]
            refine Ev.ite_pos (by trivial) (Ev.bind (Ev.const e1) (Ev.bind (Ev.const e2) (Ev.ite_pos j0 (Ev.ite_pos (by omega) ?_))))
            dsimp only [Option.bind_some]
            refine Ev.bind (Ev.const e3) (Ev.ite_neg hc0 (Ev.ite_pos hc1 (Ev.ite_pos i0 (Ev.ite_pos (by omega) (Ev.ite_pos (by rw [z1]; omega) ?_)))))
            dsimp only
            rw [ei, en]
            exact Ev.ite_pos (by omega) (Ev.ite_pos (by omega) (Ev.ite_pos (by rw [str_append_size, z1]; omega) hr))
          · refine ⟨(t.extract 0 i.toNat) ++ (t.extract (i + 1).toNat t.size), by rw [str_append_size]; omega, fun r hr => Ev.succ ?_⟩
            simp only [spec_l1Cur_spoilt.j1]
            refine Ev.ite_pos (by trivial) (Ev.bind (Ev.const e1) (Ev.bind (Ev.const e2) (Ev.ite_pos j0 (Ev.ite_pos (by omega) ?_))))
            dsimp only [Option.bind_some]
            refine Ev.bind (Ev.const e3) (Ev.ite_neg hc0 (Ev.ite_neg hc1 (Ev.ite_pos i0 (Ev.ite_pos (by omega) ?_))))
            dsimp only
            rw [ei, en]
            exact Ev.ite_pos (by omega) (Ev.ite_pos (by omega) (Ev.ite_pos (by omega) hr))
      obtain ⟨t', p', s', he, hlen, v0, v1⟩ := ih t2 p3 s3 (by omega) (by omega) (by omega)
      refine ⟨t', p', s', ?_, by omega, by omega, by omega⟩
      refine Ev.succ ?_
      simp only [spec_l1Cur_spoilt.l0]
      refine Ev.ite_pos (by omega) ?_
      rw [decide_eq_true ht]
      exact hs2 _ he
    · refine ⟨t, p, s, ?_, by omega, by omega, by omega⟩
      refine Ev.succ ?_
      simp only [spec_l1Cur_spoilt.l0]
      refine Ev.ite_pos (by omega) (Ev.succ ?_)
      simp only [spec_l1Cur_spoilt.j1]
      rw [decide_eq_false ht]
      exact Ev.ite_neg (by simp) (Ev.now _)
theorem spoilt_ev (l : List Int) (hl : ∀ x ∈ l, (Lit.int .u8 x).wf = true) (t w : ByteArray) (hw : 0 < w.size) (hw2 : w.size ≤ 1000) (p s : Int) (h0 : 0 ≤ p) (h1 : p ≤ 100000) (ht : t.size ≤ 100000) :
    ∃ t' p' s', Ev (fun k => spec_l1Cur_spoilt.f k l p s t w) (t', p', s') ∧ t'.size ≤ t.size + 3 ∧ p ≤ p' ∧ p' ≤ p + 100 := by
  unfold spec_l1Cur_spoilt.f
  obtain ⟨v, p1, s1, e1, v0, v1, _, q0, q1⟩ := pick_some l hl p s 3 h0 (by omega)
  obtain ⟨t', p', s', he, hlen, u0, u1⟩ := spoilt_l0 l hl w hw hw2 v.toNat t p1 s1 (by omega) (by omega) (by omega)
  rw [show (v.toNat : Int) = v from by omega] at he
  exact ⟨t', p', s', Ev.bind (Ev.const e1) he, by omega, by omega, by omega⟩

theorem l1In_eq (a b c : Int) : spec_l1In.f a b c = some (decide (b ≤ a ∧ a ≤ c)) := by
  unfold spec_l1In.f
  by_cases h : a ≥ b
  · rw [if_pos h]; simp [show b ≤ a from h]
  · rw [if_neg h]; simp; omega

theorem l1U32_eq (a : Int) : spec_l1U32.f a = some (decide (0 ≤ a ∧ a ≤ 4294967295)) := by
  unfold spec_l1U32.f; rw [l1In_eq]; rfl

theorem within_eq (a b c : Int) : impl_within.f a b c = some (decide (b ≤ a ∧ a ≤ c)) := by
  unfold impl_within.f
  by_cases h : a ≥ b
  · rw [if_pos h]; simp [show b ≤ a from h]
  · rw [if_neg h]; simp; omega

theorem l1PutU_l0 (n : Nat) : ∀ s : ByteArray, s.size + (lebU n).length ≤ 9223372036854775807 → Ev (fun k => spec_l1PutU.l0 k (n : Int) s) (s ++ strOfNums (lebU n)) := by
  induction n using Nat.strongRecOn with
  | ind n ih =>
    intro s hs
    by_cases hn : n < 128
    · refine ⟨1, fun k hk => ?_⟩
      (try dsimp only)
      obtain ⟨k, rfl⟩ : ∃ m, k = m + 1 := ⟨k - 1, by omega⟩
      simp only [spec_l1PutU.l0]
      rw [lebU_small hn] at hs ⊢
      rw [if_neg (by omega), Option.bind_some, show ((n : Int)) % 256 = n from by omega, if_pos (by rw [strOfNums_size]; exact hs)]
    · rw [lebU_big hn] at hs ⊢
      simp only [List.length_cons] at hs
      obtain ⟨K, hK⟩ := ih (n / 128) (by omega) (s ++ strOfNums [(n : Int) % 128 + 128]) (by rw [str_append_size, strOfNums_size]; simp only [List.length_cons, List.length_nil]; omega)
      (try dsimp only at hK)
      refine ⟨K + 1, fun k hk => ?_⟩
      (try dsimp only)
      obtain ⟨k, rfl, hk'⟩ := within_lo hk
      simp only [spec_l1PutU.l0]
      rw [if_pos (by omega), Option.bind_some, i64_and127, i64_or128 _ (by omega) (by omega), show ((n : Int) % 128 + 128) % 256 = (n : Int) % 128 + 128 from by omega,
        if_pos (by rw [strOfNums_size]; simp only [List.length_cons, List.length_nil]; omega), show ((n : Int)) / 128 = ((n / 128 : Nat) : Int) from by omega, hK k hk',
        append_str_assoc, ← strOfNums_append]
      rfl
theorem l1PutU_ev (a : Int) (h0 : 0 ≤ a) (h1 : a ≤ 9223372036854775807) : Ev (fun k => spec_l1PutU.f k a) (strOfNums (lebU a.toNat)) := by
  obtain ⟨n, rfl⟩ := Int.eq_ofNat_of_zero_le h0
  have hl := lebU_len 9 n (by omega)
  obtain ⟨K, hK⟩ := l1PutU_l0 n (⟨#[]⟩ : ByteArray) (by show 0 + _ ≤ _; omega)
  (try dsimp only at hK)
  refine ⟨K, fun k hk => ?_⟩
  (try dsimp only)
  unfold spec_l1PutU.f
  rw [hK k hk, nil_append_str]; rfl

theorem putU_l0 (n : Nat) : ∀ l : List Int, l.length + (lebU n).length ≤ 140737488355328 → Ev (fun k => impl_putU.l0 k l (n : Int)) (l ++ lebU n) := by
  induction n using Nat.strongRecOn with
  | ind n ih =>
    intro s hs
    by_cases hn : n < 128
    · refine ⟨1, fun k hk => ?_⟩
      (try dsimp only)
      obtain ⟨k, rfl⟩ : ∃ m, k = m + 1 := ⟨k - 1, by omega⟩
      simp only [impl_putU.l0]
      rw [lebU_small hn] at hs ⊢
      simp only [List.length_cons, List.length_nil] at hs
      rw [if_neg (by omega), if_pos (by omega), show ((n : Int)) % 256 = n from by omega]
    · rw [lebU_big hn] at hs ⊢
      simp only [List.length_cons] at hs
      obtain ⟨K, hK⟩ := ih (n / 128) (by omega) (s ++ [(n : Int) % 128 + 128]) (by simp only [List.length_append, List.length_cons, List.length_nil]; omega)
      (try dsimp only at hK)
      refine ⟨K + 1, fun k hk => ?_⟩
      (try dsimp only)
      obtain ⟨k, rfl, hk'⟩ := within_lo hk
      simp only [impl_putU.l0]
      rw [if_pos (by omega), if_pos (by omega), u8_or128_any, show ((n : Int)) / 128 = ((n / 128 : Nat) : Int) from by omega, hK k hk', List.append_assoc]
      rfl
theorem putU_ev (l : List Int) (a : Int) (h0 : 0 ≤ a) (h1 : a ≤ 9223372036854775807) (hl : l.length + 10 ≤ 140737488355328) : Ev (fun k => impl_putU.f k l a) (l ++ lebU a.toNat) := by
  obtain ⟨n, rfl⟩ := Int.eq_ofNat_of_zero_le h0
  have hl' := lebU_len 9 n (by omega)
  obtain ⟨K, hK⟩ := putU_l0 n l (by omega)
  (try dsimp only at hK)
  exact ⟨K, fun k hk => by unfold impl_putU.f; exact hK k hk⟩

theorem iPutU32_ev (a : Int) : Ev (fun k => impl_PutU32.f k a) (if 0 ≤ a ∧ a ≤ 4294967295 then (strOfNums (lebU a.toNat), true) else ((⟨#[]⟩ : ByteArray), false)) := by
  by_cases h : 0 ≤ a ∧ a ≤ 4294967295
  · obtain ⟨K, hK⟩ := putU_ev [] a h.1 (by omega) (by simp)
    (try dsimp only at hK)
    refine ⟨K, fun k hk => ?_⟩
    (try dsimp only)
    unfold impl_PutU32.f
    rw [within_eq, Option.bind_some, if_pos (by simpa using h), hK k hk, if_pos h]; rfl
  · refine ⟨0, fun k _ => ?_⟩
    (try dsimp only)
    unfold impl_PutU32.f
    rw [within_eq, Option.bind_some, if_neg (by simpa using h), if_neg h]

/-- The bytes of a number, so many. -/
def lebP : Nat → Nat → List Int
  | 0, _ => []
  | 1, n => [(n : Int) % 256]
  | m + 2, n => ((n : Int) % 128 + 128) :: lebP (m + 1) (n / 128)
theorem lebP_length (m : Nat) : ∀ n, (lebP m n).length = m := by
  induction m with
  | zero => intro n; rfl
  | succ m ih =>
    intro n
    cases m with
    | zero => rfl
    | succ m => simp only [lebP, List.length_cons, ih]
theorem lebU_lt (n : Nat) : n < 128 ^ (lebU n).length := by
  induction n using Nat.strongRecOn with
  | ind n ih =>
    by_cases h : n < 128
    · rw [lebU_small h]; simpa using h
    · rw [lebU_big h]
      have := ih (n / 128) (by omega)
      simp only [List.length_cons]
      rw [Nat.pow_succ]
      omega
theorem lebP_lebU (n : Nat) : lebU n = lebP (lebU n).length n := by
  induction n using Nat.strongRecOn with
  | ind n ih =>
    by_cases h : n < 128
    · rw [lebU_small h]; simp only [List.length_cons, List.length_nil, lebP]; congr 1; omega
    · have e := ih (n / 128) (by omega)
      have hp := lebU_pos (n / 128)
      rw [lebU_big h]
      obtain ⟨m, hm⟩ : ∃ m, (lebU (n / 128)).length = m + 1 := ⟨(lebU (n / 128)).length - 1, by omega⟩
      simp only [List.length_cons, hm, lebP]
      rw [hm] at e
      rw [← e]
theorem lebP_step (m : Nat) : ∀ n, n < 128 ^ (m + 1) → lebP (m + 2) n = (lebP (m + 1) n).set m (Go.bits .or .u8 ((lebP (m + 1) n).getD m 0) 128) ++ [0] := by
  induction m with
  | zero =>
    intro n h
    simp only [lebP, List.set_cons_zero, List.getD_cons_zero, u8_or128_any, List.cons_append, List.nil_append]
    congr 2
    have : n < 128 := by simpa using h
    omega
  | succ m ih =>
    intro n h
    have h2 : n / 128 < 128 ^ (m + 1) := by rw [Nat.pow_succ] at h; omega
    have e := ih (n / 128) h2
    rw [show lebP (m + 1 + 2) n = ((n : Int) % 128 + 128) :: lebP (m + 2) (n / 128) from rfl, e]
    rw [show lebP (m + 1 + 1) n = ((n : Int) % 128 + 128) :: lebP (m + 1) (n / 128) from rfl]
    simp only [List.set_cons_succ, List.getD_cons_succ, List.cons_append]
theorem iPad_l0 (d : Nat) : ∀ (m n : Nat), n < 128 ^ (m + 1) → m + d ≤ 100 → Ev (fun k => impl_PadU32.l0 k ((m + 1 + d : Nat) : Int) (lebP (m + 1) n)) (lebP (m + 1 + d) n) := by
  induction d with
  | zero =>
    intro m n h hs
    refine Ev.succ ?_
    simp only [impl_PadU32.l0]
    refine Ev.ite_neg ?_ (Ev.now _)
    rw [lebP_length]; omega
  | succ d ih =>
    intro m n h hs
    refine Ev.succ ?_
    simp only [impl_PadU32.l0]
    refine Ev.ite_pos ?_ (Ev.ite_pos ?_ (Ev.ite_pos ?_ ?_))
    · rw [lebP_length]; omega
    · rw [lebP_length]; omega
    · rw [lebP_length]; omega
    · rw [lebP_length, show m + 1 - 1 = m from rfl, ← lebP_step m n h]
      have h2 : n < 128 ^ (m + 1 + 1) := by rw [Nat.pow_succ]; omega
      have := ih (m + 1) n h2 (by omega)
      rw [show m + 1 + 1 + d = m + 1 + (d + 1) from by omega] at this
      exact this
theorem i64_and127 (n : Int) : Go.bits .and .i64 n 127 = n % 128 := by
  have h1 : (BitVec.ofInt 64 127).toNat = 2 ^ 7 - 1 := by decide
  have key : (BitVec.ofInt 64 n &&& BitVec.ofInt 64 127).toNat = (n % ((2 ^ 64 : Nat) : Int)).toNat % 2 ^ 7 := by
    rw [BitVec.toNat_and, BitVec.toNat_ofInt, h1, Nat.and_two_pow_sub_one_eq_mod]
  show IntKind.i64.wrap ((BitVec.ofInt 64 n &&& BitVec.ofInt 64 127).toNat : Nat) = n % 128
  rw [key, IntKind.wrap_i64]
  omega
theorem sPad_l0 (m : Nat) : ∀ (n : Nat) (s : ByteArray), s.size + m ≤ 1000 → Ev (fun k => spec_PadU32.l0 k (n : Int) ((m + 1 : Nat) : Int) s) (s ++ strOfNums (lebP (m + 1) n), true) := by
  induction m with
  | zero =>
    intro n s hs
    refine Ev.succ ?_
    simp only [spec_PadU32.l0]
    refine Ev.ite_neg (by omega) ?_
    simp only [Option.bind_some]
    refine Ev.ite_pos (by rw [strOfNums_size]; simp; omega) (Ev.some ?_)
    rfl
  | succ m ih =>
    intro n s hs
    refine Ev.succ ?_
    simp only [spec_PadU32.l0]
    refine Ev.ite_pos (by omega) ?_
    simp only [Option.bind_some]
    refine Ev.ite_pos (by rw [strOfNums_size]; simp; omega) ?_
    have e1 : wrap64 (((m + 1 + 1 : Nat) : Int) - 1) = ((m + 1 : Nat) : Int) := by rw [wrap64_id (by omega) (by omega)]; omega
    have e2 : (n : Int) / 128 = ((n / 128 : Nat) : Int) := by omega
    have e3 : Go.bits .or .i64 (Go.bits .and .i64 (n : Int) 127) 128 % 256 = (n : Int) % 128 + 128 := by
      rw [i64_and127, i64_or128 _ (by omega) (by omega)]; omega
    rw [e1, e2, e3]
    refine Ev.cast (ih (n / 128) _ (by rw [str_append_size, strOfNums_size]; simp; omega)) ?_
    rw [append_str_assoc, ← strOfNums_append]
    rfl
/-- What PadU32 answers. -/
def padR (n many : Int) : ByteArray × Bool :=
  if (0 ≤ n ∧ n ≤ 4294967295) ∧ ((lebU n.toNat).length : Int) ≤ many ∧ many ≤ 5 then (strOfNums (lebP many.toNat n.toNat), true) else ((⟨#[]⟩ : ByteArray), false)
theorem sPad_ev (n many : Int) : Ev (fun k => spec_PadU32.f k n many) (padR n many) := by
  unfold spec_PadU32.f padR
  rw [l1U32_eq]
  simp only [Option.bind_some]
  by_cases h : 0 ≤ n ∧ n ≤ 4294967295
  · refine Ev.ite_pos (by simpa using h) (Ev.bind (l1PutU_ev n h.1 (by omega)) ?_)
    rw [strOfNums_size, l1In_eq]
    simp only [Option.bind_some]
    by_cases h2 : ((lebU n.toNat).length : Int) ≤ many ∧ many ≤ 5
    · rw [if_pos ⟨h, h2⟩]
      refine Ev.succ ?_
      simp only [spec_PadU32.j0]
      refine Ev.ite_neg (by simpa using h2) ?_
      have hp := lebU_pos n.toNat
      obtain ⟨m, hm⟩ : ∃ m : Nat, many = ((m + 1 : Nat) : Int) := ⟨many.toNat - 1, by omega⟩
      have hn : n = (n.toNat : Int) := by omega
      rw [hm]
      have := sPad_l0 m n.toNat (⟨#[]⟩ : ByteArray) (by have : (⟨#[]⟩ : ByteArray).size = 0 := rfl; omega)
      rw [← hn, nil_append_str] at this
      exact this
    · rw [if_neg (fun hc => h2 hc.2)]
      refine Ev.succ ?_
      simp only [spec_PadU32.j0]
      refine Ev.ite_pos ?_ (Ev.now _)
      simp only [Bool.not_eq_true', decide_eq_false_iff_not]; exact h2
  · refine Ev.ite_neg (by simpa using h) ?_
    rw [if_neg (fun hc => h hc.1)]
    refine Ev.succ ?_
    simp only [spec_PadU32.j0]
    exact Ev.ite_pos (by trivial) (Ev.now _)
theorem bytesOf_str (l : List Int) (h : ∀ x ∈ l, 0 ≤ x ∧ x < 256) : bytesOf (strOfNums l) = l := by
  unfold bytesOf
  rw [strOfNums_data, List.map_map]
  conv => rhs; rw [← List.map_id l]
  refine List.map_congr_left fun x hx => ?_
  obtain ⟨h0, h1⟩ := h x hx
  show (((UInt8.ofNat x.toNat).toNat : Nat) : Int) = x
  rw [UInt8.toNat_ofNat']
  omega
theorem lebU_range (n : Nat) : ∀ x ∈ lebU n, 0 ≤ x ∧ x < 256 := by
  induction n using Nat.strongRecOn with
  | ind n ih =>
    intro x hx
    by_cases h : n < 128
    · rw [lebU_small h] at hx
      simp only [List.mem_singleton] at hx
      omega
    · rw [lebU_big h] at hx
      simp only [List.mem_cons] at hx
      rcases hx with hx | hx
      · omega
      · exact ih (n / 128) (by omega) x hx
theorem iPad_ev (n many : Int) : Ev (fun k => impl_PadU32.f k n many) (padR n many) := by
  unfold impl_PadU32.f padR
  by_cases h : 0 ≤ n ∧ n ≤ 4294967295
  · have h1 := iPutU32_ev n
    rw [if_pos h] at h1
    refine Ev.bind h1 (Ev.ite_pos rfl ?_)
    dsimp only
    rw [strOfNums_size, within_eq]
    simp only [Option.bind_some]
    by_cases h2 : ((lebU n.toNat).length : Int) ≤ many ∧ many ≤ 5
    · rw [if_pos ⟨h, h2⟩]
      refine Ev.ite_pos (by simpa using h2) ?_
      have hp := lebU_pos n.toNat
      rw [bytesOf_str _ (lebU_range _)]
      obtain ⟨m, hm⟩ : ∃ m : Nat, (lebU n.toNat).length = m + 1 := ⟨(lebU n.toNat).length - 1, by omega⟩
      obtain ⟨d, hd⟩ : ∃ d : Nat, many = ((m + 1 + d : Nat) : Int) := ⟨many.toNat - (m + 1), by omega⟩
      have hl := lebU_lt n.toNat
      rw [hm] at hl
      rw [lebP_lebU n.toNat, hm, hd]
      exact Ev.bind (iPad_l0 d m n.toNat hl (by omega)) (Ev.now _)
    · rw [if_neg (fun hc => h2 hc.2)]
      exact Ev.ite_neg (by simpa using h2) (Ev.now _)
  · have h1 := iPutU32_ev n
    rw [if_neg h] at h1
    rw [if_neg (fun hc => h hc.1)]
    exact Ev.bind h1 (Ev.ite_neg (by simp) (Ev.now _))

theorem lebP_range (m : Nat) : ∀ n, ∀ x ∈ lebP m n, 0 ≤ x ∧ x < 256 := by
  induction m with
  | zero => intro n x hx; simp [lebP] at hx
  | succ m ih =>
    intro n x hx
    cases m with
    | zero => simp only [lebP, List.mem_singleton] at hx; omega
    | succ m =>
      simp only [lebP, List.mem_cons] at hx
      rcases hx with hx | hx
      · omega
      · exact ih _ x hx
theorem bts_str (q : List Int) : ∀ p r : List Int, (∀ x ∈ p ++ q ++ r, 0 ≤ x ∧ x < 256) → bts (strOfNums (p ++ q ++ r)) (p.length : Int) q.length = q := by
  induction q with
  | nil => intro p r _; rfl
  | cons y q ih =>
    intro p r h
    have e1 : p ++ (y :: q) ++ r = (p ++ [y]) ++ q ++ r := by simp
    have e2 : bt (strOfNums (p ++ (y :: q) ++ r)) (p.length : Int) = y := by
      rw [← rd_bytesOf, bytesOf_str _ h, List.append_assoc, List.cons_append, rd_mid]
    have e3 := ih (p ++ [y]) r (by rw [← e1]; exact h)
    simp only [List.length_cons, bts]
    rw [e2, e1]
    rw [show ((p ++ [y]).length : Int) = (p.length : Int) + 1 from by simp] at e3
    rw [e3]
theorem tk_lebP (s : ByteArray) (m : Nat) : ∀ (n : Nat) (a : Int) (r : Nat), n < 128 ^ (m + 1) → m + 1 ≤ r → a + (m + 1) ≤ s.size → bts s a (m + 1) = lebP (m + 1) n → tk s r a = some ((n : Int), m + 1) := by
  induction m with
  | zero =>
    intro n a r hn hr ha hb
    obtain ⟨r, rfl⟩ : ∃ t, r = t + 1 := ⟨r - 1, by omega⟩
    simp only [bts, lebP, List.cons.injEq, and_true] at hb
    have hn' : n < 128 := by simpa using hn
    simp only [tk]
    rw [if_pos (by omega), hb, if_pos (by omega)]
    congr 2
    omega
  | succ m ih =>
    intro n a r hn hr ha hb
    obtain ⟨r, rfl⟩ : ∃ t, r = t + 1 := ⟨r - 1, by omega⟩
    rw [show lebP (m + 1 + 1) n = ((n : Int) % 128 + 128) :: lebP (m + 1) (n / 128) from rfl, show bts s a (m + 1 + 1) = bt s a :: bts s (a + 1) (m + 1) from rfl] at hb
    injection hb with hb1 hb2
    have h2 : n / 128 < 128 ^ (m + 1) := by rw [Nat.pow_succ] at hn; omega
    have e := ih (n / 128) (a + 1) r h2 (by omega) (by omega) hb2
    simp only [tk]
    rw [if_pos (by omega), hb1, if_neg (by omega), e]
    simp only [Option.map_some, Option.some.injEq, Prod.mk.injEq, and_true]
    omega
theorem take_lebP (p r : List Int) (n m : Nat) (hn : n < 128 ^ (m + 1)) (h5 : m + 1 ≤ 5) (hv : n ≤ 4294967295) (hp : ∀ x ∈ p, 0 ≤ x ∧ x < 256) (hr : ∀ x ∈ r, 0 ≤ x ∧ x < 256) (hs : p.length + r.length ≤ 990) :
    takeU32 (strOfNums (p ++ lebP (m + 1) n ++ r)) (p.length : Int) = ((n : Int), (p.length : Int) + ((m + 1 : Nat) : Int), true) := by
  have hrange : ∀ x ∈ p ++ lebP (m + 1) n ++ r, 0 ≤ x ∧ x < 256 := by
    intro x hx
    simp only [List.mem_append] at hx
    rcases hx with (hx | hx) | hx
    · exact hp x hx
    · exact lebP_range _ _ x hx
    · exact hr x hx
  have hb := bts_str (lebP (m + 1) n) p r hrange
  rw [lebP_length] at hb
  have hsz : (strOfNums (p ++ lebP (m + 1) n ++ r)).size = p.length + (m + 1) + r.length := by
    rw [strOfNums_size]; simp [lebP_length]; omega
  have ht := tk_lebP (strOfNums (p ++ lebP (m + 1) n ++ r)) m n (p.length : Int) 5 hn h5 (by omega) hb
  unfold takeU32
  rw [if_pos ⟨by omega, by omega⟩, tuR_some ht, if_pos (by omega)]
theorem take_lebU (p r : List Int) (n : Nat) (hv : n ≤ 4294967295) (hp : ∀ x ∈ p, 0 ≤ x ∧ x < 256) (hr : ∀ x ∈ r, 0 ≤ x ∧ x < 256) (hs : p.length + r.length ≤ 990) :
    takeU32 (strOfNums (p ++ lebU n ++ r)) (p.length : Int) = ((n : Int), (p.length : Int) + ((lebU n).length : Int), true) := by
  have h1 := lebU_pos n
  have h2 := lebU_len 4 n (by omega)
  have h3 := lebU_lt n
  obtain ⟨m, hm⟩ : ∃ m, (lebU n).length = m + 1 := ⟨(lebU n).length - 1, by omega⟩
  rw [lebP_lebU n, hm, lebP_length]
  rw [hm] at h3
  exact take_lebP p r n m h3 (by omega) hv hp hr hs
theorem flat_len (l : List Int) (hl : ∀ x ∈ l, 0 ≤ x ∧ x ≤ 4294967295) : (l.flatMap fun x => lebU x.toNat).length ≤ 5 * l.length := by
  induction l with
  | nil => simp
  | cons y l ih =>
    have h2 := lebU_len 4 y.toNat (by have := hl y (by simp); omega)
    have := ih (fun x hx => hl x (by simp [hx]))
    simp only [List.flatMap_cons, List.length_append, List.length_cons]
    omega
theorem flat_range (l : List Int) : ∀ x ∈ (l.flatMap fun x => lebU x.toNat), 0 ≤ x ∧ x < 256 := by
  intro x hx
  rw [List.mem_flatMap] at hx
  obtain ⟨y, _, hy⟩ := hx
  exact lebU_range _ x hy
theorem tvL_flat (l : List Int) : ∀ p : List Int, (∀ x ∈ p, 0 ≤ x ∧ x < 256) → (∀ x ∈ l, 0 ≤ x ∧ x ≤ 4294967295) → p.length + 5 * l.length ≤ 900 →
    tvL (strOfNums (p ++ l.flatMap fun x => lebU x.toNat)) l.length (p.length : Int) = some (l, ((p ++ l.flatMap fun x => lebU x.toNat).length : Int)) := by
  induction l with
  | nil => intro p _ _ _; simp [tvL]
  | cons y l ih =>
    intro p hp hl hs
    have hy := hl y (by simp)
    have h2 := lebU_len 4 y.toNat (by omega)
    have h3 := flat_len l (fun x hx => hl x (by simp [hx]))
    simp only [List.length_cons] at hs
    have ht := take_lebU p (l.flatMap fun x => lebU x.toNat) y.toNat (by omega) hp (flat_range l) (by omega)
    have e1 : p ++ ((y :: l).flatMap fun x => lebU x.toNat) = p ++ lebU y.toNat ++ (l.flatMap fun x => lebU x.toNat) := by simp
    have hi := ih (p ++ lebU y.toNat) (by
      intro x hx
      simp only [List.mem_append] at hx
      rcases hx with hx | hx
      · exact hp x hx
      · exact lebU_range _ x hx) (fun x hx => hl x (by simp [hx])) (by simp only [List.length_append]; omega)
    rw [e1]
    simp only [List.length_cons, tvL]
    rw [ht]
    simp only [if_true]
    rw [show (p.length : Int) + ((lebU y.toNat).length : Int) = ((p ++ lebU y.toNat).length : Int) from by simp, hi]
    simp only [Option.map_some, Option.some.injEq, Prod.mk.injEq, List.cons.injEq, and_true]
    omega
theorem takeVec_put (l : List Int) (hx : ∀ x ∈ l, 0 ≤ x ∧ x ≤ 4294967295) (hl : l.length ≤ 50) :
    takeVec (strOfNums (lebU l.length ++ l.flatMap fun x => lebU x.toNat)) 0 = (l, ((strOfNums (lebU l.length ++ l.flatMap fun x => lebU x.toNat)).size : Int), true) := by
  have h2 := lebU_len 4 l.length (by omega)
  have h3 := flat_len l hx
  have ht := take_lebU [] (l.flatMap fun x => lebU x.toNat) l.length (by omega) (by simp) (flat_range l) (by rw [show ([] : List Int).length = 0 from rfl]; omega)
  rw [List.nil_append] at ht
  have hv := tvL_flat l (lebU l.length) (lebU_range _) hx (by omega)
  unfold takeVec
  rw [show (([] : List Int).length : Int) = 0 from rfl] at ht
  rw [ht]
  simp only [Int.toNat_natCast, Int.zero_add]
  rw [if_pos ⟨trivial, by omega⟩, hv, strOfNums_size]
  rfl

theorem l1PutVec_l0 (q : List Int) : ∀ (p : List Int) (s : ByteArray), p.length + q.length ≤ 50 → s.size + 10 * q.length ≤ 1000000 → (∀ x ∈ q, 0 ≤ x ∧ x ≤ 4294967295) →
    Ev (fun k => spec_l1PutVec.l0 k s (p ++ q) ((p.length + q.length : Nat) : Int) (p.length : Int)) (s ++ strOfNums (q.flatMap fun x => lebU x.toNat)) := by
  induction q with
  | nil =>
    intro p s h0 h1 hx
    refine ⟨1, fun k hk => ?_⟩
    (try dsimp only)
    obtain ⟨k, rfl⟩ : ∃ m, k = m + 1 := ⟨k - 1, by omega⟩
    simp only [spec_l1PutVec.l0]
    rw [if_neg (by simp), List.flatMap_nil, strOfNums_nil, append_nil_str]
  | cons x q ih =>
    intro p s h0 h1 hx
    simp only [List.length_cons] at h0 h1
    obtain ⟨hx0, hx1⟩ := hx x List.mem_cons_self
    have hl := lebU_len 4 x.toNat (by omega)
    obtain ⟨K1, hK1⟩ := l1PutU_ev x hx0 (by omega)
    (try dsimp only at hK1)
    obtain ⟨K, hK⟩ := ih (p ++ [x]) (s ++ strOfNums (lebU x.toNat)) (by simp; omega) (by rw [str_append_size, strOfNums_size]; omega) (fun y hy => hx y (List.mem_cons_of_mem _ hy))
    (try dsimp only at hK)
    refine ⟨K + K1 + 1, fun k hk => ?_⟩
    (try dsimp only)
    obtain ⟨k, rfl, hk'⟩ := within_lo hk
    simp only [spec_l1PutVec.l0]
    have hK' := hK k (by omega)
    simp only [List.append_assoc, List.cons_append, List.nil_append] at hK'
    have e1 : wrap64 ((p.length : Int) + 1) = ((p ++ [x]).length : Int) := by
      rw [wrap64_id (by omega) (by omega)]; simp
    have e2 : ((p.length + (x :: q).length : Nat) : Int) = (((p ++ [x]).length + q.length : Nat) : Int) := by simp; omega
    rw [if_pos (by simp; omega), if_pos (by omega), if_pos (by simp; omega), rd_mid, hK1 k (by omega), Option.bind_some, if_pos (by rw [strOfNums_size]; omega), e1, e2, hK', List.flatMap_cons, strOfNums_append, append_str_assoc]
theorem sPutVec_l0 (q : List Int) : ∀ (p : List Int), p.length + q.length ≤ 1048576 → (∀ x ∈ p, 0 ≤ x ∧ x ≤ 4294967295) →
    Ev (fun k => spec_PutVec.l0 k (p ++ q) (p ++ q) ((p ++ q).length : Int) (p.length : Int)) (putVecR (p ++ q)) := by
  induction q with
  | nil =>
    intro p h0 hx
    rw [List.append_nil]
    by_cases hl : p.length ≤ 50
    · have hll := lebU_len 4 p.length (by omega)
      obtain ⟨K1, hK1⟩ := l1PutU_ev (p.length : Int) (by omega) (by omega)
      (try dsimp only at hK1)
      obtain ⟨K, hK⟩ := l1PutVec_l0 p [] (strOfNums (lebU p.length)) (by simpa using hl) (by rw [strOfNums_size]; omega) hx
      (try dsimp only at hK)
      refine ⟨K + K1 + 1, fun k hk => ?_⟩
      (try dsimp only)
      obtain ⟨k, rfl, hk'⟩ := within_lo hk
      simp only [spec_PutVec.l0, spec_l1PutVec.f]
      have hK' := hK k (by omega)
      simp only [List.nil_append, List.length_nil, Nat.zero_add] at hK'
      rw [if_neg (by omega), if_neg (by omega), hK1 k (by omega), Option.bind_some, Int.toNat_natCast]
      have : ((0 : Nat) : Int) = 0 := rfl
      rw [this] at hK'
      rw [hK', putVecR_good hx hl, strOfNums_append]; rfl
    · refine ⟨1, fun k hk => ?_⟩
      (try dsimp only)
      obtain ⟨k, rfl⟩ : ∃ m, k = m + 1 := ⟨k - 1, by omega⟩
      simp only [spec_PutVec.l0]
      rw [if_neg (by omega), if_pos (by omega), putVecR_long hl]
  | cons x q ih =>
    intro p h0 hx
    simp only [List.length_cons] at h0
    by_cases hxx : 0 ≤ x ∧ x ≤ 4294967295
    · obtain ⟨K, hK⟩ := ih (p ++ [x]) (by simp; omega) (fun y hy => (List.mem_append.mp hy).elim (hx y) (fun h => by rw [List.mem_singleton.mp h]; exact hxx))
      (try dsimp only at hK)
      refine ⟨K + 1, fun k hk => ?_⟩
      (try dsimp only)
      obtain ⟨k, rfl, hk'⟩ := within_lo hk
      simp only [spec_PutVec.l0]
      have hK' := hK k (by omega)
      simp only [List.append_assoc, List.cons_append, List.nil_append] at hK'
      have e1 : wrap64 ((p.length : Int) + 1) = ((p ++ [x]).length : Int) := by
        rw [wrap64_id (by omega) (by omega)]; simp
      rw [if_pos (by simp; omega), if_pos (by omega), if_pos (by simp; omega), rd_mid, l1U32_eq, Option.bind_some, if_pos (by simpa using hxx), e1, hK']
    · refine ⟨1, fun k hk => ?_⟩
      (try dsimp only)
      obtain ⟨k, rfl⟩ : ∃ m, k = m + 1 := ⟨k - 1, by omega⟩
      simp only [spec_PutVec.l0]
      rw [if_pos (by simp; omega), if_pos (by omega), if_pos (by simp; omega), rd_mid, l1U32_eq, Option.bind_some, if_neg (by simpa using hxx), putVecR_bad (x := x) (by simp) hxx]
theorem sPutVec_ev (l : List Int) (h : l.length ≤ 1048576) : Ev (fun k => spec_PutVec.f k l) (putVecR l) :=
  sPutVec_l0 l [] (by simpa using h) (fun _ h => by simp at h)

theorem PutVec1_eq (a : Int) : impl_PutVec_1.f a = some (!decide (0 ≤ a ∧ a ≤ 4294967295)) := by
  unfold impl_PutVec_1.f; rw [within_eq]; rfl
theorem idx61_l0 (q : List Int) : ∀ (p : List Int), p.length + q.length ≤ 1048576 →
    Ev (fun k => slices_IndexFunc_int_int__impl_PutVec_1.l0 k (p ++ q) ((p.length + q.length : Nat) : Int) (p.length : Int)) (match q.findIdx? (fun a => !decide (0 ≤ a ∧ a ≤ 4294967295)) with | some j => ((p.length + j : Nat) : Int) | none => -1) := by
  induction q with
  | nil =>
    intro p h0
    refine ⟨1, fun k hk => ?_⟩
    (try dsimp only)
    obtain ⟨k, rfl⟩ : ∃ m, k = m + 1 := ⟨k - 1, by omega⟩
    simp only [slices_IndexFunc_int_int__impl_PutVec_1.l0]
    rw [if_neg (by simp)]; rfl
  | cons x q ih =>
    intro p h0
    simp only [List.length_cons] at h0
    cases hx : (!decide (0 ≤ x ∧ x ≤ 4294967295)) with
    | true =>
      refine ⟨1, fun k hk => ?_⟩
      (try dsimp only)
      obtain ⟨k, rfl⟩ : ∃ m, k = m + 1 := ⟨k - 1, by omega⟩
      simp only [slices_IndexFunc_int_int__impl_PutVec_1.l0]
      rw [if_pos (by simp; omega), if_pos (by omega), if_pos (by simp; omega), rd_mid, PutVec1_eq, Option.bind_some, hx, if_pos rfl, List.findIdx?_cons, hx]
      simp
    | false =>
      obtain ⟨K, hK⟩ := ih (p ++ [x]) (by simp; omega)
      (try dsimp only at hK)
      refine ⟨K + 1, fun k hk => ?_⟩
      (try dsimp only)
      obtain ⟨k, rfl, hk'⟩ := within_lo hk
      simp only [slices_IndexFunc_int_int__impl_PutVec_1.l0]
      have hK' := hK k (by omega)
      simp only [List.append_assoc, List.cons_append, List.nil_append] at hK'
      have e1 : wrap64 ((p.length : Int) + 1) = ((p ++ [x]).length : Int) := by
        rw [wrap64_id (by omega) (by omega)]; simp
      have e2 : ((p.length + (x :: q).length : Nat) : Int) = (((p ++ [x]).length + q.length : Nat) : Int) := by simp; omega
      rw [if_pos (by simp; omega), if_pos (by omega), if_pos (by simp; omega), rd_mid, PutVec1_eq, Option.bind_some, hx, if_neg (by simp), e1, e2, hK', List.findIdx?_cons, hx]
      cases q.findIdx? (fun a => !decide (0 ≤ a ∧ a ≤ 4294967295)) with
      | none => rfl
      | some j => simp; omega
theorem contains61_ev (l : List Int) (h : l.length ≤ 1048576) : Ev (fun k => slices_ContainsFunc_int_int__impl_PutVec_1.f k l) (l.any fun a => !decide (0 ≤ a ∧ a ≤ 4294967295)) := by
  obtain ⟨K, hK⟩ := idx61_l0 l [] (by simpa using h)
  (try dsimp only at hK)
  refine ⟨K, fun k hk => ?_⟩
  (try dsimp only)
  unfold slices_ContainsFunc_int_int__impl_PutVec_1.f slices_IndexFunc_int_int__impl_PutVec_1.f
  have hK' := hK k hk
  simp only [List.nil_append, List.length_nil, Nat.zero_add] at hK'
  have : ((0 : Nat) : Int) = 0 := rfl
  rw [this] at hK'
  rw [hK', Option.bind_some]
  congr 1
  rw [Bool.eq_iff_iff, decide_eq_true_iff, List.any_eq_true]
  cases hf : l.findIdx? (fun a => !decide (0 ≤ a ∧ a ≤ 4294967295)) with
  | none =>
    rw [List.findIdx?_eq_none_iff] at hf
    simp only [ge_iff_le]
    constructor
    · intro h; omega
    · rintro ⟨x, hx, h⟩; rw [hf x hx] at h; simp at h
  | some j =>
    simp only [ge_iff_le]
    constructor
    · intro _
      obtain ⟨hj, h1, _⟩ := List.findIdx?_eq_some_iff_getElem.mp hf
      exact ⟨l[j], List.getElem_mem hj, h1⟩
    · intro _; omega
theorem putVec_l0 (q : List Int) : ∀ (p : List Int) (s : List Int), p.length + q.length ≤ 50 → s.length + 10 * q.length ≤ 1000000 → (∀ x ∈ q, 0 ≤ x ∧ x ≤ 4294967295) →
    Ev (fun k => impl_putVec.l0 k s (p ++ q) ((p.length + q.length : Nat) : Int) (p.length : Int)) (s ++ q.flatMap fun x => lebU x.toNat) := by
  induction q with
  | nil =>
    intro p s h0 h1 hx
    refine ⟨1, fun k hk => ?_⟩
    (try dsimp only)
    obtain ⟨k, rfl⟩ : ∃ m, k = m + 1 := ⟨k - 1, by omega⟩
    simp only [impl_putVec.l0]
    rw [if_neg (by simp), List.flatMap_nil, List.append_nil]
  | cons x q ih =>
    intro p s h0 h1 hx
    simp only [List.length_cons] at h0 h1
    obtain ⟨hx0, hx1⟩ := hx x List.mem_cons_self
    have hl := lebU_len 4 x.toNat (by omega)
    obtain ⟨K1, hK1⟩ := putU_ev s x hx0 (by omega) (by omega)
    (try dsimp only at hK1)
    obtain ⟨K, hK⟩ := ih (p ++ [x]) (s ++ lebU x.toNat) (by simp; omega) (by simp; omega) (fun y hy => hx y (List.mem_cons_of_mem _ hy))
    (try dsimp only at hK)
    refine ⟨K + K1 + 1, fun k hk => ?_⟩
    (try dsimp only)
    obtain ⟨k, rfl, hk'⟩ := within_lo hk
    simp only [impl_putVec.l0]
    have hK' := hK k (by omega)
    simp only [List.append_assoc, List.cons_append, List.nil_append] at hK'
    have e1 : wrap64 ((p.length : Int) + 1) = ((p ++ [x]).length : Int) := by
      rw [wrap64_id (by omega) (by omega)]; simp
    have e2 : ((p.length + (x :: q).length : Nat) : Int) = (((p ++ [x]).length + q.length : Nat) : Int) := by simp; omega
    rw [if_pos (by simp; omega), if_pos (by omega), if_pos (by simp; omega), rd_mid, hK1 k (by omega), Option.bind_some, e1, e2, hK', List.flatMap_cons]
theorem iPutVec_ev (l : List Int) (h : l.length ≤ 1048576) : Ev (fun k => impl_PutVec.f k l) (putVecR l) := by
  by_cases hl : l.length ≤ 50
  · obtain ⟨K, hK⟩ := contains61_ev l h
    (try dsimp only at hK)
    by_cases hx : ∀ x ∈ l, 0 ≤ x ∧ x ≤ 4294967295
    · have ha : (l.any fun a => !decide (0 ≤ a ∧ a ≤ 4294967295)) = false := by
        rw [List.any_eq_false]; intro x hx'; simp only [decide_eq_true (hx x hx'), Bool.not_true]; simp
      have hll := lebU_len 4 l.length (by omega)
      obtain ⟨K1, hK1⟩ := putU_ev [] (l.length : Int) (by omega) (by omega) (by simp)
      (try dsimp only at hK1)
      obtain ⟨K2, hK2⟩ := putVec_l0 l [] (lebU l.length) (by simpa using hl) (by omega) hx
      (try dsimp only at hK2)
      refine ⟨K + K1 + K2, fun k hk => ?_⟩
      (try dsimp only)
      have hK' := hK2 k (by omega)
      simp only [List.nil_append, List.length_nil, Nat.zero_add] at hK'
      have : ((0 : Nat) : Int) = 0 := rfl
      rw [this] at hK'
      unfold impl_PutVec.f impl_putVec.f
      rw [if_neg (by omega), hK k (by omega), Option.bind_some, ha, if_neg (by simp), hK1 k (by omega), Option.bind_some, List.nil_append, Int.toNat_natCast, hK', Option.bind_some, putVecR_good hx hl]
    · obtain ⟨x, hx', hx''⟩ : ∃ x ∈ l, ¬ (0 ≤ x ∧ x ≤ 4294967295) := by
        apply Classical.byContradiction; intro hc; apply hx; intro x hx'; apply Classical.byContradiction; intro hc'; exact hc ⟨x, hx', hc'⟩
      have ha : (l.any fun a => !decide (0 ≤ a ∧ a ≤ 4294967295)) = true := by
        rw [List.any_eq_true]; exact ⟨x, hx', by simp only [decide_eq_false hx'', Bool.not_false]⟩
      refine ⟨K, fun k hk => ?_⟩
      (try dsimp only)
      unfold impl_PutVec.f
      rw [if_neg (by omega), hK k (by omega), Option.bind_some, ha, if_pos rfl, putVecR_bad hx' hx'']
  · refine ⟨0, fun k _ => ?_⟩
    (try dsimp only)
    unfold impl_PutVec.f
    rw [if_pos (by omega), putVecR_long hl]

/-- What the reading loop of the program answers. -/
def tkI (n at0 : Int) (i : Nat) : Option (Int × Nat) → Int × Int × Int × Bool
  | none => (0, 0, 0, false)
  | some (v, m) => (n + 128 ^ i * v, 7 * ((i : Int) + m), at0 + i + m, true)
theorem takeBits_l0 (s : ByteArray) (hs : s.size ≤ 1000) (at0 : Int) (h0 : 0 ≤ at0) (ha : at0 ≤ 9223372036854775000) (r : Nat) : ∀ (i : Nat) (n : Int), i + r = 5 → 0 ≤ n → n < 128 ^ i →
    Ev (fun k => impl_takeBits.l0 k s at0 n (i : Int)) (tkI n at0 i (tk s r (at0 + i))) := by
  induction r with
  | zero =>
    intro i n hi hn hn'
    refine ⟨2, fun k hk => ?_⟩
    (try dsimp only)
    obtain ⟨k, rfl⟩ : ∃ m, k = m + 2 := ⟨k - 2, by omega⟩
    simp only [impl_takeBits.l0, impl_takeBits.j1]
    rw [if_neg (by omega), if_neg (by simp)]; rfl
  | succ r ih =>
    intro i n hi hn hn'
    have hb := bt_range s (at0 + i)
    have e0 : wrap64 (at0 + (i : Int)) = at0 + i := wrap64_id (by omega) (by omega)
    by_cases hlt : at0 + (i : Int) < (s.size : Int)
    · have e1 : wrap64 (7 * (i : Int)) = 7 * (i : Int) := wrap64_id (by omega) (by omega)
      have e3 : wrap64 (bt s (at0 + i) % 128) = bt s (at0 + i) % 128 := wrap64_id (by omega) (by omega)
      have e6 : bits .and .u8 (bt s (at0 + i)) 127 = bt s (at0 + i) % 128 := by
        have := u8_and127_any (bt s (at0 + i)); rwa [show bt s (at0 + i) % 256 = bt s (at0 + i) from by omega] at this
      have e5 := or_shl i (by omega) n (bt s (at0 + i) % 128) hn hn' (by omega) (by omega)
      by_cases hsm : bt s (at0 + i) < 128
      · refine ⟨2, fun k hk => ?_⟩
        (try dsimp only)
        obtain ⟨k, rfl⟩ : ∃ m, k = m + 2 := ⟨k - 2, by omega⟩
        simp only [impl_takeBits.l0, impl_takeBits.j1, tk]
        rw [if_pos (by omega), e0, if_pos (by simpa using hlt), if_pos (by omega), if_pos hlt, e1, if_pos (by omega), if_pos hsm, e6, e3, e5, if_pos hlt, if_pos hsm, wrap64_id (x := (i : Int) + 1) (by omega) (by omega), wrap64_id (x := 7 * ((i : Int) + 1)) (by omega) (by omega), wrap64_id (x := at0 + (i : Int) + 1) (by omega) (by omega)]
        simp only [tkI]
        rw [show bt s (at0 + i) % 128 = bt s (at0 + i) from by omega, show 7 * ((i : Int) + 1) = 7 * ((i : Int) + (1 : Nat)) from by omega]; rfl
      · have hpow : (128 : Int) ^ (i + 1) = 128 * 128 ^ i := by rw [Int.pow_succ]; ac_rfl
        have hq : 0 ≤ (128 : Int) ^ i * (bt s (at0 + i) % 128) := Int.mul_nonneg (by omega) (by omega)
        have hq' : (128 : Int) ^ i * (bt s (at0 + i) % 128) ≤ 128 ^ i * 127 := Int.mul_le_mul (Int.le_refl _) (by omega) (by omega) (by omega)
        obtain ⟨K, hK⟩ := ih (i + 1) (n + 128 ^ i * (bt s (at0 + i) % 128)) (by omega) (by omega) (by rw [hpow]; omega)
        (try dsimp only at hK)
        refine ⟨K + 2, fun k hk => ?_⟩
        (try dsimp only)
        obtain ⟨k, rfl, hk'⟩ : ∃ m, k = m + 2 ∧ K ≤ m := ⟨k - 2, by omega, by omega⟩
        simp only [impl_takeBits.l0, impl_takeBits.j1, tk]
        rw [if_pos (by omega), e0, if_pos (by simpa using hlt), if_pos (by omega), if_pos hlt, e1, if_pos (by omega), if_neg hsm, e6, e3, e5, if_pos hlt, if_neg hsm, wrap64_id (x := (i : Int) + 1) (by omega) (by omega)]
        have hK' := hK k hk'
        rw [show ((i + 1 : Nat) : Int) = (i : Int) + 1 from by omega, show at0 + ((i : Int) + 1) = at0 + i + 1 from by omega] at hK'
        rw [hK']
        cases tk s r (at0 + i + 1) with
        | none => rfl
        | some p =>
          obtain ⟨v, m⟩ := p
          simp only [tkI, Option.map_some, hpow, Option.some.injEq, Prod.mk.injEq]
          refine ⟨?_, by omega, by omega, trivial⟩
          rw [Int.mul_add, Int.mul_assoc, Int.mul_left_comm 128, ← Int.add_assoc]
    · refine ⟨2, fun k hk => ?_⟩
      (try dsimp only)
      obtain ⟨k, rfl⟩ : ∃ m, k = m + 2 := ⟨k - 2, by omega⟩
      simp only [impl_takeBits.l0, impl_takeBits.j1, tk]
      rw [if_pos (by omega), e0, if_neg (by simpa using hlt), if_neg hlt]; rfl
theorem takeBits_ev (s : ByteArray) (hs : s.size ≤ 1000) (at0 : Int) (h0 : 0 ≤ at0) (h1 : at0 ≤ 9223372036854775807) : Ev (fun k => impl_takeBits.f k s at0) (tkI 0 at0 0 (tk s 5 at0)) := by
  by_cases ha : at0 ≤ 9223372036854775000
  · have := takeBits_l0 s hs at0 h0 ha 5 0 0 rfl (Int.le_refl _) (by decide)
    rw [show at0 + ((0 : Nat) : Int) = at0 from by omega] at this
    exact this
  · refine ⟨2, fun k hk => ?_⟩
    (try dsimp only)
    obtain ⟨k, rfl⟩ : ∃ m, k = m + 2 := ⟨k - 2, by omega⟩
    simp only [impl_takeBits.f, impl_takeBits.l0, impl_takeBits.j1, tk]
    rw [if_pos (by omega), wrap64_id (by omega) (by omega), if_neg (by simp; omega), if_neg (by omega)]; rfl

theorem takeU_ev (s : ByteArray) (hs : s.size ≤ 1000) (a : Int) (h0 : 0 ≤ a) (h1 : a ≤ 9223372036854775807) : Ev (fun k => impl_takeU.f k s a) (tuR s a) := by
  obtain ⟨K, hK⟩ := takeBits_ev s hs a h0 h1
  (try dsimp only at hK)
  refine ⟨K, fun k hk => ?_⟩
  (try dsimp only)
  have hK' := hK k hk
  unfold impl_takeU.f
  cases ht : tk s 5 a with
  | none =>
    rw [ht] at hK'
    simp only [tkI] at hK'
    rw [hK', tuR_none ht]; rfl
  | some p =>
    obtain ⟨v, m⟩ := p
    rw [ht] at hK'
    simp only [tkI] at hK'
    rw [show (0 : Int) + 128 ^ 0 * v = v from by omega, show a + ((0 : Nat) : Int) + m = a + m from by omega] at hK'
    rw [hK', tuR_some ht]
    dsimp only [Option.bind_some]
    rw [if_pos rfl]
    by_cases hv : v ≤ 4294967295
    · rw [if_neg (by omega), if_pos hv]
    · rw [if_pos (by omega), if_neg hv]

theorem iTakeU32_ev (s : ByteArray) (a : Int) (h1 : a ≤ 9223372036854775807) : Ev (fun k => impl_TakeU32.f k s a) (takeU32 s a) := by
  by_cases h : s.size ≤ 1000 ∧ 0 ≤ a
  · obtain ⟨K, hK⟩ := takeU_ev s h.1 a h.2 h1
    (try dsimp only at hK)
    refine ⟨K, fun k hk => ?_⟩
    (try dsimp only)
    unfold impl_TakeU32.f takeU32
    rw [if_neg (by omega), if_neg (by omega), hK k hk, Option.bind_some, if_pos h]
  · refine ⟨0, fun k _ => ?_⟩
    (try dsimp only)
    unfold impl_TakeU32.f takeU32
    rw [if_neg h]
    by_cases h2 : (s.size : Int) > 1000
    · rw [if_pos h2]
    · rw [if_neg h2, if_pos (by omega)]

theorem l1Text_eq (s : ByteArray) (a : Int) : spec_l1Text.f s a = some (decide (s.size ≤ 1000 ∧ 0 ≤ a ∧ a < s.size)) := by
  unfold spec_l1Text.f
  by_cases h : (s.size : Int) ≤ 1000
  · rw [if_pos h]
    by_cases h2 : a ≥ 0
    · rw [if_pos h2]; congr 1; simp only [decide_eq_decide]; omega
    · rw [if_neg h2]; congr 1; symm; simp only [decide_eq_false_iff_not]; omega
  · rw [if_neg h]; congr 1; symm; simp only [decide_eq_false_iff_not]; omega

/-- What the reading loop of the reference answers. -/
def tkS (n at0 : Int) (i : Nat) : Option (Int × Nat) → Int × Int × Int
  | none => (0, 0, 0)
  | some (v, m) => (n + 128 ^ i * v, 7 * ((i : Int) + m), at0 + m)
theorem l1Take_l0 (s : ByteArray) (hs : s.size ≤ 1000) (r : Nat) : ∀ (i : Nat) (at0 n : Int), i + r = 5 → 0 ≤ at0 → at0 ≤ s.size → 0 ≤ n → n < 128 ^ i →
    Ev (fun k => spec_l1Take.l0 k s at0 n (i : Int)) (tkS n at0 i (tk s r at0)) := by
  induction r with
  | zero =>
    intro i at0 n hi h0 h1 hn hn'
    refine ⟨1, fun k hk => ?_⟩
    (try dsimp only)
    obtain ⟨k, rfl⟩ : ∃ m, k = m + 1 := ⟨k - 1, by omega⟩
    simp only [spec_l1Take.l0]
    rw [if_neg (by omega)]; rfl
  | succ r ih =>
    intro i at0 n hi h0 h1 hn hn'
    have hb := bt_range s at0
    by_cases hlt : at0 < (s.size : Int)
    · have e1 : wrap64 (7 * (i : Int)) = 7 * (i : Int) := wrap64_id (by omega) (by omega)
      have e2 : IntKind.u64.wrap (7 * (i : Int)) = 7 * (i : Int) := by simp [IntKind.wrap, IntKind.bits, IntKind.signed]; omega
      have e3 : wrap64 (bt s at0) = bt s at0 := wrap64_id (by omega) (by omega)
      have e4 : wrap64 (at0 + 1) = at0 + 1 := wrap64_id (by omega) (by omega)
      have e5 := or_shl i (by omega) n (bt s at0 % 128) hn hn' (by omega) (by omega)
      by_cases hsm : bt s at0 < 128
      · refine ⟨1, fun k hk => ?_⟩
        (try dsimp only)
        obtain ⟨k, rfl⟩ : ∃ m, k = m + 1 := ⟨k - 1, by omega⟩
        simp only [spec_l1Take.l0, tk]
        rw [if_pos (by omega), if_neg (by omega), if_pos h0, if_pos hlt, e1, e2, if_pos (by omega), e3, if_pos hsm, i64_and127, e5, if_pos hlt, if_pos hsm, e4, wrap64_id (by omega) (by omega)]
        simp only [tkS]
        rw [show bt s at0 % 128 = bt s at0 from by omega, show (7 * (i : Int) + 7) = 7 * ((i : Int) + (1 : Nat)) from by omega]; rfl
      · have hpow : (128 : Int) ^ (i + 1) = 128 * 128 ^ i := by rw [Int.pow_succ]; ac_rfl
        have hq : 0 ≤ (128 : Int) ^ i * (bt s at0 % 128) := Int.mul_nonneg (by omega) (by omega)
        have hq' : (128 : Int) ^ i * (bt s at0 % 128) ≤ 128 ^ i * 127 := Int.mul_le_mul (Int.le_refl _) (by omega) (by omega) (by omega)
        obtain ⟨K, hK⟩ := ih (i + 1) (at0 + 1) (n + 128 ^ i * (bt s at0 % 128)) (by omega) (by omega) (by omega) (by omega) (by rw [hpow]; omega)
        (try dsimp only at hK)
        refine ⟨K + 1, fun k hk => ?_⟩
        (try dsimp only)
        obtain ⟨k, rfl, hk'⟩ := within_lo hk
        simp only [spec_l1Take.l0, tk]
        rw [if_pos (by omega), if_neg (by omega), if_pos h0, if_pos hlt, e1, e2, if_pos (by omega), e3, if_neg hsm, i64_and127, e5, if_pos hlt, if_neg hsm, e4, wrap64_id (by omega) (by omega)]
        have hK' := hK k hk'
        rw [show ((i + 1 : Nat) : Int) = (i : Int) + 1 from by omega] at hK'
        rw [hK']
        cases tk s r (at0 + 1) with
        | none => rfl
        | some p =>
          obtain ⟨v, m⟩ := p
          simp only [tkS, Option.map_some, hpow, Option.some.injEq, Prod.mk.injEq]
          refine ⟨?_, by omega, by omega⟩
          rw [Int.mul_add, Int.mul_assoc, Int.mul_left_comm 128, ← Int.add_assoc]
    · refine ⟨1, fun k hk => ?_⟩
      (try dsimp only)
      obtain ⟨k, rfl⟩ : ∃ m, k = m + 1 := ⟨k - 1, by omega⟩
      simp only [spec_l1Take.l0, tk]
      rw [if_pos (by omega), if_pos (by omega), if_neg hlt]; rfl
theorem l1Take_ev (s : ByteArray) (hs : s.size ≤ 1000) (at0 : Int) (h0 : 0 ≤ at0) (h1 : at0 ≤ s.size) : Ev (fun k => spec_l1Take.f k s at0) (tkS 0 at0 0 (tk s 5 at0)) :=
  l1Take_l0 s hs 5 0 at0 0 rfl h0 h1 (Int.le_refl _) (by decide)

theorem sTakeU32_ev (s : ByteArray) (a : Int) : Ev (fun k => spec_TakeU32.f k s a) (takeU32 s a) := by
  by_cases h : s.size ≤ 1000 ∧ 0 ≤ a ∧ a < s.size
  · obtain ⟨K, hK⟩ := l1Take_ev s h.1 a h.2.1 (by omega)
    (try dsimp only at hK)
    have e : takeU32 s a = tuR s a := by unfold takeU32; rw [if_pos ⟨h.1, h.2.1⟩]
    rw [e]
    refine ⟨K, fun k hk => ?_⟩
    (try dsimp only)
    have hK' := hK k hk
    unfold spec_TakeU32.f
    rw [l1Text_eq, Option.bind_some, if_pos (by simpa using h)]
    cases ht : tk s 5 a with
    | none =>
      rw [ht] at hK'
      simp only [tkS] at hK'
      rw [hK', tuR_none ht]; rfl
    | some p =>
      obtain ⟨v, m⟩ := p
      obtain ⟨q0, _, q2, _, _⟩ := tk_some 5 ht
      rw [ht] at hK'
      simp only [tkS] at hK'
      rw [show (0 : Int) + 128 ^ 0 * v = v from by omega] at hK'
      rw [hK', tuR_some ht]
      dsimp only [Option.bind_some]
      rw [if_neg (by omega), l1U32_eq, Option.bind_some]
      by_cases hv : v ≤ 4294967295
      · rw [if_pos (by simp; omega), if_pos hv]
      · rw [if_neg (by simp; omega), if_neg hv]
  · refine ⟨0, fun k _ => ?_⟩
    (try dsimp only)
    unfold spec_TakeU32.f takeU32
    rw [l1Text_eq, Option.bind_some, if_neg (by simpa using h)]
    by_cases h2 : s.size ≤ 1000 ∧ 0 ≤ a
    · rw [if_pos h2, tuR_none (tk_out 5 (by omega))]
    · rw [if_neg h2]

theorem sTakeVec_l0 (s : ByteArray) (n : Nat) : ∀ (at0 : Int) (p : List Int), p.length + n ≤ 17592186044416 → Ev (fun k => spec_TakeVec.l0 k s at0 (n : Int) p) (tvR ((tvL s n at0).map fun x => (p ++ x.1, x.2))) := by
  induction n with
  | zero =>
    intro at0 p hp
    refine ⟨1, fun k hk => ?_⟩
    (try dsimp only)
    obtain ⟨k, rfl⟩ : ∃ m, k = m + 1 := ⟨k - 1, by omega⟩
    simp only [spec_TakeVec.l0]
    rw [if_neg (by omega)]; simp [tvL, tvR]
  | succ n ih =>
    intro at0 p hp
    obtain ⟨K1, h1⟩ := sTakeU32_ev s at0
    (try dsimp only at h1)
    rcases ht : takeU32 s at0 with ⟨v, e, ok⟩
    rw [ht] at h1
    cases ok with
    | false =>
      refine ⟨K1 + 1, fun k hk => ?_⟩
      (try dsimp only)
      obtain ⟨k, rfl, hk'⟩ := within_lo hk
      simp only [spec_TakeVec.l0, tvL]
      rw [if_pos (by omega), h1 k hk', Option.bind_some, if_neg (by simp), ht, if_neg (by simp)]; rfl
    | true =>
      obtain ⟨K, hK⟩ := ih e (p ++ [v]) (by simp; omega)
      (try dsimp only at hK)
      refine ⟨K + K1 + 1, fun k hk => ?_⟩
      (try dsimp only)
      obtain ⟨k, rfl, hk'⟩ := within_lo hk
      simp only [spec_TakeVec.l0, tvL]
      rw [if_pos (by omega), h1 k (by omega), Option.bind_some, if_pos (by trivial), if_pos (by omega), show wrap64 (((n + 1 : Nat) : Int) - 1) = (n : Int) from by rw [wrap64_id (by omega) (by omega)]; omega, hK k (by omega), ht, if_pos (by trivial)]
      cases tvL s n e with
      | none => rfl
      | some x => simp [tvR]
theorem sTakeVec_ev (s : ByteArray) (a : Int) : Ev (fun k => spec_TakeVec.f k s a) (takeVec s a) := by
  obtain ⟨K1, h1⟩ := sTakeU32_ev s a
  (try dsimp only at h1)
  rcases ht : takeU32 s a with ⟨v, e, ok⟩
  rw [ht] at h1
  unfold takeVec
  rw [ht]
  cases ok with
  | false =>
    refine ⟨K1 + 1, fun k hk => ?_⟩
    (try dsimp only)
    obtain ⟨k, rfl, hk'⟩ := within_lo hk
    unfold spec_TakeVec.f
    simp only [spec_TakeVec.j0]
    rw [h1 _ (by omega), Option.bind_some, if_neg (by simp), if_pos (by trivial), if_neg (by simp)]
  | true =>
    obtain ⟨q1, q2, q3, q4, q5, q6⟩ := takeU32_true ht
    by_cases hv : v ≤ 50
    · obtain ⟨n, rfl⟩ := Int.eq_ofNat_of_zero_le q3
      obtain ⟨K, hK⟩ := sTakeVec_l0 s n e [] (by simp; omega)
      (try dsimp only at hK)
      refine ⟨K1 + K + 1, fun k hk => ?_⟩
      (try dsimp only)
      obtain ⟨k, rfl, hk'⟩ := within_lo hk
      unfold spec_TakeVec.f
      simp only [spec_TakeVec.j0]
      rw [h1 _ (by omega), Option.bind_some, if_pos (by trivial), if_neg (by simp; omega), hK k (by omega), if_pos ⟨by trivial, hv⟩, Int.toNat_natCast]
      cases tvL s n e <;> rfl
    · refine ⟨K1 + 1, fun k hk => ?_⟩
      (try dsimp only)
      obtain ⟨k, rfl, hk'⟩ := within_lo hk
      unfold spec_TakeVec.f
      simp only [spec_TakeVec.j0]
      rw [h1 _ (by omega), Option.bind_some, if_pos (by trivial), if_pos (by simp; omega), if_neg (by omega)]

theorem takeVec_l0 (s : ByteArray) (hs : s.size ≤ 1000) (r : Nat) : ∀ (at0 : Int) (p : List Int), 0 ≤ at0 → at0 ≤ s.size → p.length + r ≤ 100000 →
    Ev (fun k => impl_takeVec.l0 k s at0 (p ++ List.replicate r 0) ((p.length + r : Nat) : Int) (p.length : Int)) (tvR ((tvL s r at0).map fun x => (p ++ x.1, x.2))) := by
  induction r with
  | zero =>
    intro at0 p h0 h1 hp
    refine ⟨1, fun k hk => ?_⟩
    (try dsimp only)
    obtain ⟨k, rfl⟩ : ∃ m, k = m + 1 := ⟨k - 1, by omega⟩
    simp only [impl_takeVec.l0]
    rw [if_neg (by omega)]; simp [tvL, tvR]
  | succ r ih =>
    intro at0 p h0 h1 hp
    obtain ⟨K1, hK1⟩ := takeU_ev s hs at0 h0 (by omega)
    (try dsimp only at hK1)
    have htu : takeU32 s at0 = tuR s at0 := by unfold takeU32; rw [if_pos ⟨hs, h0⟩]
    rw [← htu] at hK1
    rcases ht : takeU32 s at0 with ⟨v, e, ok⟩
    rw [ht] at hK1
    cases ok with
    | false =>
      refine ⟨K1 + 1, fun k hk => ?_⟩
      (try dsimp only)
      obtain ⟨k, rfl, hk'⟩ := within_lo hk
      simp only [impl_takeVec.l0, tvL]
      rw [if_pos (by omega), hK1 k hk', Option.bind_some, if_pos (by omega), if_pos (by simp; omega), if_neg (by simp), ht, if_neg (by simp)]; rfl
    | true =>
      obtain ⟨q1, q2, q3, q4, q5, q6⟩ := takeU32_true ht
      obtain ⟨K, hK⟩ := ih e (p ++ [v]) (by omega) q6 (by simp; omega)
      (try dsimp only at hK)
      refine ⟨K + K1 + 1, fun k hk => ?_⟩
      (try dsimp only)
      obtain ⟨k, rfl, hk'⟩ := within_lo hk
      simp only [impl_takeVec.l0, tvL]
      have hK' := hK k (by omega)
      simp only [List.append_assoc, List.cons_append, List.nil_append] at hK'
      rw [if_pos (by omega), hK1 k (by omega), Option.bind_some, if_pos (by omega), if_pos (by simp; omega), if_pos (by trivial), Int.toNat_natCast, List.replicate_succ, set_mid, wrap64_id (by omega) (by omega),
        show ((p.length : Int) + 1) = ((p ++ [v]).length : Int) from by simp, show ((p.length + (r + 1) : Nat) : Int) = (((p ++ [v]).length + r : Nat) : Int) from by simp; omega, hK', ht, if_pos (by trivial)]
      cases tvL s r e with
      | none => rfl
      | some x => simp [tvR]
theorem takeVeci_ev (s : ByteArray) (hs : s.size ≤ 1000) (a : Int) (h0 : 0 ≤ a) (ha : a ≤ 9223372036854775807) : Ev (fun k => impl_takeVec.f k s a) (takeVec s a) := by
  obtain ⟨K1, h1⟩ := takeU_ev s hs a h0 ha
  (try dsimp only at h1)
  have htu : takeU32 s a = tuR s a := by unfold takeU32; rw [if_pos ⟨hs, h0⟩]
  rw [← htu] at h1
  rcases ht : takeU32 s a with ⟨v, e, ok⟩
  rw [ht] at h1
  unfold takeVec
  rw [ht]
  cases ok with
  | false =>
    refine ⟨K1 + 1, fun k hk => ?_⟩
    (try dsimp only)
    obtain ⟨k, rfl, hk'⟩ := within_lo hk
    unfold impl_takeVec.f
    simp only [impl_takeVec.j0]
    rw [h1 _ (by omega), Option.bind_some, if_neg (by simp), if_pos (by trivial), if_neg (by simp)]
  | true =>
    obtain ⟨q1, q2, q3, q4, q5, q6⟩ := takeU32_true ht
    by_cases hv : v ≤ 50
    · obtain ⟨n, rfl⟩ := Int.eq_ofNat_of_zero_le q3
      obtain ⟨K, hK⟩ := takeVec_l0 s hs n e [] (by omega) q6 (by simp; omega)
      (try dsimp only at hK)
      refine ⟨K1 + K + 1, fun k hk => ?_⟩
      (try dsimp only)
      obtain ⟨k, rfl, hk'⟩ := within_lo hk
      unfold impl_takeVec.f
      simp only [impl_takeVec.j0]
      have hK' := hK k (by omega)
      simp only [List.length_nil, Nat.zero_add, List.nil_append] at hK'
      rw [h1 _ (by omega), Option.bind_some, if_pos (by trivial), if_neg (by simp; omega), if_pos (by omega), if_pos (by omega), Option.bind_some, Int.toNat_natCast, List.length_replicate, if_pos ⟨by trivial, hv⟩]
      refine Eq.trans hK' ?_
      cases tvL s n e <;> rfl
    · refine ⟨K1 + 1, fun k hk => ?_⟩
      (try dsimp only)
      obtain ⟨k, rfl, hk'⟩ := within_lo hk
      unfold impl_takeVec.f
      simp only [impl_takeVec.j0]
      rw [h1 _ (by omega), Option.bind_some, if_pos (by trivial), if_pos (by simp; omega), if_neg (by omega)]

theorem iTakeVec_ev (s : ByteArray) (a : Int) (ha : a ≤ 9223372036854775807) : Ev (fun k => impl_TakeVec.f k s a) (takeVec s a) := by
  by_cases h : s.size ≤ 1000 ∧ 0 ≤ a
  · obtain ⟨K, hK⟩ := takeVeci_ev s h.1 a h.2 ha
    (try dsimp only at hK)
    refine ⟨K, fun k hk => ?_⟩
    (try dsimp only)
    unfold impl_TakeVec.f
    rw [if_neg (by omega), if_neg (by omega), hK k hk, Option.bind_some]
  · refine ⟨0, fun k _ => ?_⟩
    (try dsimp only)
    have ht : takeU32 s a = (0, 0, false) := by unfold takeU32; rw [if_neg h]
    have hv : takeVec s a = ([], 0, false) := by unfold takeVec; rw [ht]; exact if_neg (by simp)
    rw [hv]
    unfold impl_TakeVec.f
    by_cases h2 : (s.size : Int) > 1000
    · rw [if_pos h2]
    · rw [if_neg h2, if_pos (by omega)]

theorem sameInts_l0 (q : List Int) : ∀ p : List Int, p.length + q.length ≤ 1000000000000000 → Ev (fun k => laws_sameInts.l0 k (p ++ q) (p ++ q) ((p ++ q).length : Int) (p.length : Int)) true := by
  induction q with
  | nil =>
    intro p h
    refine Ev.succ ?_
    simp only [laws_sameInts.l0]
    exact Ev.ite_neg (by simp) (Ev.now _)
  | cons x q ih =>
    intro p h
    simp only [List.length_cons] at h
    have hk := ih (p ++ [x]) (by simp; omega)
    simp only [List.append_assoc, List.cons_append, List.nil_append] at hk
    have e1 : wrap64 ((p.length : Int) + 1) = ((p ++ [x]).length : Int) := by
      rw [wrap64_id (by omega) (by omega)]; simp
    refine Ev.succ ?_
    simp only [laws_sameInts.l0]
    refine Ev.ite_pos (by simp; omega) (Ev.ite_pos (by omega) (Ev.ite_pos (by simp; omega) (Ev.ite_pos (by simp; omega) (Ev.ite_pos (by trivial) ?_))))
    rw [e1]; exact hk
theorem sameInts_ev (l : List Int) (h : l.length ≤ 1000000000000000) : Ev (fun k => laws_sameInts.f k l l) true := by
  unfold laws_sameInts.f
  exact Ev.ite_pos (by trivial) (sameInts_l0 l [] (by simpa using h))

theorem takeVec_len (s : ByteArray) (a : Int) : (takeVec s a).1.length ≤ 50 := by
  have key : ∀ (n : Nat) {at0 : Int} {x : List Int × Int}, tvL s n at0 = some x → x.1.length = n := by
    intro n
    induction n with
    | zero => intro at0 x h; simp only [tvL, Option.some.injEq] at h; subst h; rfl
    | succ n ih =>
      intro at0 x h
      simp only [tvL] at h
      split at h
      · cases ht : tvL s n (takeU32 s at0).2.1 with
        | none => rw [ht] at h; simp at h
        | some y => rw [ht] at h; simp only [Option.map_some, Option.some.injEq] at h; subst h; simp [ih ht]
      · simp at h
  unfold takeVec
  split
  · rename_i h
    cases ht : tvL s (takeU32 s a).1.toNat (takeU32 s a).2.1 with
    | none => simp [tvR]
    | some x => simp only [tvR]; rw [key _ ht]; omega
  · simp
theorem drawTakeVec_ev (l : List Int) (hl : ∀ x ∈ l, (Lit.int .u8 x).wf = true) : ∃ t a, Ev (fun k => spec_DrawTakeVec.f k l) (t, a) ∧ a ≤ 65535 := by
  unfold spec_DrawTakeVec.f
  obtain ⟨v, p1, s1, e1, hv, q0, q1⟩ := vec_ev l hl 0 0 (by omega) (by omega)
  have e2 := sPutVec_ev v (by omega)
  obtain ⟨b, p2, s2, e3, r0, r1⟩ := one_some l hl p1 s1 3 (by omega) (by omega)
  have hsz : (putVecR v).1.size ≤ 1000 := by
    by_cases hlen : v.length ≤ 50
    · by_cases hx : ∀ x ∈ v, 0 ≤ x ∧ x ≤ 4294967295
      · rw [putVecR_good hx hlen]
        have h2 := lebU_len 4 v.length (by omega)
        have h3 := flat_len v hx
        dsimp only
        rw [strOfNums_size, List.length_append]
        omega
      · obtain ⟨x, hx1, hx2⟩ : ∃ x, x ∈ v ∧ ¬ (0 ≤ x ∧ x ≤ 4294967295) := by
          apply Classical.byContradiction
          intro hc
          exact hx fun x hxm => Classical.byContradiction fun h => hc ⟨x, hxm, h⟩
        rw [putVecR_bad hx1 hx2]; decide
    · rw [putVecR_long hlen]; decide
  have td : ∀ z : Int, 0 ≤ z → z ≤ 65535 → wrap64 (Int.tdiv z 7) ≤ 65535 := by
    intro z h0 h1
    rw [Int.tdiv_eq_ediv_of_nonneg h0, wrap64_id (by omega) (by omega)]; omega
  cases b with
  | true =>
    obtain ⟨t', p3, s3, e4, _, t0, t1⟩ := spoilt_ev l hl (putVecR v).1 (⟨#[0, 1, 128, 127]⟩ : ByteArray) (by decide) (by decide) p2 s2 (by omega) (by omega) (by omega)
    obtain ⟨c, p4, s4, e5, c0, c1, c2, u0, u1⟩ := pick_some l hl p3 s3 8 (by omega) (by omega)
    exact ⟨_, _, Ev.bind e1 (Ev.bind e2 (Ev.bind (Ev.const e3) (Ev.ite_pos rfl (Ev.bind e4 (Ev.bind (Ev.const e5) (Ev.now _)))))), td _ c0 c2⟩
  | false =>
    obtain ⟨c, p4, s4, e5, c0, c1, c2, u0, u1⟩ := pick_some l hl p2 s2 8 (by omega) (by omega)
    exact ⟨_, _, Ev.bind e1 (Ev.bind e2 (Ev.bind (Ev.const e3) (Ev.ite_neg (by simp) (Ev.bind (Ev.const e5) (Ev.now _))))), td _ c0 c2⟩
theorem vecs_j3 (l : List Int) (hl : ∀ x ∈ l, (Lit.int .u8 x).wf = true) : Ev (fun k => laws_FnVecs.j3 k l) true := by
  obtain ⟨t, a, e1, ha⟩ := drawTakeVec_ev l hl
  refine Ev.succ ?_
  simp only [laws_FnVecs.j3]
  refine Ev.bind e1 (Ev.bind (iTakeVec_ev t a (by omega)) (Ev.bind (sTakeVec_ev t a) (Ev.ite_pos (by simp) (Ev.ite_pos (by trivial) ?_))))
  exact Ev.bind (sameInts_ev _ (by have := takeVec_len t a; omega)) (Ev.now _)
theorem drawPad_some (l : List Int) (hl : ∀ x ∈ l, (Lit.int .u8 x).wf = true) : ∃ n m, spec_DrawPadU32.f l = some (n, m) := by
  unfold spec_DrawPadU32.f
  obtain ⟨v, p1, s1, e1, q0, q1⟩ := u32_some l hl 0 0 (by omega) (by omega)
  obtain ⟨c, p2, s2, e2, _, _, _, _, _⟩ := pick_some l hl p1 s1 7 (by omega) (by omega)
  rw [e1, Option.bind_some]
  dsimp only
  rw [e2]
  exact ⟨_, _, rfl⟩
theorem vecs_j1 (l0 l1 : List Int) (hl0 : ∀ x ∈ l0, (Lit.int .u8 x).wf = true) (hl1 : ∀ x ∈ l1, (Lit.int .u8 x).wf = true) : Ev (fun k => laws_FnVecs.j1 k l0 l1) true := by
  obtain ⟨n, m, e1⟩ := drawPad_some l0 hl0
  refine Ev.succ ?_
  simp only [laws_FnVecs.j1]
  refine Ev.bind (Ev.const e1) (Ev.bind (iPad_ev n m) (Ev.bind (sPad_ev n m) (Ev.ite_neg (by simp) ?_)))
  rw [bne_self_eq_false]
  dsimp only
  refine Ev.succ ?_
  simp only [laws_FnVecs.j2]
  refine Ev.ite_neg (by simp) ?_
  by_cases h : (0 ≤ n ∧ n ≤ 4294967295) ∧ ((lebU n.toNat).length : Int) ≤ m ∧ m ≤ 5
  · have hp := lebU_pos n.toNat
    have hlt := lebU_lt n.toNat
    obtain ⟨j, hj⟩ : ∃ j : Nat, m = ((j + 1 : Nat) : Int) := ⟨m.toNat - 1, by omega⟩
    have hlt2 : n.toNat < 128 ^ (j + 1) := Nat.lt_of_lt_of_le hlt (Nat.pow_le_pow_right (by omega) (by omega))
    have ht := take_lebP [] [] n.toNat j hlt2 (by omega) (by omega) (by simp) (by simp) (by simp)
    rw [List.nil_append, List.append_nil, show (([] : List Int).length : Int) = 0 from rfl] at ht
    have hi := iTakeU32_ev (strOfNums (lebP (j + 1) n.toNat)) 0 (by omega)
    rw [ht] at hi
    unfold padR
    rw [if_pos h, hj, Int.toNat_natCast]
    refine Ev.ite_pos rfl (Ev.bind hi (Ev.ite_pos rfl (Ev.ite_pos (by dsimp only; omega) (Ev.ite_pos (by dsimp only; omega) (Ev.ite_pos (by dsimp only; rw [strOfNums_size, lebP_length]) (vecs_j3 l1 hl1))))))
  · unfold padR
    rw [if_neg h]
    exact Ev.ite_neg (by simp) (vecs_j3 l1 hl1)
theorem FnVecs : laws_FnVecs.Pure := by
  intro l0 l1 _ _ hl0 _ _ hl1
  refine Ev.rounds (g := fun k => laws_FnVecs.f k l0 l1) ?_
  have J1 := vecs_j1 l0 l1 hl0 hl1
  unfold laws_FnVecs.f
  by_cases hbig : wrap64 ((l0.length : Int) + (l1.length : Int)) > 1048576
  · exact Ev.ite_pos hbig (Ev.now _)
  refine Ev.ite_neg hbig ?_
  have hd : ∃ v, Ev (fun k => spec_DrawPutVec.f k l0) v ∧ v.length ≤ 51 := by
    unfold spec_DrawPutVec.f
    obtain ⟨v, p1, s1, e1, hv, q0, q1⟩ := vec_ev l0 hl0 0 0 (by omega) (by omega)
    exact ⟨v, Ev.bind e1 (Ev.now _), hv⟩
  obtain ⟨v, e1, hv⟩ := hd
  refine Ev.bind e1 (Ev.bind (iPutVec_ev v (by omega)) (Ev.bind (sPutVec_ev v (by omega)) (Ev.ite_neg (by simp) ?_)))
  rw [bne_self_eq_false]
  refine Ev.succ ?_
  simp only [laws_FnVecs.j0]
  refine Ev.ite_neg (by simp) ?_
  by_cases hlen : v.length ≤ 50
  · by_cases hx : ∀ x ∈ v, 0 ≤ x ∧ x ≤ 4294967295
    · rw [putVecR_good hx hlen]
      have hi := iTakeVec_ev (strOfNums (lebU v.length ++ v.flatMap fun x => lebU x.toNat)) 0 (by omega)
      rw [takeVec_put v hx hlen] at hi
      exact Ev.ite_pos rfl (Ev.bind hi (Ev.ite_pos rfl (Ev.ite_pos (by trivial) (Ev.bind (sameInts_ev v (by omega)) (Ev.ite_pos rfl J1)))))
    · obtain ⟨x, hx1, hx2⟩ : ∃ x, x ∈ v ∧ ¬ (0 ≤ x ∧ x ≤ 4294967295) := by
        apply Classical.byContradiction
        intro hc
        exact hx fun x hxm => Classical.byContradiction fun h => hc ⟨x, hxm, h⟩
      rw [putVecR_bad hx1 hx2]
      exact Ev.ite_neg (by simp) J1
  · rw [putVecR_long hlen]
    exact Ev.ite_neg (by simp) J1

end Go.Proofs.Ytofokedphkmfnaa.Pure
