/- spec.IsUtf8 tells of every text what utf8.ValidString tells. -/
import Derived.Test.YtcfhpjfkmjlkjaaDoorLib1
import Derived.Test.YtcfhpjfkmjlkjaaDoorPFnExactIsUtf8x1
import Derived.Lib.ValidLaws
namespace Go.Proofs.YtcfhpjfkmjlkjaaDoor.UPlain
open Go.RowKit Go.Proofs.YtcfhpjfkmjlkjaaDoor.Lib Go.Proofs.YtcfhpjfkmjlkjaaDoor.PFnExactIsUtf8 Go.Proofs.YtcfhpjfkmjlkjaaDoorW.PrintWords Go.Proofs.YtcfhpjfkmjlkjaaDoorW.PrintLast
/-- The byte at a place. -/
def by_ (s : ByteArray) (i : Nat) : Nat := (s.data.toList.getD i 0).toNat
theorem by_lt (s : ByteArray) (i : Nat) : by_ s i < 256 := UInt8.toNat_lt _
theorem bt_by (s : ByteArray) (i : Nat) : bt s (i : Int) = (by_ s i : Int) := by
  unfold bt by_
  by_cases h : i < s.size
  · have h' : i < s.data.toList.length := by rw [data_length]; exact h
    rw [dif_pos (by simpa using h)]
    simp only [Int.toNat_natCast]
    have e : s[i]'h = s.data.toList[i]'h' := rfl
    rw [e]
    simp [List.getD_eq_getElem?_getD, List.getElem?_eq_getElem h']
  · rw [dif_neg (by simpa using h)]
    have h' : s.data.toList.length ≤ i := by rw [data_length]; omega
    simp [List.getD_eq_getElem?_getD, List.getElem?_eq_none h']
theorem and192 : ∀ X : Fin 256, (Go.bits .and .u8 ((X.val : Nat) : Int) 192 = 128) = (X.val / 64 = 2) := by
  intro X
  have key : ∀ X : Fin 256, decide (Go.bits .and .u8 ((X.val : Nat) : Int) 192 = 128) = decide (X.val / 64 = 2) := by decide +kernel
  have := key X
  simpa using this
theorem and63 : ∀ X : Fin 256, Go.bits .and .u8 ((X.val : Nat) : Int) 63 = ((X.val % 64 : Nat) : Int) := by decide +kernel
theorem and7 : ∀ X : Fin 256, Go.bits .and .i64 ((X.val : Nat) : Int) 7 = ((X.val % 8 : Nat) : Int) := by decide +kernel
theorem and15 : ∀ X : Fin 256, Go.bits .and .i64 ((X.val : Nat) : Int) 15 = ((X.val % 16 : Nat) : Int) := by decide +kernel
theorem and31 : ∀ X : Fin 256, Go.bits .and .i64 ((X.val : Nat) : Int) 31 = ((X.val % 32 : Nat) : Int) := by decide +kernel
theorem or64 (a b : Nat) (ha : a < 1099511627776) (hb : b < 64) : Go.bits .or .i64 ((a : Int) * 64) (b : Int) = ((a * 64 + b : Nat) : Int) := by
  have hk : ∀ n : Int, 0 ≤ n → n < 2 ^ 63 → IntKind.i64.wrap n = n := fun n h h' => by rw [IntKind.wrap_i64]; omega
  rw [bits_join .i64 63 (by decide) hk 6 ((a : Int) * 64) (b : Int) (by omega) (by omega) (by omega) (by omega) (by omega) (by omega)]
  omega
/-- The bytes that follow. -/
def tl (s : ByteArray) : Nat → Nat → Nat → Option (Nat × Nat)
  | 0, n, i => some (n, i)
  | m + 1, n, i => if i < s.size ∧ by_ s i / 64 = 2 then tl s m (n * 64 + by_ s i % 64) (i + 1) else none
def good (n least : Nat) : Prop := least ≤ n ∧ n ≤ 1114111 ∧ ¬ (55296 ≤ n ∧ n ≤ 57343)
theorem l1_ev (s : ByteArray) (hs : s.size ≤ 1048576) (least : Nat) (r : Bool) (m : Nat) : ∀ (n i : Nat), m ≤ 3 → n < 64 ^ (4 - m) → i ≤ s.size →
    (match tl s m n i with
     | none => r = false
     | some (n', i') => (¬ good n' least → r = false) ∧ (good n' least → Ev (fun k => spec_IsUtf8.l0 k s (i' : Int)) r)) →
    Ev (fun k => spec_IsUtf8.l1 k s (i : Int) (m : Int) (n : Int) (least : Int)) r := by
  induction m with
  | zero =>
    intro n i _ hn hi h
    simp only [tl] at h
    refine Ev.succ ?_
    simp only [spec_IsUtf8.l1]
    refine Ev.ite_neg (by omega) ?_
    by_cases h1 : n < least
    · rw [h.1 (fun hg => by have := hg.1; omega)]
      exact Ev.ite_pos (by omega) (Ev.now _)
    · refine Ev.ite_neg (by omega) ?_
      by_cases h2 : n > 1114111
      · rw [h.1 (fun hg => by have := hg.2.1; omega)]
        exact Ev.ite_pos (by omega) (Ev.now _)
      · refine Ev.ite_neg (by omega) ?_
        have hin : spec_l1In.f (n : Int) 55296 57343 = some (decide (55296 ≤ n ∧ n ≤ 57343)) := by
          unfold spec_l1In.f
          by_cases h3 : (n : Int) ≥ 55296
          · rw [if_pos h3]; congr 1; rw [decide_eq_decide]; omega
          · rw [if_neg h3]; congr 1; symm; rw [decide_eq_false_iff_not]; omega
        rw [hin]
        simp only [Option.bind_some]
        by_cases h3 : 55296 ≤ n ∧ n ≤ 57343
        · rw [h.1 (fun hg => hg.2.2 h3)]
          exact Ev.ite_pos (by simpa using h3) (Ev.now _)
        · refine Ev.ite_neg (by simpa using h3) ?_
          exact h.2 ⟨by omega, by omega, h3⟩
  | succ m ih =>
    intro n i hm hn hi h
    refine Ev.succ ?_
    simp only [spec_IsUtf8.l1]
    refine Ev.ite_pos (by omega) ?_
    by_cases hc : i < s.size
    · refine Ev.ite_neg (by omega) (Ev.ite_pos (by omega) (Ev.ite_pos (by omega) ?_))
      have hb := by_lt s i
      rw [bt_by]
      have a1 := and192 ⟨by_ s i, hb⟩
      have a2 := and63 ⟨by_ s i, hb⟩
      simp only at a1 a2
      by_cases hd : by_ s i / 64 = 2
      · refine Ev.ite_pos (by rw [a1]; exact hd) ?_
        simp only [tl] at h
        rw [if_pos ⟨hc, hd⟩] at h
        have hn2 : n < 1099511627776 / 64 := by
          have : (64 : Nat) ^ (4 - (m + 1)) ≤ 64 ^ 3 := Nat.pow_le_pow_right (by omega) (by omega)
          omega
        have hpow : n * 64 + by_ s i % 64 < 64 ^ (4 - m) := by
          have e : 4 - m = (4 - (m + 1)) + 1 := by omega
          rw [e, Nat.pow_succ]; omega
        have := ih (n * 64 + by_ s i % 64) (i + 1) (by omega) hpow (by omega) h
        rw [a2, wrap64_id (x := (n : Int) * 64) (by omega) (by omega), wrap64_id (x := ((by_ s i % 64 : Nat) : Int)) (by omega) (by omega), or64 n _ (by omega) (by omega),
          wrap64_id (x := (i : Int) + 1) (by omega) (by omega), wrap64_id (x := ((m + 1 : Nat) : Int) - 1) (by omega) (by omega)]
        rw [show (i : Int) + 1 = ((i + 1 : Nat) : Int) from by omega, show ((m + 1 : Nat) : Int) - 1 = (m : Int) from by omega]
        exact this
      · simp only [tl] at h
        rw [if_neg (fun hx => hd hx.2)] at h
        rw [h]
        exact Ev.ite_neg (by rw [a1]; exact hd) (Ev.now _)
    · simp only [tl] at h
      rw [if_neg (fun hx => hc hx.1)] at h
      rw [h]
      exact Ev.ite_pos (by omega) (Ev.now _)
/-- What utf8.ValidString tells from a place on. -/
def V (s : ByteArray) (i : Nat) : Bool := Go.Lib.validD (s.data.toList.drop i)
theorem V_end (s : ByteArray) (i : Nat) (h : s.size ≤ i) : V s i = true := by
  unfold V
  rw [List.drop_eq_nil_of_le (by rw [data_length]; exact h)]; rfl
theorem V_step (s : ByteArray) (i : Nat) (h : i < s.size) (c m : Nat) (hd : Go.Lib.decodeN (s.size - i) (by_ s i) (by_ s (i + 1)) (by_ s (i + 2)) (by_ s (i + 3)) = (c, m)) :
    V s i = if c = 65533 ∧ m = 1 then false else V s (i + m) := by
  unfold V
  have hne : s.data.toList.drop i ≠ [] := by
    intro e
    have := congrArg List.length e
    rw [List.length_drop, data_length] at this
    simp at this; omega
  have e1 : Go.Lib.decodeL (s.data.toList.drop i) = (c, m) := by
    rw [Go.Lib.decodeL_drop, Go.Lib.decode_N, data_length]; exact hd
  rw [Go.Lib.validD_step _ hne, e1, List.drop_drop]
theorem isUtf8_l0 (s : ByteArray) (hs : s.size ≤ 1048576) (d : Nat) : ∀ i : Nat, s.size ≤ i + d → i ≤ s.size → Ev (fun k => spec_IsUtf8.l0 k s (i : Int)) (V s i) := by
  induction d with
  | zero =>
    intro i h1 h2
    refine Ev.succ ?_
    simp only [spec_IsUtf8.l0]
    rw [V_end s i (by omega)]
    exact Ev.ite_neg (by omega) (Ev.now _)
  | succ d ih =>
    intro i h1 h2
    by_cases hi : i < s.size
    · have hb := by_lt s i
      have h7 := and7 ⟨by_ s i, hb⟩
      have h15 := and15 ⟨by_ s i, hb⟩
      have h31 := and31 ⟨by_ s i, hb⟩
      simp only at h7 h15 h31
      replace h7 := Aside0.mk h7
      replace h15 := Aside0.mk h15
      replace h31 := Aside0.mk h31
      have hst := Aside0.mk (V_step s i hi)
      have eb0 : wrap64 (bt s (i : Int)) = (by_ s i : Int) := by rw [bt_by, wrap64_id (by omega) (by omega)]
      have ei0 : wrap64 ((i : Int) + 1) = ((i + 1 : Nat) : Int) := by rw [wrap64_id (by omega) (by omega)]; omega
      have eb := Aside0.mk eb0
      have ei := Aside0.mk ei0
      clear eb0 ei0
      -- a place behind, told by its bytes
      have go : ∀ (m n least : Nat), m ≤ 3 → n < 64 ^ (4 - m) → (match tl s m n (i + 1) with
          | none => V s i = false
          | some (n', i') => (¬ good n' least → V s i = false) ∧ (good n' least → V s i = V s i' ∧ i < i' ∧ i' ≤ s.size)) →
          Ev (fun k => spec_IsUtf8.j4 k s (i : Int) (m : Int) (n : Int) (least : Int)) (V s i) := by
        intro m n least hm hn h
        refine Ev.succ ?_
        simp only [spec_IsUtf8.j4]
        rw [ei.out]
        refine l1_ev s hs least (V s i) m n (i + 1) hm hn (by omega) ?_
        cases ht : tl s m n (i + 1) with
        | none => rw [ht] at h; exact h
        | some p =>
          obtain ⟨n', i'⟩ := p
          rw [ht] at h
          refine ⟨h.1, fun hg => ?_⟩
          obtain ⟨e1, e2, e3⟩ := h.2 hg
          rw [e1]
          exact ih i' (by omega) e3
      refine Ev.succ ?_
      simp only [spec_IsUtf8.l0]
      refine Ev.ite_pos (by omega) (Ev.ite_pos (by omega) ?_)
      rw [eb.out]
      by_cases c1 : 240 ≤ by_ s i
      · refine Ev.ite_pos (by omega) (Ev.succ ?_)
        simp only [spec_IsUtf8.j1]
        by_cases c2 : by_ s i < 248
        · refine Ev.ite_pos (by simp; omega) ?_
          rw [h7.out]
          refine go 3 (by_ s i % 8) 65536 (by omega) (by simp; omega) ?_
          simp only [tl, Nat.add_assoc, Nat.reduceAdd]
          by_cases q1 : i + 1 < s.size ∧ by_ s (i + 1) / 64 = 2
          · rw [if_pos q1]
            by_cases q2 : i + 2 < s.size ∧ by_ s (i + 2) / 64 = 2
            · rw [if_pos q2]
              by_cases q3 : i + 3 < s.size ∧ by_ s (i + 3) / 64 = 2
              · rw [if_pos q3]
                have e : ((by_ s i % 8 * 64 + by_ s (i + 1) % 64) * 64 + by_ s (i + 2) % 64) * 64 + by_ s (i + 3) % 64 = by_ s i % 8 * 262144 + by_ s (i + 1) % 64 * 4096 + by_ s (i + 2) % 64 * 64 + by_ s (i + 3) % 64 := by omega
                rw [e]
                refine ⟨fun hg => ?_, fun hg => ?_⟩
                · have := hst.out 65533 1 (by
                    unfold Go.Lib.decodeN
                    rw [if_neg (by omega), if_neg (by omega), if_neg (by omega), if_pos ⟨by omega, ⟨by omega, q1.2⟩, ⟨by omega, q2.2⟩, by omega, q3.2⟩, if_neg]
                    intro hc; exact hg ⟨by omega, by omega, by omega⟩)
                  rw [this, if_pos ⟨rfl, rfl⟩]
                · have hg1 := hg.1
                  have hg2 := hg.2.1
                  have hg3 := hg.2.2
                  have := hst.out (by_ s i % 8 * 262144 + by_ s (i + 1) % 64 * 4096 + by_ s (i + 2) % 64 * 64 + by_ s (i + 3) % 64) 4 (by
                    unfold Go.Lib.decodeN
                    rw [if_neg (by omega), if_neg (by omega), if_neg (by omega), if_pos ⟨by omega, ⟨by omega, q1.2⟩, ⟨by omega, q2.2⟩, by omega, q3.2⟩, if_pos ⟨by omega, by omega⟩])
                  rw [this, if_neg (by omega)]
                  exact ⟨rfl, by omega, by omega⟩
              · rw [if_neg q3]
                have := hst.out 65533 1 (by
                  unfold Go.Lib.decodeN
                  rw [if_neg (by omega), if_neg (by omega), if_neg (by omega), if_neg (fun hc => q3 ⟨by omega, hc.2.2.2.2⟩)])
                show V s i = false
                rw [this, if_pos ⟨rfl, rfl⟩]
            · rw [if_neg q2]
              have := hst.out 65533 1 (by
                unfold Go.Lib.decodeN
                rw [if_neg (by omega), if_neg (by omega), if_neg (by omega), if_neg (fun hc => q2 ⟨by omega, hc.2.2.1.2⟩)])
              show V s i = false
              rw [this, if_pos ⟨rfl, rfl⟩]
          · rw [if_neg q1]
            have := hst.out 65533 1 (by
              unfold Go.Lib.decodeN
              rw [if_neg (by omega), if_neg (by omega), if_neg (by omega), if_neg (fun hc => q1 ⟨by omega, hc.2.1.2⟩)])
            show V s i = false
            rw [this, if_pos ⟨rfl, rfl⟩]
        · refine Ev.ite_neg (by simp; omega) (Ev.ite_pos (by omega) (Ev.succ ?_))
          simp only [spec_IsUtf8.j2]
          refine Ev.ite_neg (by simp; omega) (Ev.ite_pos (by omega) (Ev.succ ?_))
          simp only [spec_IsUtf8.j3]
          refine Ev.ite_neg (by simp; omega) (Ev.ite_pos (by omega) (Ev.some ?_))
          have := hst.out 65533 1 (by
            unfold Go.Lib.decodeN
            rw [if_neg (by omega), if_neg (by omega), if_neg (by omega), if_neg (by omega)])
          rw [this, if_pos ⟨rfl, rfl⟩]
      · refine Ev.ite_neg (by omega) (Ev.succ ?_)
        simp only [spec_IsUtf8.j1]
        refine Ev.ite_neg (by simp) ?_
        by_cases c2 : 224 ≤ by_ s i
        · refine Ev.ite_pos (by omega) (Ev.succ ?_)
          simp only [spec_IsUtf8.j2]
          refine Ev.ite_pos (by simp; omega) ?_
          rw [h15.out]
          refine go 2 (by_ s i % 16) 2048 (by omega) (by simp; omega) ?_
          simp only [tl, Nat.add_assoc, Nat.reduceAdd]
          by_cases q1 : i + 1 < s.size ∧ by_ s (i + 1) / 64 = 2
          · rw [if_pos q1]
            by_cases q2 : i + 2 < s.size ∧ by_ s (i + 2) / 64 = 2
            · rw [if_pos q2]
              have e : (by_ s i % 16 * 64 + by_ s (i + 1) % 64) * 64 + by_ s (i + 2) % 64 = by_ s i % 16 * 4096 + by_ s (i + 1) % 64 * 64 + by_ s (i + 2) % 64 := by omega
              rw [e]
              refine ⟨fun hg => ?_, fun hg => ?_⟩
              · have := hst.out 65533 1 (by
                  unfold Go.Lib.decodeN
                  rw [if_neg (by omega), if_neg (by omega), if_pos ⟨by omega, ⟨by omega, q1.2⟩, by omega, q2.2⟩, if_neg]
                  intro hc; exact hg ⟨by omega, by omega, by omega⟩)
                rw [this, if_pos ⟨rfl, rfl⟩]
              · have hg1 := hg.1
                have hg3 := hg.2.2
                have := hst.out (by_ s i % 16 * 4096 + by_ s (i + 1) % 64 * 64 + by_ s (i + 2) % 64) 3 (by
                  unfold Go.Lib.decodeN
                  rw [if_neg (by omega), if_neg (by omega), if_pos ⟨by omega, ⟨by omega, q1.2⟩, by omega, q2.2⟩, if_pos ⟨by omega, by omega⟩])
                rw [this, if_neg (by omega)]
                exact ⟨rfl, by omega, by omega⟩
            · rw [if_neg q2]
              have := hst.out 65533 1 (by
                unfold Go.Lib.decodeN
                rw [if_neg (by omega), if_neg (by omega), if_neg (fun hc => q2 ⟨by omega, hc.2.2.2⟩), if_neg (by omega)])
              show V s i = false
              rw [this, if_pos ⟨rfl, rfl⟩]
          · rw [if_neg q1]
            have := hst.out 65533 1 (by
              unfold Go.Lib.decodeN
              rw [if_neg (by omega), if_neg (by omega), if_neg (fun hc => q1 ⟨by omega, hc.2.1.2⟩), if_neg (by omega)])
            show V s i = false
            rw [this, if_pos ⟨rfl, rfl⟩]
        · refine Ev.ite_neg (by omega) (Ev.succ ?_)
          simp only [spec_IsUtf8.j2]
          refine Ev.ite_neg (by simp) ?_
          by_cases c3 : 192 ≤ by_ s i
          · refine Ev.ite_pos (by omega) (Ev.succ ?_)
            simp only [spec_IsUtf8.j3]
            refine Ev.ite_pos (by simp; omega) ?_
            rw [h31.out]
            refine go 1 (by_ s i % 32) 128 (by omega) (by simp; omega) ?_
            simp only [tl]
            by_cases q1 : i + 1 < s.size ∧ by_ s (i + 1) / 64 = 2
            · rw [if_pos q1]
              have hn2 : by_ s i % 32 * 64 + by_ s (i + 1) % 64 ≤ 2047 := by omega
              refine ⟨fun hg => ?_, fun hg => ?_⟩
              · have := hst.out 65533 1 (by
                  unfold Go.Lib.decodeN
                  rw [if_neg (by omega), if_pos ⟨by omega, by omega, q1.2⟩, if_neg]
                  intro hc; exact hg ⟨by omega, by omega, by omega⟩)
                rw [this, if_pos ⟨rfl, rfl⟩]
              · have := hst.out (by_ s i % 32 * 64 + by_ s (i + 1) % 64) 2 (by
                  unfold Go.Lib.decodeN
                  rw [if_neg (by omega), if_pos ⟨by omega, by omega, q1.2⟩, if_pos (by have := hg.1; omega)])
                rw [this, if_neg (by omega)]
                exact ⟨rfl, by omega, by omega⟩
            · rw [if_neg q1]
              have := hst.out 65533 1 (by
                unfold Go.Lib.decodeN
                rw [if_neg (by omega), if_neg (fun hc => q1 ⟨by omega, hc.2.2⟩), if_neg (by omega), if_neg (by omega)])
              show V s i = false
              rw [this, if_pos ⟨rfl, rfl⟩]
          · refine Ev.ite_neg (by omega) (Ev.succ ?_)
            simp only [spec_IsUtf8.j3]
            refine Ev.ite_neg (by simp) ?_
            by_cases c4 : 128 ≤ by_ s i
            · refine Ev.ite_pos (by omega) (Ev.some ?_)
              have := hst.out 65533 1 (by
                unfold Go.Lib.decodeN
                rw [if_neg (by omega), if_neg (by omega), if_neg (by omega), if_neg (by omega)])
              rw [this, if_pos ⟨rfl, rfl⟩]
            · refine Ev.ite_neg (by omega) (go 0 (by_ s i) 0 (by omega) (by simp; omega) ?_)
              simp only [tl]
              have := hst.out (by_ s i) 1 (by unfold Go.Lib.decodeN; rw [if_pos (by omega)])
              rw [if_neg (by omega)] at this
              exact ⟨fun hg => absurd ⟨by omega, by omega, by omega⟩ hg, fun _ => ⟨this, by omega, by omega⟩⟩
    · refine Ev.succ ?_
      simp only [spec_IsUtf8.l0]
      rw [V_end s i (by omega)]
      exact Ev.ite_neg (by omega) (Ev.now _)
theorem isUtf8_all (s : ByteArray) (hs : s.size ≤ 1048576) : ∃ k, spec_IsUtf8.f k s = some (Go.Lib.validD s.data.toList) := by
  refine Ev.rounds (g := fun k => spec_IsUtf8.f k s) ?_
  have := isUtf8_l0 s hs s.size 0 (by omega) (by omega)
  unfold V at this
  rw [List.drop_zero] at this
  exact this
end Go.Proofs.YtcfhpjfkmjlkjaaDoor.UPlain
