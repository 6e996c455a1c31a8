-- WRITTEN BY A PROGRAM OF THIS SESSION
import Derived.Test.YtbagmhcdhemopaaQ0
import Derived.Test.YtbagmhcdhemopaaQ1
import Derived.Test.YtbagmhcdhemopaaQ2
import Derived.Test.YtbagmhcdhemopaaQ4
import Derived.Test.YtbagmhcdhemopaaQ5
import Derived.Test.YtbagmhcdhemopaaQ7
namespace Go.Proofs.Ytbagmhcdhemopaa.Q
open Go.RowKit Go.Proofs.YtbagmhcdhemopaaW.PrintWords Go.Proofs.YtbagmhcdhemopaaW.PrintLast Go.Proofs.YtbagmhcdhemopaaW.PrintMore
attribute [local go_sem] max2_int min2_int max_two min_two max_three min_three max_four min_four   -- for this text's walks alone
set_option linter.unusedVariables false
set_option linter.unusedSimpArgs false

/-! ### impl_SplitNode: function 34 (by hand: an element's row is handed to what writes it) -/
def impl_SplitNode.g (k : Nat) (g : List (List Int)) (a1 a2 : Int) : Option (List (List Int) × Bool) := (impl_graphOf.f k g).bind fun x => (if x.length < 5864062014805 then (if 0 ≤ a1 then (if a1 < (g.length : Int) then ((slices_Clone_int_int.f (g.getD a1.toNat [])).bind fun y => (if a2 < ((x ++ [y]).length : Int) then ((slices_Index_int_int.f k ((x ++ [y]).getD a2.toNat []) a1).bind fun at_ => (if 0 ≤ at_ then (if at_ < (((x ++ [y]).getD a2.toNat []).length : Int) then (if ((x ++ [y]).getD a2.toNat []).length < 17592186044416 then ((impl_GoodGraph.f k ((x ++ [y]).set a2.toNat (((x ++ [y]).getD a2.toNat []).take at_.toNat ++ ((x ++ [y]).getD a2.toNat []).drop (at_.toNat + 1) ++ [(g.length : Int)]))).bind fun b => (if b = true then some ((x ++ [y]).set a2.toNat (((x ++ [y]).getD a2.toNat []).take at_.toNat ++ ((x ++ [y]).getD a2.toNat []).drop (at_.toNat + 1) ++ [(g.length : Int)]), true) else some ([], false))) else none) else none) else none)) else none)) else none) else none) else none)
def impl_SplitNode.f (k : Nat) (g : List (List Int)) (a1 a2 : Int) : Option (List (List Int) × Bool) := (impl_GoodGraph.f k g).bind fun b => (if b = true then ((impl_within.f a2 0 (wrap64 ((g.length : Int) - 1))).bind fun c => (if c = true then (if a1 = 0 then some ([], false) else (if 0 ≤ a2 then (if a2 < (g.length : Int) then ((slices_Contains_int_int.f k (g.getD a2.toNat []) a1).bind fun d => (if d = true then (impl_SplitNode.g k g a1 a2) else some ([], false))) else none) else none)) else some ([], false))) else some ([], false))
theorem impl_SplitNode.mono_g : ∀ a0 a1 a2 k, LeO (impl_SplitNode.g k a0 a1 a2) (impl_SplitNode.g (k + 1) a0 a1 a2) := by
  intro a0 a1 a2 k
  unfold impl_SplitNode.g
  repeat' first
    | (with_reducible exact impl_graphOf.mono _ _)
    | (with_reducible exact slices_Index_int_int.mono _ _ _)
    | (with_reducible exact impl_GoodGraph.mono _ _)
    | (with_reducible exact LeO.refl _)
    | (with_reducible exact LeO.none _)
    | (with_reducible refine LeO.ite ?_ ?_)
    | (with_reducible refine LeO.bind ?_ (fun _ => ?_))
theorem impl_SplitNode.mono : ∀ a0 a1 a2 k, LeO (impl_SplitNode.f k a0 a1 a2) (impl_SplitNode.f (k + 1) a0 a1 a2) := by
  intro a0 a1 a2 k
  unfold impl_SplitNode.f
  repeat' first
    | (with_reducible exact impl_SplitNode.mono_g _ _ _ _)
    | (with_reducible exact slices_Contains_int_int.mono _ _ _)
    | (with_reducible exact impl_GoodGraph.mono _ _)
    | (with_reducible exact LeO.refl _)
    | (with_reducible exact LeO.none _)
    | (with_reducible refine LeO.ite ?_ ?_)
    | (with_reducible refine LeO.bind ?_ (fun _ => ?_))
theorem delete_callsN (P0_ : Nat → Prop) (g cap : Nat) (xs : List Int) (i : Nat) (w0 w : World) (hB : Below w0.heap.size w0 w) (ho0 : Kd.R (Kd.int .i64) 3 w w0.heap.size P0_ (.slice (some ⟨g, 0, none⟩) xs.length cap) xs) (hi : i < xs.length) :
    Calls Try.prog 65 #[.slice (some ⟨g, 0, none⟩) xs.length cap, .int .i64 (i : Int), .int .i64 ((i : Int) + 1)] w fun e w' => e = .returned (.slice (some ⟨g, 0, none⟩) (xs.take i ++ xs.drop (i + 1)).length cap) ∧ Kd.R (Kd.int .i64) 3 w' w0.heap.size P0_ (.slice (some ⟨g, 0, none⟩) (xs.take i ++ xs.drop (i + 1)).length cap) (xs.take i ++ xs.drop (i + 1)) ∧ Below w0.heap.size w0 w' ∧ Kept w w' (fun k_ => k_ = g) := delete_calls P0_ g cap xs i w0 w hB ho0 hi
/-- The variables g and the result's, in their boxes. -/
structure SNBox (w W : World) (A0 : Option Addr) (n c : Nat) : Prop where
  below : Below w.heap.size w W
  gbox : W.heap[w.heap.size]? = some (.cells #[.slice A0 n c] 27 (0, 0))
  zbox : W.heap[w.heap.size + 1]? = some (.cells #[.slice none 0 0] 27 (0, 0))
theorem SNBox.step {w W W' : World} {A0 : Option Addr} {n c : Nat} (h : SNBox w W A0 n c) (hb : Below W.heap.size W W') : SNBox w W' A0 n c := ⟨below_step h.below hb, blk_below h.gbox hb, blk_below h.zbox hb⟩
theorem SNBox.drew {w W : World} {A0 : Option Addr} {n c : Nat} (h : SNBox w W A0 n c) (m : Nat) : SNBox w (W.drewN m) A0 n c := h.step (pw_below_drewN (Below.refl _ _) m)
theorem SNBox.grow {w W W' : World} {A0 : Option Addr} {n c : Nat} {row : Option Nat} (h : SNBox w W A0 n c) (hb : Below w.heap.size w W') (hg : W.grownBy W' row) (h1 : some w.heap.size ≠ row) (h2 : some (w.heap.size + 1) ≠ row) : SNBox w W' A0 n c := ⟨hb, blk_grown h.gbox hg h1, blk_grown h.zbox hg h2⟩
theorem SNBox.put {w W : World} {A0 : Option Addr} {n c g : Nat} {v : Value} (h : SNBox w W A0 n c) (hg : w.heap.size + 1 < g) : SNBox w (W.setCell ⟨g, 0, none⟩ v) A0 n c := ⟨below_set h.below (by omega), blk_far h.gbox (by show w.heap.size ≠ g; omega) _, blk_far h.zbox (by show w.heap.size + 1 ≠ g; omega) _⟩
theorem SNBox.first (w : World) (A0 : Option Addr) (n c : Nat) : SNBox w ((w.alloc (.cells #[.slice A0 n c] 27)).alloc (.cells #[.slice none 0 0] 27)) A0 n c := by
  refine ⟨by repeat (first | exact Below.refl _ _ | apply below_alloc), blk_alloc (heap_alloc_new w _) _, ?_⟩
  have h := heap_alloc_new (w.alloc (.cells #[.slice A0 n c] 27)) (.cells #[.slice none 0 0] 27)
  rwa [show (w.alloc (.cells #[.slice A0 n c] 27)).heap.size = w.heap.size + 1 by simp] at h
set_option maxHeartbeats 8000000 in
set_option maxRecDepth 100000 in
theorem impl_SplitNode.calls (k : Nat) (A0_0 : Option Addr) (c0_0 : Nat) (l0_0 : List (List Int)) (a1 a2 : Int) (r1 : List (List Int)) (r2 : Bool) (w : World) (hr0_0 : Kd.C (Kd.slice 3 (Kd.int .i64)) w A0_0 l0_0.length l0_0) (hc0_0 : l0_0.length ≤ c0_0) (h : impl_SplitNode.f k l0_0 a1 a2 = some (r1, r2)) :
    Calls Try.prog 34 #[.agg #[.slice A0_0 l0_0.length c0_0], .int .i64 a1, .int .i64 a2] w fun e w' => ∃ v0_ : Value, e = .returned (.tuple #[.agg #[v0_], .bool r2]) ∧ Kd.S (Kd.slice 3 (Kd.int .i64)) 31 w' w.heap.size (fun _ => True) v0_ r1 ∧ Below w.heap.size w w' := by
  have hu27 := Try.underlying27
  have HR0 := Aside0.mk hr0_0
  have HC0 := Aside0.mk hc0_0
  have HB0 := Aside0.mk (SNBox.first w A0_0 l0_0.length c0_0)
  clear hr0_0 hc0_0
  unfold impl_SplitNode.f at h
  obtain ⟨b, A1, H⟩ := Option.bind_eq_some_iff.mp h
  have A := Aside0.mk A1
  clear h A1
  cases b with
  | false =>
    rw [if_neg (by decide)] at H
    simp only [Option.some.injEq, Prod.mk.injEq] at H
    obtain ⟨rfl, rfl⟩ := H
    go_enter Try.func34, Try.ntmps34
    go_wp2_with (first | (go_at_call 14; (refine (impl_GoodGraph.calls k _ _ l0_0 false _ (Kd.C_below HR0.out HB0.out.below) HC0.out A.out).mono ?_); rintro e w2 ⟨rfl, hb⟩; have HB2 := Aside0.mk (HB0.out.step hb); have hz2 : w2.cell? ⟨w.heap.size + 1, 0, none⟩ = some (.slice none 0 0) := (blk_cell HB2.out.zbox 0).trans rfl; have hzf2 : w2.frozen? ⟨w.heap.size + 1, 0, none⟩ = false := blk_frozen HB2.out.zbox 0; have hg2 : w2.cell? ⟨w.heap.size, 0, none⟩ = some (.slice A0_0 l0_0.length c0_0) := (blk_cell HB2.out.gbox 0).trans rfl; clear hb))
    refine bodyPost_ret (results_ct rfl _ _ (w.heap.size + 1) 27 #[.slice none 0 0] (0, 0) _ rfl (by first | exact blk_put HB2.out.zbox 0 _ rfl | exact blk_put (blk_drewN HB2.out.zbox _) 0 _ rfl) Try.underlying27 rfl (by kernel_rfl)) rfl ?_
    exact ⟨_, rfl, Kd.S_nil _ _ _ _ _, below_set (by repeat (first | exact HB2.out.below | apply pw_below_drewN)) (by omega)⟩

  | true =>
    rw [if_pos rfl] at H
    obtain ⟨c, A2, H⟩ := Option.bind_eq_some_iff.mp H
    have A2 := Aside0.mk A2
    cases c with
    | false =>
      rw [if_neg (by decide)] at H
      simp only [Option.some.injEq, Prod.mk.injEq] at H
      obtain ⟨rfl, rfl⟩ := H
      go_enter Try.func34, Try.ntmps34
      go_wp2_with (first | (go_at_call 14; (refine (impl_GoodGraph.calls k _ _ l0_0 true _ (Kd.C_below HR0.out HB0.out.below) HC0.out A.out).mono ?_); rintro e w2 ⟨rfl, hb⟩; have HB2 := Aside0.mk (HB0.out.step hb); have hz2 : w2.cell? ⟨w.heap.size + 1, 0, none⟩ = some (.slice none 0 0) := (blk_cell HB2.out.zbox 0).trans rfl; have hzf2 : w2.frozen? ⟨w.heap.size + 1, 0, none⟩ = false := blk_frozen HB2.out.zbox 0; have hg2 : w2.cell? ⟨w.heap.size, 0, none⟩ = some (.slice A0_0 l0_0.length c0_0) := (blk_cell HB2.out.gbox 0).trans rfl; clear hb) | (go_at_call 43; refine (impl_within.calls a2 0 _ false _ A2.out).mono ?_; rintro e w3 ⟨rfl, ⟨nd3, rfl⟩⟩))
      refine bodyPost_ret (results_ct rfl _ _ (w.heap.size + 1) 27 #[.slice none 0 0] (0, 0) _ rfl (by first | exact blk_put HB2.out.zbox 0 _ rfl | exact blk_put (blk_drewN HB2.out.zbox _) 0 _ rfl) Try.underlying27 rfl (by kernel_rfl)) rfl ?_
      exact ⟨_, rfl, Kd.S_nil _ _ _ _ _, below_set (by repeat (first | exact HB2.out.below | apply pw_below_drewN)) (by omega)⟩

    | true =>
      rw [if_pos rfl] at H
      by_cases c1 : a1 = 0
      · rw [if_pos c1] at H
        simp only [Option.some.injEq, Prod.mk.injEq] at H
        obtain ⟨rfl, rfl⟩ := H
        have c1b : (a1 == 0) = true := by simpa using c1
        clear c1
        go_enter Try.func34, Try.ntmps34
        go_wp2_with (first | (go_at_call 14; (refine (impl_GoodGraph.calls k _ _ l0_0 true _ (Kd.C_below HR0.out HB0.out.below) HC0.out A.out).mono ?_); rintro e w2 ⟨rfl, hb⟩; have HB2 := Aside0.mk (HB0.out.step hb); have hz2 : w2.cell? ⟨w.heap.size + 1, 0, none⟩ = some (.slice none 0 0) := (blk_cell HB2.out.zbox 0).trans rfl; have hzf2 : w2.frozen? ⟨w.heap.size + 1, 0, none⟩ = false := blk_frozen HB2.out.zbox 0; have hg2 : w2.cell? ⟨w.heap.size, 0, none⟩ = some (.slice A0_0 l0_0.length c0_0) := (blk_cell HB2.out.gbox 0).trans rfl; clear hb) | (go_at_call 43; refine (impl_within.calls a2 0 _ true _ A2.out).mono ?_; rintro e w3 ⟨rfl, ⟨nd3, rfl⟩⟩))
        refine bodyPost_ret (results_ct rfl _ _ (w.heap.size + 1) 27 #[.slice none 0 0] (0, 0) _ rfl (by first | exact blk_put HB2.out.zbox 0 _ rfl | exact blk_put (blk_drewN HB2.out.zbox _) 0 _ rfl) Try.underlying27 rfl (by kernel_rfl)) rfl ?_
        exact ⟨_, rfl, Kd.S_nil _ _ _ _ _, below_set (by repeat (first | exact HB2.out.below | apply pw_below_drewN)) (by omega)⟩

      · rw [if_neg c1] at H
        have c1b : (a1 == 0) = false := by simpa using c1
        by_cases c2 : 0 ≤ a2
        rotate_left
        · rw [if_neg c2] at H; exact absurd H (by simp)
        rw [if_pos c2] at H
        by_cases c3 : a2 < (l0_0.length : Int)
        rotate_left
        · rw [if_neg c3] at H; exact absurd H (by simp)
        rw [if_pos c3] at H
        obtain ⟨ad, AL, cL, eA, hx0, hl0, hi0⟩ := at_row HR0.out a2 c2 c3
        obtain ⟨row, hrow⟩ : ∃ row, row = l0_0.getD a2.toNat [] := ⟨_, rfl⟩
        rw [← hrow] at hx0 hl0 hi0 H
        cases eA
        have HRW := Aside0.mk hi0
        have HRL := Aside0.mk hl0
        obtain ⟨d, A3, H⟩ := Option.bind_eq_some_iff.mp H
        have A3 := Aside0.mk A3
        have p2 := eq_true c2
        have p3 := eq_true c3
        have HX0 := Aside0.mk hx0
        have HC2 := Aside0.mk c2
        clear c1 hi0 hl0 hx0 hrow
        cases d with
        | false =>
          rw [if_neg (by decide)] at H
          simp only [Option.some.injEq, Prod.mk.injEq] at H
          obtain ⟨rfl, rfl⟩ := H
          clear c2 c3
          go_enter Try.func34, Try.ntmps34
          go_wp2_with (first | (go_at_call 14; (refine (impl_GoodGraph.calls k _ _ l0_0 true _ (Kd.C_below HR0.out HB0.out.below) HC0.out A.out).mono ?_); rintro e w2 ⟨rfl, hb⟩; have HB2 := Aside0.mk (HB0.out.step hb); have hz2 : w2.cell? ⟨w.heap.size + 1, 0, none⟩ = some (.slice none 0 0) := (blk_cell HB2.out.zbox 0).trans rfl; have hzf2 : w2.frozen? ⟨w.heap.size + 1, 0, none⟩ = false := blk_frozen HB2.out.zbox 0; have hg2 : w2.cell? ⟨w.heap.size, 0, none⟩ = some (.slice (some ad) l0_0.length c0_0) := (blk_cell HB2.out.gbox 0).trans rfl; have hr2 : w2.cell? (ad.add a2.toNat) = some (.slice AL row.length cL) := pw_cell_below HB2.out.below HX0.out; clear hb) | (go_at_call 43; refine (impl_within.calls a2 0 _ true _ A2.out).mono ?_; rintro e w3 ⟨rfl, ⟨nd3, rfl⟩⟩) | (go_at_call 61; refine (slices_Contains_int_int.calls k AL cL row a1 false _ (by repeat (first | exact (Kd.C_below HRW.out HB2.out.below) | apply Kd.C_drewN | apply Kd.C_drew)) HRL.out A3.out).mono ?_; rintro e w4 ⟨rfl, ⟨nd4, rfl⟩⟩))
          refine bodyPost_ret (results_ct rfl _ _ (w.heap.size + 1) 27 #[.slice none 0 0] (0, 0) _ rfl (by first | exact blk_put HB2.out.zbox 0 _ rfl | exact blk_put (blk_drewN HB2.out.zbox _) 0 _ rfl) Try.underlying27 rfl (by kernel_rfl)) rfl ?_
          exact ⟨_, rfl, Kd.S_nil _ _ _ _ _, below_set (by repeat (first | exact HB2.out.below | apply pw_below_drewN)) (by omega)⟩

        | true =>
          rw [if_pos rfl] at H
          unfold impl_SplitNode.g at H
          obtain ⟨x, A4, H⟩ := Option.bind_eq_some_iff.mp H
          have A4 := Aside0.mk A4
          clear c2 c3
          go_enter Try.func34, Try.ntmps34
          go_upto_region 4 with (first | (go_at_call 14; (refine (impl_GoodGraph.calls k _ _ l0_0 true _ (Kd.C_below HR0.out HB0.out.below) HC0.out A.out).mono ?_); rintro e w2 ⟨rfl, hb⟩; have HB2 := Aside0.mk (HB0.out.step hb); have hz2 : w2.cell? ⟨w.heap.size + 1, 0, none⟩ = some (.slice none 0 0) := (blk_cell HB2.out.zbox 0).trans rfl; have hzf2 : w2.frozen? ⟨w.heap.size + 1, 0, none⟩ = false := blk_frozen HB2.out.zbox 0; have hg2 : w2.cell? ⟨w.heap.size, 0, none⟩ = some (.slice (some ad) l0_0.length c0_0) := (blk_cell HB2.out.gbox 0).trans rfl; have hr2 : w2.cell? (ad.add a2.toNat) = some (.slice AL row.length cL) := pw_cell_below HB2.out.below HX0.out; clear hb) | (go_at_call 43; refine (impl_within.calls a2 0 _ true _ A2.out).mono ?_; rintro e w3 ⟨rfl, ⟨nd3, rfl⟩⟩) | (go_at_call 61; refine (slices_Contains_int_int.calls k AL cL row a1 true _ (by repeat (first | exact (Kd.C_below HRW.out HB2.out.below) | apply Kd.C_drewN | apply Kd.C_drew)) HRL.out A3.out).mono ?_; rintro e w4 ⟨rfl, ⟨nd4, rfl⟩⟩) | (go_at_call 62; refine (impl_graphOf.calls k _ _ l0_0 x _ (by repeat (first | exact (Kd.C_below HR0.out HB2.out.below) | apply Kd.C_drewN | apply Kd.C_drew)) HC0.out A4.out).mono ?_; rintro e w5 ⟨vx, rfl, ho, hb⟩; have HB5 := Aside0.mk ((HB2.out.drew _).step hb); have HS5 := Aside0.mk (Kd.S_lower ho (by exact HB2.out.below.size) : Kd.S (Kd.slice 3 (Kd.int .i64)) 31 w5 w.heap.size (fun _ => True) vx x); clear ho hb; obtain ⟨Ax, cx, ex⟩ := Kd.S_slice HS5.out; subst ex))
          have HB6 := Aside0.mk (HB5.out.step (below_alloc (Below.refl _ _) (.cells #[.slice Ax x.length cx] 27)))
          have HO6 := Aside0.mk (heap_alloc_new w5 (.cells #[.slice Ax x.length cx] 27))
          have HS6 := Aside0.mk (Kd.S_below HS5.out (below_alloc (Below.refl _ _) (.cells #[.slice Ax x.length cx] 27)))
          by_cases e1 : x.length < 5864062014805
          rotate_left
          · rw [if_neg e1] at H; exact absurd H (by simp)
          rw [if_pos e1] at H
          by_cases e2 : 0 ≤ a1
          rotate_left
          · rw [if_neg e2] at H; exact absurd H (by simp)
          rw [if_pos e2] at H
          by_cases e3 : a1 < (l0_0.length : Int)
          rotate_left
          · rw [if_neg e3] at H; exact absurd H (by simp)
          rw [if_pos e3] at H
          obtain ⟨y, A5, H⟩ := Option.bind_eq_some_iff.mp H
          have A5 := Aside0.mk A5
          obtain ⟨ad2, AK, cK, eA2, hx0, hl0, hi0⟩ := at_row HR0.out a1 e2 e3
          obtain ⟨row2, hrow2⟩ : ∃ row2, row2 = l0_0.getD a1.toNat [] := ⟨_, rfl⟩
          rw [← hrow2] at hx0 hl0 hi0 A5
          cases eA2
          have HRW2 := Aside0.mk hi0
          have HRL2 := Aside0.mk hl0
          have hr6 := pw_cell_below HB6.out.below hx0
          have hg6 := ((blk_cell HB6.out.gbox 0).trans rfl : _ = some (Value.slice (some ad) l0_0.length c0_0))
          have ho6 := ((blk_cell HO6.out 0).trans rfl : _ = some (Value.slice Ax x.length cx))
          have hof6 := blk_frozen HO6.out 0
          have HG8 := Aside0.mk (blk_lt HB5.out.zbox)
          have p5 := eq_true e2
          have p6 := eq_true e3
          have HL1 := Aside0.mk e1
          clear hi0 hl0 hx0 hrow2 e1 e2 e3
          go_cut [8] (fun v8 wc => ∃ (v49 : Value), v8 = .pointer (some ⟨w5.heap.size, 0, none⟩) ∧ Aside0 (SNBox w wc (some ad) l0_0.length c0_0) ∧ Aside0 (wc.heap[w5.heap.size]? = some (.cells #[v49] 27 (0, 0))) ∧ Aside0 (Kd.S (Kd.slice 3 (Kd.int .i64)) 31 wc w.heap.size (fun _ => True) v49 (x ++ [y])))
          case first =>
            go_region_law (first | (go_simp; go_at_call 63; refine (slices_Clone_int_int.calls AK cK row2 y _ (by repeat (first | exact (Kd.C_below HRW2.out HB6.out.below) | apply Kd.C_drew | apply Kd.C_drewN)) HRL2.out A5.out).mono ?_; rintro e w7 ⟨vy, rfl, hoy, hb7⟩; obtain ⟨Ay, cy, ey⟩ := Kd.R_slice hoy; subst ey; have hb7w : Below (w5.alloc (.cells #[.slice Ax x.length cx] 27)).heap.size (w5.alloc (.cells #[.slice Ax x.length cx] 27)) w7 := (by first | exact below_step (below_drew (Below.refl _ _)) hb7 | exact hb7); have ho7 : w7.cell? ⟨w5.heap.size, 0, none⟩ = some (.slice Ax x.length cx) := pw_cell_below hb7w ho6; have hof7 : w7.frozen? ⟨w5.heap.size, 0, none⟩ = false := (frozen_below hb7w (World.block_lt_of_cell? _ _ ho6)).trans hof6; have HB7 := Aside0.mk (HB6.out.step hb7w); have HO7 := Aside0.mk (blk_below HO6.out hb7w); have HS7 := Aside0.mk (Kd.S_elder' HS6.out (Kd.R_base hoy) hb7w); have ho7a := pw_cell_below (below_alloc (Below.refl w7.heap.size w7) (.cells #[.slice Ay y.length cy] 31)) ho7; have HP7 := Aside0.mk (Kd.M_row (Kd.R_tight rfl (Kd.R_lower hoy (by first | exact HB6.out.below.size | exact Nat.le_trans HB6.out.below.size (Nat.le_refl _))))); have HK7 := Aside0.mk (show ∀ k_, some k_ = (.slice Ay y.length cy : Value).ownBlock → True ∧ some k_ ≠ (.slice Ax x.length cx : Value).ownBlock from fun k_ hk_ => ⟨trivial, fun e_ => by have q1 := Kd.R_base hoy k_ hk_.symm; have q2 := Kd.S_lt HS6.out k_ e_.symm; have q3 : k_ < (w5.alloc (.cells #[.slice Ax x.length cx] 27)).heap.size := q2; simp at q1 q3; omega⟩)) | (refine Kd.S_append_step (Kd.slice 3 (Kd.int .i64)) (w0 := w) w.heap.size (by rfl) (.tmp 41) (.tmp 48) 22 31 (.slice none 0 0) 24 rfl Try.underlying22 (by kernel_rfl) rfl (by decide) (by omega) (.slice Ax x.length cx) x y [.slice Ay y.length cy] (fun _ => True) (fun k_ => some k_ = (.slice Ay y.length cy : Value).ownBlock) rfl rfl ?aP ?aK ?aF ?aO ?aB ?aS ?aL ?_; (case aP => exact HP7.out); (case aK => exact HK7.out); (case aF => exact fun _ _ => trivial); (case aO => exact Kd.S_mono HS7.out (fun k_ hk_ => hk_)); (case aB => exact HB7.out.below); (case aS => exact HB7.out.below.size); (case aL => have := HL1.out; omega); intro v49 w9 ho9 hb9 hg9 hat9; obtain ⟨Av, cv, ev⟩ := Kd.S_slice ho9; rw [List.length_append, List.length_singleton] at ev; subst ev; have HS9 := Aside0.mk ho9; have HB9 := Aside0.mk (SNBox.grow HB7.out hb9 hg9 (Kd.S_ne HS7.out HB7.out.gbox (by decide)) (Kd.S_ne HS7.out HB7.out.zbox (by decide))); have g9 := blk_grown HO7.out hg9 (Kd.S_ne HS7.out HO7.out (by decide)); have HO9 := Aside0.mk g9; have ho9 : w9.cell? ⟨w5.heap.size, 0, none⟩ = some (.slice Ax x.length cx) := (blk_cell g9 0).trans rfl; have hof9 : w9.frozen? ⟨w5.heap.size, 0, none⟩ = false := blk_frozen g9 0; clear hb9 hg9 hat9 g9))
            all_goals go_wp2
            all_goals go_meet
            all_goals exact ⟨_, rfl, ⟨HB9.out.put HG8.out⟩, ⟨blk_put HO9.out 0 _ rfl⟩, ⟨Kd.S_mono (Kd.S_far (p := ⟨w5.heap.size, 0, none⟩) (Kd.S_types HS9.out HO9.out (by decide)) (fun k_ hk_ => hk_.2) _) (fun _ _ => trivial)⟩⟩
          case rest =>
            obtain ⟨v49, rfl, HB, HO, HS⟩ := hcut
            obtain ⟨Av, cv, ev⟩ := Kd.S_slice HS.out
            subst ev
            obtain ⟨z, hz⟩ : ∃ z, z = x ++ [y] := ⟨_, rfl⟩
            rw [← hz] at H HS HO
            clear A5 A4 HS5 HS6 HB6 HO6 hr6 hg6 ho6 hof6 HRW2 HRL2 hz
            by_cases e1 : a2 < (z.length : Int)
            rotate_left
            · rw [if_neg e1] at H; exact absurd H (by simp)
            rw [if_pos e1] at H
            have HSF := Kd.S_mono (ok' := fun k_ => ¬ (k_ = w.heap.size ∨ k_ = w.heap.size + 1 ∨ k_ = w5.heap.size)) (Kd.S_types (Kd.S_types (Kd.S_types HS.out HB.out.gbox (by decide)) HB.out.zbox (by decide)) HO.out (by decide)) (fun k_ hk_ h_ => by rcases h_ with h_ | h_ | h_; exact hk_.1.1.2 h_; exact hk_.1.2 h_; exact hk_.2 h_)
            obtain ⟨gz, oki, ve, hgz, hx2, hf2, hR, hoki, hPg, hbg, hH⟩ := S_row HSF a2 HC2.out e1
            subst hgz
            obtain ⟨row3, hrow3⟩ : ∃ row3, row3 = z.getD a2.toNat [] := ⟨_, rfl⟩
            rw [← hrow3] at H hR
            obtain ⟨at_, A6, H⟩ := Option.bind_eq_some_iff.mp H
            have A6 := Aside0.mk A6
            by_cases e2 : 0 ≤ at_
            rotate_left
            · rw [if_neg e2] at H; exact absurd H (by simp)
            rw [if_pos e2] at H
            by_cases e3 : at_ < (row3.length : Int)
            rotate_left
            · rw [if_neg e3] at H; exact absurd H (by simp)
            rw [if_pos e3] at H
            by_cases e4 : row3.length < 17592186044416
            rotate_left
            · rw [if_neg e4] at H; exact absurd H (by simp)
            rw [if_pos e4] at H
            obtain ⟨i, rfl⟩ : ∃ i : Nat, at_ = (i : Int) := ⟨at_.toNat, by omega⟩
            rw [Int.toNat_natCast] at H
            obtain ⟨g3, c3', rfl, hb3, hl3, _⟩ := Kd.R_form hR (by omega)
            obtain ⟨row4, hrow4⟩ : ∃ row4, row4 = row3.take i ++ row3.drop (i + 1) := ⟨_, rfl⟩
            rw [← hrow4] at H
            have ho3 : oki g3 := hR.1 g3 (by simp [Value.ownBlock])
            have hF3 : ¬ (g3 = w.heap.size ∨ g3 = w.heap.size + 1 ∨ g3 = w5.heap.size) := hH.1 g3 ho3
            have hgz3 : gz ≠ g3 := fun e_ => (hoki g3 ho3).2 e_.symm
            have HWR := Aside0.mk (show IntKind.i64.wrap ((i : Int) + 1) = (i : Int) + 1 by rw [i64_w]; unfold wrap64; omega)
            have HE3 := Aside0.mk e3
            have HE4 := Aside0.mk e4
            have HR := Aside0.mk hR
            have HH := Aside0.mk hH
            have HK := Aside0.mk hoki
            have HP := Aside0.mk hPg
            have HBG := Aside0.mk hbg
            have HR4 := Aside0.mk hrow4
            have HF3 := Aside0.mk hF3
            have HGZ := Aside0.mk hgz3
            have HO3 := Aside0.mk ho3
            have HG3 := Aside0.mk (Kd.R_lt HR.out g3 (by simp [Value.ownBlock]))
            have HE1 := Aside0.mk e1
            have p7 := eq_true e1
            have hob := ((blk_cell HO.out 0).trans rfl : _ = some (Value.slice (some ⟨gz, 0, none⟩) z.length cv))
            have hgb := ((blk_cell HB.out.gbox 0).trans rfl : _ = some (Value.slice (some ad) l0_0.length c0_0))
            clear e1 e2 e3 e4 hR hH hoki hPg hbg hrow4 hF3 hgz3 ho3 hrow3 HSF HS hb3 hl3
            have hPgn : ¬ (gz = w.heap.size ∨ gz = w.heap.size + 1 ∨ gz = w5.heap.size) := HP.out
            go_upto_region 6 with (go_at_call 64; refine (slices_Index_int_int.calls k _ _ row3 a1 (i : Int) _ (by repeat (first | exact (Kd.R_reads' HR.out).2.2 | apply Kd.C_drewN | apply Kd.C_drew)) (R_cap HR.out) A6.out).mono ?_; rintro e w6 ⟨rfl, ⟨nd6, rfl⟩⟩)
            have HPG := Aside0.mk hPgn
            clear hPgn
            have hx2A := pw_cell_below (show Below wc.heap.size wc ((wc.drewN (nd6 + 1)).alloc (.cells #[.int .i64 (l0_0.length : Int)] 3)) from below_alloc (pw_below_drewN (Below.refl _ _) (nd6 + 1)) _) hx2
            go_cut [8] (fun v8 wd => v8 = .pointer (some ⟨w5.heap.size, 0, none⟩) ∧ Aside0 (SNBox w wd (some ad) l0_0.length c0_0) ∧ Aside0 (wd.heap[w5.heap.size]? = some (.cells #[.slice (some ⟨gz, 0, none⟩) z.length cv] 27 (0, 0))) ∧ Aside0 (Kd.S (Kd.slice 3 (Kd.int .i64)) 31 wd w.heap.size (fun k_ => ¬ (k_ = w.heap.size ∨ k_ = w.heap.size + 1 ∨ k_ = w5.heap.size)) (.slice (some ⟨gz, 0, none⟩) z.length cv) (z.set a2.toNat (row4 ++ [(l0_0.length : Int)]))))
            case first =>
              rw [laterOp_load 31 (.tmp 64)]
              go_region_held3 (fun w' => w'.cell? ⟨w5.heap.size, 0, none⟩ = some (.slice (some ⟨gz, 0, none⟩) z.length cv) ∧ w'.cell? ⟨w.heap.size, 0, none⟩ = some (.slice (some ad) l0_0.length c0_0)) ((refine ⟨?_, ?_⟩ <;> (first | assumption | exact hob | exact hgb | (refine pw_cell_below (below_alloc (Below.refl _ _) _) ?_; assumption) | (refine pw_cell_below (below_alloc (Below.refl _ _) _) ?_; first | exact hob | exact hgb) | (refine (cell_far ?_ _).trans ?_; rotate_left; assumption; first | exact fun e_ => HPG.out (.inl e_.symm) | exact fun e_ => HPG.out (.inr (.inr e_.symm)))))) ((first | (refine Kd.R_append_step (Kd.int .i64) (w0 := w) w.heap.size (by rfl) (.tmp 69) (.tmp 73) 31 3 (.int .i64 0) 8 rfl Try.underlying31 (by kernel_rfl) rfl (by decide) (by omega) (.slice (some ⟨g3, 0, none⟩) row4.length c3') row4 (l0_0.length : Int) [.int .i64 (l0_0.length : Int)] (fun k_ => oki k_ ∨ wc.heap.size ≤ k_) (fun _ => False) rfl rfl ?aP (fun _ hk => hk.elim) ?aF ?aO ?aB ?aS ?aL ?_; (case aP => exact rfl); (case aF => exact fun k_ hk_ => .inr (Nat.le_trans hkw.1 hk_)); (case aO => exact Kd.R_mono hr8 (fun k_ h_ => .inl h_)); (case aB => exact hb8); (case aS => exact hb8.size); (case aL => have := HE4.out; have h4 : row4.length ≤ row3.length := (by rw [HR4.out]; simp; omega); omega); intro v74 w10 ho10 hb10 hg10 hat10; have hk10 : Kept wc w10 oki := Kept.of_grown hg10 (Kept.mono hkw (fun k_ e_ => e_ ▸ HO3.out)) (fun k_ e_ => .inl (by have e2 : g3 = k_ := (by simpa [Value.ownBlock] using e_); exact e2 ▸ HO3.out)); obtain ⟨Aw, cw, ew⟩ := Kd.R_slice ho10; rw [List.length_append, List.length_singleton] at ew; subst ew; have hup := S_upd (F := fun k_ => (k_ = w.heap.size ∨ k_ = w.heap.size + 1 ∨ k_ = w5.heap.size)) HH.out HC2.out HE1.out HP.out (fun k_ h_ => by have q1 := blk_lt HB.out.gbox; have q2 := blk_lt HB.out.zbox; have q3 := blk_lt HO.out; omega) hk10 ho10; have HU := Aside0.mk hup; have HB10 := Aside0.mk hb10; have hob10 : w10.cell? ⟨w5.heap.size, 0, none⟩ = some (.slice (some ⟨gz, 0, none⟩) z.length cv) := cell_kept hob hk10 (fun h_ => HH.out.1 _ h_ (.inr (.inr rfl))); have hgb10 : w10.cell? ⟨w.heap.size, 0, none⟩ = some (.slice (some ad) l0_0.length c0_0) := cell_kept hgb hk10 (fun h_ => HH.out.1 _ h_ (.inl rfl)); have hx10 : w10.cell? ⟨gz, a2.toNat, none⟩ = some (.slice (some ⟨g3, 0, none⟩) row3.length c3') := cell_kept hx2 hk10 (fun h_ => (HK.out gz h_).2 rfl); have hf10 : w10.frozen? ⟨gz, a2.toNat, none⟩ = false := (frozen_kept hk10 (fun h_ => (HK.out gz h_).2 rfl) (World.block_lt_of_cell? wc _ hx2)).trans hf2; clear ho10 hg10 hat10 hk10 hup hb10) | (refine Kd.R_append_rows_step (Kd.int .i64) (Rr := fun x cs => cs = [Value.int .i64 x]) (w0 := w) w.heap.size (by rfl) (.tmp 69) (.tmp 73) 31 3 (.int .i64 0) 8 rfl Try.underlying31 (by kernel_rfl) rfl (by decide) (by omega) (.slice (some ⟨g3, 0, none⟩) row4.length c3') row4 [(l0_0.length : Int)] _ _ _ (fun k_ => oki k_ ∨ wc.heap.size ≤ k_) (fun _ => False) rfl rfl ?aO ?aR (fun _ _ h => h) (fun _ hk => hk.elim) ?aF ?aB ?aS ?aL ?_; (case aR => exact HC8.out); (case aF => exact fun k_ hk_ => .inr (Nat.le_trans hkw.1 hk_)); (case aO => exact Kd.R_mono hr8 (fun k_ h_ => .inl h_)); (case aB => exact hb8); (case aS => exact hb8.size); (case aL => have := HE4.out; have h4 : row4.length ≤ row3.length := (by rw [HR4.out]; simp; omega); (try simp only [List.length_singleton]); omega); intro v74 w10 ho10 hb10 hg10 hat10; have hk10 : Kept wc w10 oki := Kept.of_grown hg10 (Kept.mono hkw (fun k_ e_ => e_ ▸ HO3.out)) (fun k_ e_ => .inl (by have e2 : g3 = k_ := (by simpa [Value.ownBlock] using e_); exact e2 ▸ HO3.out)); obtain ⟨Aw, cw, ew⟩ := Kd.R_slice ho10; rw [List.length_append, List.length_singleton] at ew; subst ew; have hup := S_upd (F := fun k_ => (k_ = w.heap.size ∨ k_ = w.heap.size + 1 ∨ k_ = w5.heap.size)) HH.out HC2.out HE1.out HP.out (fun k_ h_ => by have q1 := blk_lt HB.out.gbox; have q2 := blk_lt HB.out.zbox; have q3 := blk_lt HO.out; omega) hk10 ho10; have HU := Aside0.mk hup; have HB10 := Aside0.mk hb10; have hob10 : w10.cell? ⟨w5.heap.size, 0, none⟩ = some (.slice (some ⟨gz, 0, none⟩) z.length cv) := cell_kept hob hk10 (fun h_ => HH.out.1 _ h_ (.inr (.inr rfl))); have hgb10 : w10.cell? ⟨w.heap.size, 0, none⟩ = some (.slice (some ad) l0_0.length c0_0) := cell_kept hgb hk10 (fun h_ => HH.out.1 _ h_ (.inl rfl)); have hx10 : w10.cell? ⟨gz, a2.toNat, none⟩ = some (.slice (some ⟨g3, 0, none⟩) row3.length c3') := cell_kept hx2 hk10 (fun h_ => (HK.out gz h_).2 rfl); have hf10 : w10.frozen? ⟨gz, a2.toNat, none⟩ = false := (frozen_kept hk10 (fun h_ => (HK.out gz h_).2 rfl) (World.block_lt_of_cell? wc _ hx2)).trans hf2; clear ho10 hg10 hat10 hk10 hup hb10) | (go_simp; go_at_call 65; rw [HWR.out]; refine (delete_callsN oki g3 c3' row3 i w _ (by repeat (with_reducible (first | exact HB.out.below | apply pw_below_drewN | apply below_drew1 | apply below_alloc))) (by repeat (with_reducible (first | exact HR.out | apply Kd.R_drewN | apply Kd.R_drew | apply Kd.R_alloc))) (by have := HE3.out; omega)).mono ?_; rintro e w8 ⟨rfl, hr8, hb8, hk8⟩; rw [← HR4.out] at hr8; rw [← HR4.out]; (try have HC8 := Aside0.mk (C_lit1_kept 3 (l0_0.length : Int) hk8 (by intro e_; have q1 := HG3.out; simp at e_; omega))); have hkw : Kept wc w8 (fun k_ => k_ = g3) := (by first | exact hk8 | exact Kept.from_below (by repeat (with_reducible (first | exact Below.refl _ _ | apply pw_below_drewN | apply below_drew1 | apply below_alloc))) hk8); have hob8 : w8.cell? ⟨w5.heap.size, 0, none⟩ = some (.slice (some ⟨gz, 0, none⟩) z.length cv) := cell_kept hob hkw (fun e_ => HF3.out (.inr (.inr e_.symm))); have hgb8 : w8.cell? ⟨w.heap.size, 0, none⟩ = some (.slice (some ad) l0_0.length c0_0) := cell_kept hgb hkw (fun e_ => HF3.out (.inl e_.symm)); have hx8 : w8.cell? ⟨gz, a2.toNat, none⟩ = some (.slice (some ⟨g3, 0, none⟩) row3.length c3') := cell_kept hx2 hkw (fun e_ => HGZ.out e_); have hob8a := pw_cell_below (below_alloc (Below.refl w8.heap.size w8) (.cells #[.int .i64 (l0_0.length : Int)] 3)) hob8)))
              all_goals go_wp2
              all_goals go_meet
              all_goals exact ⟨rfl, ⟨⟨HB10.out.setCell HBG.out _, (HU.out.2 _ (.inl rfl)).trans HB.out.gbox, (HU.out.2 _ (.inr (.inl rfl))).trans HB.out.zbox⟩⟩, ⟨(HU.out.2 _ (.inr (.inr rfl))).trans HO.out⟩, ⟨HU.out.1⟩⟩
            case rest =>
              obtain ⟨rfl, HB, HO, HS⟩ := hcut
              obtain ⟨zz, hzz⟩ : ∃ zz, zz = z.set a2.toNat (row4 ++ [(l0_0.length : Int)]) := ⟨_, rfl⟩
              have hzl : z.length = zz.length := by rw [hzz]; simp
              rw [← hzz] at H HS
              rw [hzl] at HO HS
              obtain ⟨b2, A8, H⟩ := Option.bind_eq_some_iff.mp H
              have A8 := Aside0.mk A8
              have hob2 := ((blk_cell HO.out 0).trans rfl : _ = some (Value.slice (some ⟨gz, 0, none⟩) zz.length cv))
              clear hob hgb hx2 hf2 HPG hx2A HR HH HK HP HBG HR4 HF3 HGZ HO3 HG3 HE1 p7 hzl hzz
              cases b2 with
              | false =>
                rw [if_neg (by decide)] at H
                simp only [Option.some.injEq, Prod.mk.injEq] at H
                obtain ⟨rfl, rfl⟩ := H
                go_wp2_with (go_at_call 14; (refine (impl_GoodGraph.calls k _ _ zz false _ (Kd.S_reads' HS.out).2.2 (S_cap HS.out) A8.out).mono ?_); rintro e w12 ⟨rfl, hb⟩; have HB2 := Aside0.mk (HB.out.step hb); have hz2 : w12.cell? ⟨w.heap.size + 1, 0, none⟩ = some (.slice none 0 0) := (blk_cell HB2.out.zbox 0).trans rfl; have hzf2 : w12.frozen? ⟨w.heap.size + 1, 0, none⟩ = false := blk_frozen HB2.out.zbox 0; have ho12 : w12.cell? ⟨w5.heap.size, 0, none⟩ = some (.slice (some ⟨gz, 0, none⟩) zz.length cv) := pw_cell_below hb hob2; have HS12 := Aside0.mk (Kd.S_below HS.out hb); clear hb hob2)
                refine bodyPost_ret (results_ct rfl _ _ (w.heap.size + 1) 27 #[.slice none 0 0] (0, 0) _ rfl (by first | exact blk_put HB2.out.zbox 0 _ rfl | exact blk_put (blk_drewN HB2.out.zbox _) 0 _ rfl) Try.underlying27 rfl (by kernel_rfl)) rfl ?_
                exact ⟨_, rfl, Kd.S_nil _ _ _ _ _, below_set (by repeat (with_reducible (first | exact HB2.out.below | apply pw_below_drewN))) (by omega)⟩

              | true =>
                rw [if_pos rfl] at H
                simp only [Option.some.injEq, Prod.mk.injEq] at H
                obtain ⟨rfl, rfl⟩ := H
                go_wp2_with (go_at_call 14; (refine (impl_GoodGraph.calls k _ _ zz true _ (Kd.S_reads' HS.out).2.2 (S_cap HS.out) A8.out).mono ?_); rintro e w12 ⟨rfl, hb⟩; have HB2 := Aside0.mk (HB.out.step hb); have hz2 : w12.cell? ⟨w.heap.size + 1, 0, none⟩ = some (.slice none 0 0) := (blk_cell HB2.out.zbox 0).trans rfl; have hzf2 : w12.frozen? ⟨w.heap.size + 1, 0, none⟩ = false := blk_frozen HB2.out.zbox 0; have ho12 : w12.cell? ⟨w5.heap.size, 0, none⟩ = some (.slice (some ⟨gz, 0, none⟩) zz.length cv) := pw_cell_below hb hob2; have HS12 := Aside0.mk (Kd.S_below HS.out hb); clear hb hob2)
                refine bodyPost_ret (results_ct rfl _ _ (w.heap.size + 1) 27 #[.slice (some ⟨gz, 0, none⟩) zz.length cv] (0, 0) _ rfl (by first | exact blk_put HB2.out.zbox 0 _ rfl | exact blk_put (blk_drewN HB2.out.zbox _) 0 _ rfl) Try.underlying27 rfl (by kernel_rfl)) rfl ?_
                exact ⟨_, rfl, Kd.S_mono (Kd.S_far (p := ⟨w.heap.size + 1, 0, none⟩) HS12.out (fun k_ hk_ he_ => hk_ (.inr (.inl he_))) _) (fun _ _ => trivial), below_set (by repeat (with_reducible (first | exact HB2.out.below | apply pw_below_drewN))) (by omega)⟩

/-! ### laws_heldIntS: function 21 -/
def laws_heldIntS.l0 : Nat → List Int → Int → Int → Option (Int)
  | 0, _, _, _ => none
  | k + 1, x0, x1, x5 => if x5 < (x0.length : Int) then (if 0 ≤ x5 then (if (rd x0 x5) = x1 then (laws_heldIntS.l0 k x0 (wrap64 (x1 + 1)) (wrap64 (x5 + 1))) else (some (-1))) else (none)) else (some x1)
def laws_heldIntS.f (k : Nat) (l0 : List Int) (a1 : Int) : Option (Int) := laws_heldIntS.l0 k l0 a1 0
theorem laws_heldIntS.mono_l : ∀ k, (∀ y0 y1 y2, LeO (laws_heldIntS.l0 k y0 y1 y2) (laws_heldIntS.l0 (k + 1) y0 y1 y2))
  | 0 => fun _ _ _ r h => by simp [laws_heldIntS.l0] at h
  | k + 1 => by
    have ih0 := laws_heldIntS.mono_l k
    · intro y0 y1 y2
      unfold laws_heldIntS.l0
      repeat' first
      | (with_reducible exact ih0 _ _ _)
      | (with_reducible exact LeO.refl _)
      | (with_reducible exact LeO.none _)
      | (with_reducible refine LeO.ite ?_ ?_)
      | (with_reducible refine LeO.bind ?_ (fun _ => ?_))
      | exact ih0 _ _ _
      | exact LeO.none _
      | refine LeO.ite ?_ ?_
      | refine LeO.bind ?_ (fun _ => ?_)
theorem laws_heldIntS.mono : ∀ a0 a1 k, LeO (laws_heldIntS.f k a0 a1) (laws_heldIntS.f (k + 1) a0 a1) := by
  intro a0 a1 k
  have ih0 := laws_heldIntS.mono_l k
  unfold laws_heldIntS.f
  repeat' first
      | (with_reducible exact ih0 _ _ _)
      | (with_reducible exact LeO.refl _)
      | (with_reducible exact LeO.none _)
      | (with_reducible refine LeO.ite ?_ ?_)
      | (with_reducible refine LeO.bind ?_ (fun _ => ?_))
      | exact ih0 _ _ _
      | exact LeO.none _
      | refine LeO.ite ?_ ?_
      | refine LeO.bind ?_ (fun _ => ?_)
set_option maxHeartbeats 8000000 in
set_option maxRecDepth 100000 in
theorem laws_heldIntS.calls (k : Nat) (A0 : Option Addr) (c0 : Nat) (l0 : List Int) (a1 : Int) (r : Int) (w : World) (hr0 : Kd.C (Kd.int .i64) w A0 l0.length l0) (hc0 : l0.length ≤ c0) (h : laws_heldIntS.f k l0 a1 = some r) :
    Calls Try.prog 21 #[.slice A0 l0.length c0, .int .i64 a1] w fun e w' => e = .returned (.int .i64 r) ∧ Drawn0 w w' := by
  have HR0 := Aside0.mk hr0
  have HC0 := Aside0.mk hc0
  clear hr0 hc0
  have H : (laws_heldIntS.l0 k l0 a1 0) = some r := h
  clear h
  have H' := Aside0.mk H
  clear H
  go_enter Try.func21, Try.ntmps21
  go_wp2
  go_loopg [1, 5] k (fun kq v1 v5 w' => ∃ (x1_1 : Int) (x5_1 : Int), v1 = .int .i64 x1_1 ∧ v5 = .int .i64 x5_1 ∧ Aside0 (laws_heldIntS.l0 kq l0 x1_1 x5_1 = some r) ∧ Aside0 (kq ≤ k) ∧ Drawn0 w w')
  case atStart => exact ⟨(a1), (0), (by first | rfl | (simp; done) | (simp [*]; done)), (by first | rfl | (simp; done) | (simp [*]; done)), H', ⟨Nat.le_refl _⟩, by repeat (first | exact Drawn0.refl _ | apply Drawn0.step)⟩
  case round =>
    clear H'
    try clear c2
    try clear p2
    obtain ⟨x1_1, x5_1, rfl, rfl, HA, HK1, ⟨m1, rfl⟩⟩ := hrel
    cases gk with
    | zero => exact absurd HA.out (by simp [laws_heldIntS.l0])
    | succ k1 =>
      have H := HA.out
      clear HA
      simp only [laws_heldIntS.l0] at H
      by_cases c3 : x5_1 < (l0.length : Int)
      · rw [if_pos c3] at H
        have c3b0 : decide (x5_1 < (l0.length : Int)) = true := decide_eq_true c3
        clear c3
        by_cases c4 : 0 ≤ x5_1
        · rw [if_pos c4] at H
          have c4b0 : decide (0 ≤ x5_1) = true := decide_eq_true c4
          clear c4
          by_cases c5 : (rd l0 x5_1) = x1_1
          · rw [if_pos c5] at H
            have c5b0 : ((rd l0 x5_1) == x1_1) = true := beq_iff_eq.mpr c5
            have c5b1 : ((rd l0 x5_1) != x1_1) = false := bne_eq_false_iff_eq.mpr c5
            clear c5
            have H' := Aside0.mk H
            clear H
            have p193 : 0 ≤ (x5_1 : Int) := of_decide_eq_true (by first | (with_reducible assumption) | assumption)
            have q193 : x5_1 < (l0.length : Int) := of_decide_eq_true (by first | (with_reducible assumption) | assumption)
            obtain ⟨ad193, e193, hx193_0⟩ := Kd.at_int HR0.out x5_1 p193 q193
            cases e193
            replace p193 := eq_true p193
            replace q193 := eq_true q193
            go_wp2
            go_roundg k1
            case measure => have := HK1.out; omega
            case rel => exact ⟨(wrap64 (x1_1 + 1)), (wrap64 (x5_1 + 1)), (by first | rfl | (simp; done) | (simp [*]; done)), (by first | rfl | (simp; done) | (simp [*]; done)), H', ⟨by have := HK1.out; omega⟩, by repeat (first | exact Drawn0.refl _ | apply Drawn0.step)⟩
          · rw [if_neg c5] at H
            have c5b0 : ((rd l0 x5_1) == x1_1) = false := beq_eq_false_iff_ne.mpr c5
            have c5b1 : ((rd l0 x5_1) != x1_1) = true := bne_iff_ne.mpr c5
            obtain rfl := Option.some.inj H
            have p193 : 0 ≤ (x5_1 : Int) := of_decide_eq_true (by first | (with_reducible assumption) | assumption)
            have q193 : x5_1 < (l0.length : Int) := of_decide_eq_true (by first | (with_reducible assumption) | assumption)
            obtain ⟨ad193, e193, hx193_0⟩ := Kd.at_int HR0.out x5_1 p193 q193
            cases e193
            replace p193 := eq_true p193
            replace q193 := eq_true q193
            go_wp2
            go_ret
            exact ⟨by first | rfl | (simp; done) | (simp [*]; done), by repeat (first | exact Drawn0.refl _ | apply Drawn0.step)⟩
        · rw [if_neg c4] at H
          exact absurd H (by simp)
      · rw [if_neg c3] at H
        have c3b0 : decide (x5_1 < (l0.length : Int)) = false := decide_eq_false c3
        clear c3
        obtain rfl := Option.some.inj H
        go_wp2
        go_ret
        exact ⟨by first | rfl | (simp; done) | (simp [*]; done), by repeat (first | exact Drawn0.refl _ | apply Drawn0.step)⟩

/-! ### laws_heldIntSS: function 28 -/
def laws_heldIntSS.l0 : Nat → List (List Int) → Int → Int → Option (Int)
  | 0, _, _, _ => none
  | k + 1, x0, x1, x5 => if x5 < (x0.length : Int) then (if 0 ≤ x5 then ((laws_heldIntS.f k (rd_L1 x0 x5) x1).bind fun t195 => (if t195 < 0 then (some (-1)) else (laws_heldIntSS.l0 k x0 t195 (wrap64 (x5 + 1))))) else (none)) else (some x1)
def laws_heldIntSS.f (k : Nat) (l0 : List (List Int)) (a1 : Int) : Option (Int) := laws_heldIntSS.l0 k l0 a1 0
theorem laws_heldIntSS.mono_l : ∀ k, (∀ y0 y1 y2, LeO (laws_heldIntSS.l0 k y0 y1 y2) (laws_heldIntSS.l0 (k + 1) y0 y1 y2))
  | 0 => fun _ _ _ r h => by simp [laws_heldIntSS.l0] at h
  | k + 1 => by
    have ih0 := laws_heldIntSS.mono_l k
    · intro y0 y1 y2
      unfold laws_heldIntSS.l0
      repeat' first
      | (with_reducible exact ih0 _ _ _)
      | (with_reducible exact laws_heldIntS.mono _ _ _)
      | (with_reducible exact LeO.refl _)
      | (with_reducible exact LeO.none _)
      | (with_reducible refine LeO.ite ?_ ?_)
      | (with_reducible refine LeO.bind ?_ (fun _ => ?_))
      | exact ih0 _ _ _
      | exact laws_heldIntS.mono _ _ _
      | exact LeO.none _
      | refine LeO.ite ?_ ?_
      | refine LeO.bind ?_ (fun _ => ?_)
theorem laws_heldIntSS.mono : ∀ a0 a1 k, LeO (laws_heldIntSS.f k a0 a1) (laws_heldIntSS.f (k + 1) a0 a1) := by
  intro a0 a1 k
  have ih0 := laws_heldIntSS.mono_l k
  unfold laws_heldIntSS.f
  repeat' first
      | (with_reducible exact ih0 _ _ _)
      | (with_reducible exact laws_heldIntS.mono _ _ _)
      | (with_reducible exact LeO.refl _)
      | (with_reducible exact LeO.none _)
      | (with_reducible refine LeO.ite ?_ ?_)
      | (with_reducible refine LeO.bind ?_ (fun _ => ?_))
      | exact ih0 _ _ _
      | exact laws_heldIntS.mono _ _ _
      | exact LeO.none _
      | refine LeO.ite ?_ ?_
      | refine LeO.bind ?_ (fun _ => ?_)
set_option maxHeartbeats 8000000 in
set_option maxRecDepth 100000 in
theorem laws_heldIntSS.calls (k : Nat) (A0 : Option Addr) (c0 : Nat) (l0 : List (List Int)) (a1 : Int) (r : Int) (w : World) (hr0 : Kd.C (Kd.slice 3 (Kd.int .i64)) w A0 l0.length l0) (hc0 : l0.length ≤ c0) (h : laws_heldIntSS.f k l0 a1 = some r) :
    Calls Try.prog 28 #[.slice A0 l0.length c0, .int .i64 a1] w fun e w' => e = .returned (.int .i64 r) ∧ Drawn0 w w' := by
  have HR0 := Aside0.mk hr0
  have HC0 := Aside0.mk hc0
  clear hr0 hc0
  have H : (laws_heldIntSS.l0 k l0 a1 0) = some r := h
  clear h
  have H' := Aside0.mk H
  clear H
  go_enter Try.func28, Try.ntmps28
  go_wp2
  go_loopg [1, 5] k (fun kq v1 v5 w' => ∃ (x1_1 : Int) (x5_1 : Int), v1 = .int .i64 x1_1 ∧ v5 = .int .i64 x5_1 ∧ Aside0 (laws_heldIntSS.l0 kq l0 x1_1 x5_1 = some r) ∧ Aside0 (kq ≤ k) ∧ Drawn0 w w')
  case atStart => exact ⟨(a1), (0), (by first | rfl | (simp; done) | (simp [*]; done)), (by first | rfl | (simp; done) | (simp [*]; done)), H', ⟨Nat.le_refl _⟩, by repeat (first | exact Drawn0.refl _ | apply Drawn0.step)⟩
  case round =>
    clear H'
    try clear c2
    try clear p2
    obtain ⟨x1_1, x5_1, rfl, rfl, HA, HK1, ⟨m1, rfl⟩⟩ := hrel
    cases gk with
    | zero => exact absurd HA.out (by simp [laws_heldIntSS.l0])
    | succ k1 =>
      have H := HA.out
      clear HA
      simp only [laws_heldIntSS.l0] at H
      by_cases c3 : x5_1 < (l0.length : Int)
      · rw [if_pos c3] at H
        have c3b0 : decide (x5_1 < (l0.length : Int)) = true := decide_eq_true c3
        clear c3
        by_cases c4 : 0 ≤ x5_1
        · rw [if_pos c4] at H
          have c4b0 : decide (0 ≤ x5_1) = true := decide_eq_true c4
          clear c4
          replace H := Option.bind_eq_some_iff.mp H
          obtain ⟨t195, A50, H⟩ := H
          replace H : (if t195 < 0 then (some (-1)) else (laws_heldIntSS.l0 k1 l0 t195 (wrap64 (x5_1 + 1)))) = some r := H
          have A5 := Aside0.mk A50
          clear A50
          by_cases c6 : t195 < 0
          · rw [if_pos c6] at H
            have c6b0 : decide (t195 < 0) = true := decide_eq_true c6
            clear c6
            obtain rfl := Option.some.inj H
            have p194 : 0 ≤ (x5_1 : Int) := of_decide_eq_true (by first | (with_reducible assumption) | assumption)
            have q194 : x5_1 < (l0.length : Int) := of_decide_eq_true (by first | (with_reducible assumption) | assumption)
            obtain ⟨ad194, A194_0, c194_0, e194, hx194_0, hl194_0, hi194_0⟩ := at_L1 HR0.out x5_1 p194 q194
            cases e194
            have HR194_0 := Aside0.mk hi194_0
            have HC194_0 := Aside0.mk hl194_0
            clear hi194_0 hl194_0
            replace p194 := eq_true p194
            replace q194 := eq_true q194
            go_wp2_with (first | ((with_reducible refine gate_callee (f := 21) rfl ?_); refine goesL_ (some 17) rfl rfl Try.func21 (by kernel_rfl) rfl #[.slice A194_0 (rd_L1 l0 x5_1).length c194_0, .int .i64 x1_1] rfl (by (try simp only [List.map_toArray, List.map_cons, List.map_nil]); first | done | rfl | (simp only [List.length_drop, List.length_take]; rfl)) ?_; (with_reducible refine (laws_heldIntS.calls k1 _ _ (rd_L1 l0 x5_1) x1_1 t195 _ ?side1 ?side2 A5.out).mono ?_); (case side1 => repeat (first | exact HR194_0.out | (with_reducible refine Kd.C_alloc ?_ _) | (with_reducible refine Kd.C_drewN ?_ _) | (with_reducible refine Kd.C_drew ?_))); (case side2 => exact HC194_0.out); rintro e w' ⟨rfl, ⟨nd, rfl⟩⟩; refine ⟨_, rfl, ?_⟩))
            go_ret
            exact ⟨by first | rfl | (simp; done) | (simp [*]; done), by repeat (first | exact Drawn0.refl _ | apply Drawn0.step)⟩
          · rw [if_neg c6] at H
            have c6b0 : decide (t195 < 0) = false := decide_eq_false c6
            clear c6
            have H' := Aside0.mk H
            clear H
            have p194 : 0 ≤ (x5_1 : Int) := of_decide_eq_true (by first | (with_reducible assumption) | assumption)
            have q194 : x5_1 < (l0.length : Int) := of_decide_eq_true (by first | (with_reducible assumption) | assumption)
            obtain ⟨ad194, A194_0, c194_0, e194, hx194_0, hl194_0, hi194_0⟩ := at_L1 HR0.out x5_1 p194 q194
            cases e194
            have HR194_0 := Aside0.mk hi194_0
            have HC194_0 := Aside0.mk hl194_0
            clear hi194_0 hl194_0
            replace p194 := eq_true p194
            replace q194 := eq_true q194
            go_wp2_with (first | ((with_reducible refine gate_callee (f := 21) rfl ?_); refine goesL_ (some 17) rfl rfl Try.func21 (by kernel_rfl) rfl #[.slice A194_0 (rd_L1 l0 x5_1).length c194_0, .int .i64 x1_1] rfl (by (try simp only [List.map_toArray, List.map_cons, List.map_nil]); first | done | rfl | (simp only [List.length_drop, List.length_take]; rfl)) ?_; (with_reducible refine (laws_heldIntS.calls k1 _ _ (rd_L1 l0 x5_1) x1_1 t195 _ ?side1 ?side2 A5.out).mono ?_); (case side1 => repeat (first | exact HR194_0.out | (with_reducible refine Kd.C_alloc ?_ _) | (with_reducible refine Kd.C_drewN ?_ _) | (with_reducible refine Kd.C_drew ?_))); (case side2 => exact HC194_0.out); rintro e w' ⟨rfl, ⟨nd, rfl⟩⟩; refine ⟨_, rfl, ?_⟩))
            go_roundg k1
            case measure => have := HK1.out; omega
            case rel => exact ⟨(t195), (wrap64 (x5_1 + 1)), (by first | rfl | (simp; done) | (simp [*]; done)), (by first | rfl | (simp; done) | (simp [*]; done)), H', ⟨by have := HK1.out; omega⟩, by repeat (first | exact Drawn0.refl _ | apply Drawn0.step)⟩
        · rw [if_neg c4] at H
          exact absurd H (by simp)
      · rw [if_neg c3] at H
        have c3b0 : decide (x5_1 < (l0.length : Int)) = false := decide_eq_false c3
        clear c3
        obtain rfl := Option.some.inj H
        go_wp2
        go_ret
        exact ⟨by first | rfl | (simp; done) | (simp [*]; done), by repeat (first | exact Drawn0.refl _ | apply Drawn0.step)⟩

/-! ### laws_heldGraph: function 35 -/
def laws_heldGraph.f (k : Nat) (l0_0 : List (List Int)) (a1 : Int) : Option (Int) := (laws_heldIntSS.f k l0_0 a1).bind fun t197 => (if t197 < 0 then (some (-1)) else (some t197))
theorem laws_heldGraph.mono : ∀ a0 a1 k, LeO (laws_heldGraph.f k a0 a1) (laws_heldGraph.f (k + 1) a0 a1) := by
  intro a0 a1 k
  unfold laws_heldGraph.f
  repeat' first
      | (with_reducible exact laws_heldIntSS.mono _ _ _)
      | (with_reducible exact LeO.refl _)
      | (with_reducible exact LeO.none _)
      | (with_reducible refine LeO.ite ?_ ?_)
      | (with_reducible refine LeO.bind ?_ (fun _ => ?_))
      | exact laws_heldIntSS.mono _ _ _
      | exact LeO.none _
      | refine LeO.ite ?_ ?_
      | refine LeO.bind ?_ (fun _ => ?_)
set_option maxHeartbeats 8000000 in
set_option maxRecDepth 100000 in
theorem laws_heldGraph.calls (k : Nat) (A0_0 : Option Addr) (c0_0 : Nat) (l0_0 : List (List Int)) (a1 : Int) (r : Int) (w : World) (hr0_0 : Kd.C (Kd.slice 3 (Kd.int .i64)) w A0_0 l0_0.length l0_0) (hc0_0 : l0_0.length ≤ c0_0) (h : laws_heldGraph.f k l0_0 a1 = some r) :
    Calls Try.prog 35 #[.agg #[.slice A0_0 l0_0.length c0_0], .int .i64 a1] w fun e w' => e = .returned (.int .i64 r) ∧ Below w.heap.size w w' := by
  have hu27 := Try.underlying27
  have HR0_0 := Aside0.mk hr0_0
  have HC0_0 := Aside0.mk hc0_0
  clear hr0_0 hc0_0
  have HB := Aside0.mk (Below.refl w.heap.size w)
  have H : ((laws_heldIntSS.f k l0_0 a1).bind fun t197 => (if t197 < 0 then (some (-1)) else (some t197))) = some r := h
  clear h
  replace H := Option.bind_eq_some_iff.mp H
  obtain ⟨t197, A30, H⟩ := H
  replace H : (if t197 < 0 then (some (-1)) else (some t197)) = some r := H
  have A3 := Aside0.mk A30
  clear A30
  by_cases c4 : t197 < 0
  · rw [if_pos c4] at H
    have c4b0 : decide (t197 < 0) = true := decide_eq_true c4
    clear c4
    obtain rfl := Option.some.inj H
    go_enter Try.func35, Try.ntmps35
    go_wp2_with (first | ((with_reducible refine gate_dst (N := 2) rfl ?_); refine box_event ?hg (N := 2) ?hd (cs := #[.slice A0_0 l0_0.length c0_0]) (t := 27) ?hr ?_; (case hd => rfl); (case hg => rfl); (case hr => first | (go_simp; done) | (go_simp; rfl)); intro gb196 hg w5 hbox hb; have n0_ := Aside0.mk (below_step (by repeat (first | (with_reducible first | exact HB.out | apply below_alloc | apply pw_below_drewN | apply below_drew1) | exact HB.out)) hb); have n1_ := Aside0.mk (hbox); have n2_ := Aside0.mk ((by rw [hg]; exact (below_size (by repeat (first | (with_reducible first | exact HB.out | apply below_alloc | apply pw_below_drewN | apply below_drew1) | exact HB.out))) : w.heap.size ≤ gb196)); have n3_ := Aside0.mk ((by rw [hg]; exact (below_size (by repeat (first | (with_reducible first | exact HB.out | apply below_alloc | apply pw_below_drewN | apply below_drew1) | exact HB.out))) : w.heap.size ≤ gb196)); clear HB; have HB := n0_; have BK196 := n1_; have GW196 := n2_; have GE196 := n3_; clear n0_ n1_ n2_ n3_; clear hb hbox hg; have hcz6_0 : w5.cell? ⟨gb196, 0, none⟩ = some (.slice A0_0 l0_0.length c0_0) := (blk_cell BK196.out 0).trans rfl; have hfz6_0 := blk_frozen BK196.out 0) | ((with_reducible refine gate_callee (f := 28) rfl ?_); refine goesL_ (some 8) rfl rfl Try.func28 (by kernel_rfl) rfl #[.slice A0_0 l0_0.length c0_0, .int .i64 a1] rfl (by (try simp only [List.map_toArray, List.map_cons, List.map_nil]); first | done | rfl | (simp only [List.length_drop, List.length_take]; rfl)) ?_; (with_reducible refine (laws_heldIntSS.calls k _ _ l0_0 a1 t197 _ ?side1 ?side2 A3.out).mono ?_); (case side1 => repeat (first | exact (Kd.C_below HR0_0.out HB.out) | (with_reducible refine Kd.C_alloc ?_ _) | (with_reducible refine Kd.C_drewN ?_ _) | (with_reducible refine Kd.C_drew ?_))); (case side2 => exact HC0_0.out); rintro e w' ⟨rfl, ⟨nd, rfl⟩⟩; refine ⟨_, rfl, ?_⟩))
    go_ret
    exact ⟨by first | rfl | (simp [errW_none, errW_some] <;> rfl) | (simp [*, errW_none, errW_some] <;> rfl), by repeat (first | (with_reducible first | exact HB.out | apply below_alloc | apply pw_below_drewN | apply below_drew1 | refine below_set ?_ GE196.out) | exact HB.out)⟩
  · rw [if_neg c4] at H
    have c4b0 : decide (t197 < 0) = false := decide_eq_false c4
    clear c4
    obtain rfl := Option.some.inj H
    go_enter Try.func35, Try.ntmps35
    go_wp2_with (first | ((with_reducible refine gate_dst (N := 2) rfl ?_); refine box_event ?hg (N := 2) ?hd (cs := #[.slice A0_0 l0_0.length c0_0]) (t := 27) ?hr ?_; (case hd => rfl); (case hg => rfl); (case hr => first | (go_simp; done) | (go_simp; rfl)); intro gb196 hg w7 hbox hb; have n0_ := Aside0.mk (below_step (by repeat (first | (with_reducible first | exact HB.out | apply below_alloc | apply pw_below_drewN | apply below_drew1) | exact HB.out)) hb); have n1_ := Aside0.mk (hbox); have n2_ := Aside0.mk ((by rw [hg]; exact (below_size (by repeat (first | (with_reducible first | exact HB.out | apply below_alloc | apply pw_below_drewN | apply below_drew1) | exact HB.out))) : w.heap.size ≤ gb196)); have n3_ := Aside0.mk ((by rw [hg]; exact (below_size (by repeat (first | (with_reducible first | exact HB.out | apply below_alloc | apply pw_below_drewN | apply below_drew1) | exact HB.out))) : w.heap.size ≤ gb196)); clear HB; have HB := n0_; have BK196 := n1_; have GW196 := n2_; have GE196 := n3_; clear n0_ n1_ n2_ n3_; clear hb hbox hg; have hcz8_0 : w7.cell? ⟨gb196, 0, none⟩ = some (.slice A0_0 l0_0.length c0_0) := (blk_cell BK196.out 0).trans rfl; have hfz8_0 := blk_frozen BK196.out 0) | ((with_reducible refine gate_callee (f := 28) rfl ?_); refine goesL_ (some 8) rfl rfl Try.func28 (by kernel_rfl) rfl #[.slice A0_0 l0_0.length c0_0, .int .i64 a1] rfl (by (try simp only [List.map_toArray, List.map_cons, List.map_nil]); first | done | rfl | (simp only [List.length_drop, List.length_take]; rfl)) ?_; (with_reducible refine (laws_heldIntSS.calls k _ _ l0_0 a1 t197 _ ?side1 ?side2 A3.out).mono ?_); (case side1 => repeat (first | exact (Kd.C_below HR0_0.out HB.out) | (with_reducible refine Kd.C_alloc ?_ _) | (with_reducible refine Kd.C_drewN ?_ _) | (with_reducible refine Kd.C_drew ?_))); (case side2 => exact HC0_0.out); rintro e w' ⟨rfl, ⟨nd, rfl⟩⟩; refine ⟨_, rfl, ?_⟩))
    go_ret
    exact ⟨by first | rfl | (simp [errW_none, errW_some] <;> rfl) | (simp [*, errW_none, errW_some] <;> rfl), by repeat (first | (with_reducible first | exact HB.out | apply below_alloc | apply pw_below_drewN | apply below_drew1 | refine below_set ?_ GE196.out) | exact HB.out)⟩

-- WRITTEN BY lawgen.py
/-! ### laws_FnExactSplitNode: function 9 (by lawgen.py: rows in rows are marked) -/
def laws_FnExactSplitNode.f (k : Nat) (l0_0 : List (List Int)) (a1 : Int) (a2 : Int) : Option Bool := (laws_szGraph.f k l0_0 1048576).bind fun t5 => (if t5 < 0 then (some true) else ((laws_toGraph.f k l0_0).bind fun t10 => ((spec_SplitNode.f k t10 a1 a2).bind fun bt19 => ((laws_toGraph.f k l0_0).bind fun t34 => ((impl_SplitNode.f k t34 a1 a2).bind fun bt48 => ((laws_eqGraph.f k bt48.1 bt19.1).bind fun t63 => (if t63 = true then (if bt48.2 = bt19.2 then ((laws_toGraph.f k l0_0).bind fun t68 => ((laws_eqGraph.f k t34 t68).bind fun t77 => (if t77 = true then ((laws_markGraph.f k t34 1).bind fun bt83 => (if bt83.1 < 0 then (none) else ((laws_eqGraph.f k bt48.1 bt19.1).bind fun t90 => (if t90 = true then (if bt48.2 = bt19.2 then ((laws_markGraph.f k bt48.1 1).bind fun bt95 => ((laws_heldGraph.f k bt95.2 1).bind fun t102 => (if t102 < 0 then (none) else (if t102 = bt95.1 then ((laws_toGraph.f k l0_0).bind fun t107 => ((impl_SplitNode.f k t107 a1 a2).bind fun bt116 => ((laws_eqGraph.f k bt116.1 bt19.1).bind fun t131 => (if t131 = true then (if bt116.2 = bt19.2 then ((laws_heldGraph.f k bt95.2 1).bind fun t136 => (if t136 < 0 then (none) else (if t136 = bt95.1 then (some true) else none))) else none) else none)))) else none)))) else none) else none)))) else none))) else none) else none)))))))
theorem laws_FnExactSplitNode.mono : ∀ a0 a1 a2 k, LeO (laws_FnExactSplitNode.f k a0 a1 a2) (laws_FnExactSplitNode.f (k + 1) a0 a1 a2) := by
  intro a0 a1 a2 k
  unfold laws_FnExactSplitNode.f
  repeat' first
      | (with_reducible exact laws_szGraph.mono _ _ _)
      | (with_reducible exact laws_toGraph.mono _ _)
      | (with_reducible exact spec_SplitNode.mono _ _ _ _)
      | (with_reducible exact impl_SplitNode.mono _ _ _ _)
      | (with_reducible exact laws_eqGraph.mono _ _ _)
      | (with_reducible exact laws_markGraph.mono _ _ _)
      | (with_reducible exact laws_heldGraph.mono _ _ _)
      | (with_reducible exact LeO.refl _)
      | (with_reducible exact LeO.none _)
      | (with_reducible refine LeO.ite ?_ ?_)
      | (with_reducible refine LeO.bind ?_ (fun _ => ?_))
set_option maxHeartbeats 8000000 in
set_option maxRecDepth 100000 in
theorem laws_FnExactSplitNode.calls (k : Nat) (A0_0 : Option Addr) (c0_0 : Nat) (l0_0 : List (List Int)) (a1 : Int) (a2 : Int) (r : Bool) (w : World) (hr0_0 : Kd.C (Kd.slice 3 (Kd.int .i64)) w A0_0 l0_0.length l0_0) (hc0_0 : l0_0.length ≤ c0_0) (h : laws_FnExactSplitNode.f k l0_0 a1 a2 = some r) :
    Calls Try.prog 9 #[.agg #[.slice A0_0 l0_0.length c0_0], .int .i64 a1, .int .i64 a2] w fun e w' => e = .returned (.bool r) ∧ Below w.heap.size w w' := by
  have hu24 := Try.underlying24
  have hu27 := Try.underlying27
  have HR0_0 := Aside0.mk hr0_0
  have HC0_0 := Aside0.mk hc0_0
  clear hr0_0 hc0_0
  have tok7 : Aside0 True := ⟨trivial⟩
  have tok12 : Aside0 True := ⟨trivial⟩
  have tok22 : Aside0 True := ⟨trivial⟩
  have tok36 : Aside0 True := ⟨trivial⟩
  have tok51 : Aside0 True := ⟨trivial⟩
  have tok65 : Aside0 True := ⟨trivial⟩
  have tok70 : Aside0 True := ⟨trivial⟩
  have tok79 : Aside0 True := ⟨trivial⟩
  have tok86 : Aside0 True := ⟨trivial⟩
  have tok92 : Aside0 True := ⟨trivial⟩
  have tok98 : Aside0 True := ⟨trivial⟩
  have tok104 : Aside0 True := ⟨trivial⟩
  have tok109 : Aside0 True := ⟨trivial⟩
  have tok119 : Aside0 True := ⟨trivial⟩
  have tok133 : Aside0 True := ⟨trivial⟩
  have tok138 : Aside0 True := ⟨trivial⟩
  have HB := Aside0.mk (Below.refl w.heap.size w)
  unfold laws_FnExactSplitNode.f at h
  have bq_ : ∀ b_ : Bool, (b_ != b_) = false := by decide
  replace h := Option.bind_eq_some_iff.mp h
  obtain ⟨t5, A40, h⟩ := h
  (try dsimp only at h)
  have A4 := Aside0.mk A40
  clear A40
  by_cases c1 : t5 < 0
  · rw [if_pos c1] at h
    obtain rfl := Option.some.inj h
    have c1b : decide (t5 < 0) = true := decide_eq_true c1
    clear c1
    go_enter Try.func9, Try.ntmps9
    go_wp2_with (first | ((with_reducible refine gate_dst (N := 3) rfl ?_); refine box_event ?hg (N := 3) ?hd (cs := #[.slice A0_0 l0_0.length c0_0]) (t := 24) ?hr ?_; (case hd => rfl); (case hg => rfl); (case hr => first | (go_simp; done) | (go_simp; rfl)); intro gb1 hg w3 hbox hb; have B2 := Aside0.mk hbox; have B2n := Aside0.mk hg; have nb_ := Aside0.mk (below_step HB.out hb); clear HB; have HB := nb_; clear nb_; have B2z := Aside0.mk hb.size; have B2y := Aside0.mk (blk_lt B2.out); clear hb hbox hg; have hczgb1 : w3.cell? ⟨gb1, 0, none⟩ = some (.slice A0_0 l0_0.length c0_0) := (blk_cell B2.out 0).trans rfl; have hfzgb1 := blk_frozen B2.out 0) | (go_at_call 11; have u_ := tok7; clear u_; ((with_reducible refine (laws_szGraph.calls k _ _ l0_0 1048576 t5 _ (Kd.C_below HR0_0.out HB.out) HC0_0.out A4.out).mono ?_)); (try clear hczgb1 hfzgb1); rintro e w6 ⟨rfl, hb⟩; have m0_ := Aside0.mk (blk_below B2.out hb); have nb_ := Aside0.mk (below_step HB.out hb); clear B2 HB; have B2 := m0_; have HB := nb_; clear m0_ nb_; have Z8 := Aside0.mk hb.size; clear hb tok7; have hczgb1 : w6.cell? ⟨gb1, 0, none⟩ = some (.slice A0_0 l0_0.length c0_0) := (blk_cell B2.out 0).trans rfl; have hfzgb1 := blk_frozen B2.out 0))
    go_ret
    exact ⟨rfl, HB.out⟩
  rw [if_neg c1] at h
  have c1b : decide (t5 < 0) = false := decide_eq_false c1
  clear c1
  replace h := Option.bind_eq_some_iff.mp h
  obtain ⟨t10, A90, h⟩ := h
  (try dsimp only at h)
  have A9 := Aside0.mk A90
  clear A90
  replace h := Option.bind_eq_some_iff.mp h
  obtain ⟨⟨t19, t20⟩, A180, h⟩ := h
  (try dsimp only at h)
  have A18 := Aside0.mk A180
  clear A180
  replace h := Option.bind_eq_some_iff.mp h
  obtain ⟨t34, A330, h⟩ := h
  (try dsimp only at h)
  have A33 := Aside0.mk A330
  clear A330
  replace h := Option.bind_eq_some_iff.mp h
  obtain ⟨⟨t48, t49⟩, A470, h⟩ := h
  (try dsimp only at h)
  have A47 := Aside0.mk A470
  clear A470
  replace h := Option.bind_eq_some_iff.mp h
  obtain ⟨t63, A620, h⟩ := h
  (try dsimp only at h)
  have A62 := Aside0.mk A620
  clear A620
  cases t63 with
  | false => exact absurd h (by simp)
  | true =>
    rw [if_pos rfl] at h
    by_cases c2 : t49 = t20
    rotate_left
    · rw [if_neg c2] at h; exact absurd h (by simp)
    rw [if_pos c2] at h
    have c2b : (t49 != t20) = false := by rw [c2]; simp
    have c2d : (t49 == t20) = true := by rw [c2]; simp
    have C2 := Aside0.mk c2
    clear c2
    replace h := Option.bind_eq_some_iff.mp h
    obtain ⟨t68, A670, h⟩ := h
    (try dsimp only at h)
    have A67 := Aside0.mk A670
    clear A670
    replace h := Option.bind_eq_some_iff.mp h
    obtain ⟨t77, A760, h⟩ := h
    (try dsimp only at h)
    have A76 := Aside0.mk A760
    clear A760
    cases t77 with
    | false => exact absurd h (by simp)
    | true =>
      rw [if_pos rfl] at h
      replace h := Option.bind_eq_some_iff.mp h
      obtain ⟨⟨t83, t84⟩, A820, h⟩ := h
      (try dsimp only at h)
      have A82 := Aside0.mk A820
      clear A820
      by_cases c3 : t83 < 0
      · rw [if_pos c3] at h; exact absurd h (by simp)
      rw [if_neg c3] at h
      have c3b : decide (t83 < 0) = false := decide_eq_false c3
      clear c3
      replace h := Option.bind_eq_some_iff.mp h
      obtain ⟨t90, A890, h⟩ := h
      (try dsimp only at h)
      have A89 := Aside0.mk A890
      clear A890
      cases t90 with
      | false => exact absurd h (by simp)
      | true =>
        rw [if_pos rfl] at h
        by_cases c4 : t49 = t20
        rotate_left
        · rw [if_neg c4] at h; exact absurd h (by simp)
        rw [if_pos c4] at h
        have c4b : (t49 != t20) = false := by rw [c4]; simp
        have c4d : (t49 == t20) = true := by rw [c4]; simp
        have C4 := Aside0.mk c4
        clear c4
        replace h := Option.bind_eq_some_iff.mp h
        obtain ⟨⟨t95, t96⟩, A940, h⟩ := h
        (try dsimp only at h)
        have A94 := Aside0.mk A940
        clear A940
        replace h := Option.bind_eq_some_iff.mp h
        obtain ⟨t102, A1010, h⟩ := h
        (try dsimp only at h)
        have A101 := Aside0.mk A1010
        clear A1010
        by_cases c5 : t102 < 0
        · rw [if_pos c5] at h; exact absurd h (by simp)
        rw [if_neg c5] at h
        have c5b : decide (t102 < 0) = false := decide_eq_false c5
        clear c5
        by_cases c6 : t102 = t95
        rotate_left
        · rw [if_neg c6] at h; exact absurd h (by simp)
        rw [if_pos c6] at h
        have c6b : (t102 != t95) = false := by rw [c6]; simp
        have c6d : (t102 == t95) = true := by rw [c6]; simp
        have C6 := Aside0.mk c6
        clear c6
        replace h := Option.bind_eq_some_iff.mp h
        obtain ⟨t107, A1060, h⟩ := h
        (try dsimp only at h)
        have A106 := Aside0.mk A1060
        clear A1060
        replace h := Option.bind_eq_some_iff.mp h
        obtain ⟨⟨t116, t117⟩, A1150, h⟩ := h
        (try dsimp only at h)
        have A115 := Aside0.mk A1150
        clear A1150
        replace h := Option.bind_eq_some_iff.mp h
        obtain ⟨t131, A1300, h⟩ := h
        (try dsimp only at h)
        have A130 := Aside0.mk A1300
        clear A1300
        cases t131 with
        | false => exact absurd h (by simp)
        | true =>
          rw [if_pos rfl] at h
          by_cases c7 : t117 = t20
          rotate_left
          · rw [if_neg c7] at h; exact absurd h (by simp)
          rw [if_pos c7] at h
          have c7b : (t117 != t20) = false := by rw [c7]; simp
          have c7d : (t117 == t20) = true := by rw [c7]; simp
          have C7 := Aside0.mk c7
          clear c7
          replace h := Option.bind_eq_some_iff.mp h
          obtain ⟨t136, A1350, h⟩ := h
          (try dsimp only at h)
          have A135 := Aside0.mk A1350
          clear A1350
          by_cases c8 : t136 < 0
          · rw [if_pos c8] at h; exact absurd h (by simp)
          rw [if_neg c8] at h
          have c8b : decide (t136 < 0) = false := decide_eq_false c8
          clear c8
          by_cases c9 : t136 = t95
          rotate_left
          · rw [if_neg c9] at h; exact absurd h (by simp)
          rw [if_pos c9] at h
          have c9b : (t136 != t95) = false := by rw [c9]; simp
          have c9d : (t136 == t95) = true := by rw [c9]; simp
          have C9 := Aside0.mk c9
          clear c9
          obtain rfl := Option.some.inj h
          go_enter Try.func9, Try.ntmps9
          go_upto_region 10 with (first | ((with_reducible refine gate_dst (N := 3) rfl ?_); refine box_event ?hg (N := 3) ?hd (cs := #[.slice A0_0 l0_0.length c0_0]) (t := 24) ?hr ?_; (case hd => rfl); (case hg => rfl); (case hr => first | (go_simp; done) | (go_simp; rfl)); intro gb1 hg w3 hbox hb; have B2 := Aside0.mk hbox; have B2n := Aside0.mk hg; have nb_ := Aside0.mk (below_step HB.out hb); clear HB; have HB := nb_; clear nb_; have B2z := Aside0.mk hb.size; have B2y := Aside0.mk (blk_lt B2.out); clear hb hbox hg; have hczgb1 : w3.cell? ⟨gb1, 0, none⟩ = some (.slice A0_0 l0_0.length c0_0) := (blk_cell B2.out 0).trans rfl; have hfzgb1 := blk_frozen B2.out 0) | (go_at_call 11; have u_ := tok7; clear u_; ((with_reducible refine (laws_szGraph.calls k _ _ l0_0 1048576 t5 _ (Kd.C_below HR0_0.out HB.out) HC0_0.out A4.out).mono ?_)); (try clear hczgb1 hfzgb1); rintro e w6 ⟨rfl, hb⟩; have m0_ := Aside0.mk (blk_below B2.out hb); have nb_ := Aside0.mk (below_step HB.out hb); clear B2 HB; have B2 := m0_; have HB := nb_; clear m0_ nb_; have Z8 := Aside0.mk hb.size; clear hb tok7; have hczgb1 : w6.cell? ⟨gb1, 0, none⟩ = some (.slice A0_0 l0_0.length c0_0) := (blk_cell B2.out 0).trans rfl; have hfzgb1 := blk_frozen B2.out 0) | (go_at_call 13; have u_ := tok12; clear u_; ((with_reducible refine (laws_toGraph.calls k _ _ l0_0 t10 _ (Kd.C_below HR0_0.out HB.out) HC0_0.out A9.out).mono ?_)); (try clear hczgb1 hfzgb1); rintro e w11 ⟨v13, rfl, ho0, hb⟩; have nF14_ := Aside0.mk (OwnS.make HB.out hb ho0); have m0_ := Aside0.mk (blk_below B2.out hb); have nb_ := Aside0.mk (below_step HB.out hb); clear B2 HB; have B2 := m0_; have HB := nb_; clear m0_ nb_; have Z15 := Aside0.mk hb.size; have F14 := nF14_; clear nF14_; obtain ⟨Ao17, co17, eo17⟩ := Kd.S_slice F14.out; subst eo17; clear hb tok12 ho0; have hczgb1 : w11.cell? ⟨gb1, 0, none⟩ = some (.slice A0_0 l0_0.length c0_0) := (blk_cell B2.out 0).trans rfl; have hfzgb1 := blk_frozen B2.out 0) | (go_at_call 33; have u_ := tok22; clear u_; ((with_reducible refine (spec_SplitNode.calls k _ _ t10 a1 a2 t19 t20 _ (Kd.S_reads' F14.out).2.2 (S_cap F14.out) A18.out).mono ?_)); (try clear hczgb1 hfzgb1); rintro e w21 ⟨v23, rfl, ho0, hb⟩; have nF24_ := Aside0.mk (OwnS.make HB.out hb ho0); have n0_ := Aside0.mk (OwnS.below F14.out hb); have m0_ := Aside0.mk (blk_below B2.out hb); have nb_ := Aside0.mk (below_step HB.out hb); clear F14 B2 HB; have F14 := n0_; have B2 := m0_; have HB := nb_; clear n0_ m0_ nb_; have Z25 := Aside0.mk hb.size; have F24 := nF24_; clear nF24_; obtain ⟨Ao27, co27, eo27⟩ := Kd.S_slice F24.out; subst eo27; clear hb tok22 ho0; have hczgb1 : w21.cell? ⟨gb1, 0, none⟩ = some (.slice A0_0 l0_0.length c0_0) := (blk_cell B2.out 0).trans rfl; have hfzgb1 := blk_frozen B2.out 0) | ((with_reducible refine gate_dst (N := 8) rfl ?_); refine box_event ?hg (N := 8) ?hd (cs := #[.slice none 0 0]) (t := 27) ?hr ?_; (case hd => rfl); (case hg => rfl); (case hr => first | (go_simp; done) | (go_simp; rfl)); intro gb28 hg w30 hbox hb; (try clear hczgb1 hfzgb1); have n0_ := Aside0.mk (OwnS.below F14.out hb); have n1_ := Aside0.mk (OwnS.below F24.out hb); have m0_ := Aside0.mk (blk_below B2.out hb); have nb_ := Aside0.mk (below_step HB.out hb); clear F14 F24 B2 HB; have F14 := n0_; have F24 := n1_; have B2 := m0_; have HB := nb_; clear n0_ n1_ m0_ nb_; have B29 := Aside0.mk hbox; have B29n := Aside0.mk hg; have B29z := Aside0.mk hb.size; have B29y := Aside0.mk (blk_lt B29.out); clear hb hbox hg; have hczgb1 : w30.cell? ⟨gb1, 0, none⟩ = some (.slice A0_0 l0_0.length c0_0) := (blk_cell B2.out 0).trans rfl; have hfzgb1 := blk_frozen B2.out 0; have hczgb28 : w30.cell? ⟨gb28, 0, none⟩ = some (.slice none 0 0) := (blk_cell B29.out 0).trans rfl; have hfzgb28 := blk_frozen B29.out 0) | ((with_reducible refine gate_store (t := 27) (p := 8) rfl ?_); refine store_event (t := 27) (p := 8) (v := ?vow31_) (w1 := (w30.setCell ⟨gb28, 0, none⟩ (.slice Ao27 t19.length co27))) ?hg ?ho ?hn ?hr ?_; (case ho => rfl); (case hg => rfl); (case hn => rfl); (case hr => first | (go_simp; done) | (go_simp; rfl)); intro w31 hw; (try clear hczgb1 hfzgb1); (try clear hczgb28 hfzgb28); have n0_ := Aside0.mk (OwnS.stored hw F14.out (by have := B2z.out; have := B2y.out; have := B2n.out; have := Z8.out; have := Z15.out; have := Z25.out; have := B29z.out; have := B29y.out; have := B29n.out; omega)); have n1_ := Aside0.mk (OwnS.stored hw F24.out (by have := B2z.out; have := B2y.out; have := B2n.out; have := Z8.out; have := Z15.out; have := Z25.out; have := B29z.out; have := B29y.out; have := B29n.out; omega)); have m0_ : Aside0 (w31.heap[gb1]? = some (.cells #[.slice A0_0 l0_0.length c0_0] 24 (0, 0))) := Aside0.mk (blk_stored hw B2.out (by have := B2z.out; have := B2y.out; have := B2n.out; have := Z8.out; have := Z15.out; have := Z25.out; have := B29z.out; have := B29y.out; have := B29n.out; omega)); have m1_ : Aside0 (w31.heap[gb28]? = some (.cells #[.slice Ao27 t19.length co27] 27 (0, 0))) := Aside0.mk (blk_stored0 hw B29.out rfl); have nb_ := Aside0.mk (below_stored hw HB.out (by have := B2z.out; have := B2y.out; have := B2n.out; have := Z8.out; have := Z15.out; have := Z25.out; have := B29z.out; have := B29y.out; have := B29n.out; omega)); have Z32 := Aside0.mk (size_stored hw); clear F14 F24 B2 B29 HB; have F14 := n0_; have F24 := n1_; have B2 := m0_; have B29 := m1_; have HB := nb_; clear n0_ n1_ m0_ m1_ nb_ hw; have hczgb1 : w31.cell? ⟨gb1, 0, none⟩ = some (.slice A0_0 l0_0.length c0_0) := (blk_cell B2.out 0).trans rfl; have hfzgb1 := blk_frozen B2.out 0; have hczgb28 : w31.cell? ⟨gb28, 0, none⟩ = some (.slice Ao27 t19.length co27) := (blk_cell B29.out 0).trans rfl; have hfzgb28 := blk_frozen B29.out 0) | (go_at_call 13; have u_ := tok36; clear u_; ((with_reducible refine (laws_toGraph.calls k _ _ l0_0 t34 _ (Kd.C_below HR0_0.out HB.out) HC0_0.out A33.out).mono ?_)); (try clear hczgb1 hfzgb1); (try clear hczgb28 hfzgb28); rintro e w35 ⟨v37, rfl, ho0, hb⟩; have nF38_ := Aside0.mk (OwnS.make HB.out hb ho0); have n0_ := Aside0.mk (OwnS.below F14.out hb); have n1_ := Aside0.mk (OwnS.below F24.out hb); have m0_ := Aside0.mk (blk_below B2.out hb); have m1_ := Aside0.mk (blk_below B29.out hb); have nb_ := Aside0.mk (below_step HB.out hb); clear F14 F24 B2 B29 HB; have F14 := n0_; have F24 := n1_; have B2 := m0_; have B29 := m1_; have HB := nb_; clear n0_ n1_ m0_ m1_ nb_; have Z39 := Aside0.mk hb.size; have F38 := nF38_; clear nF38_; obtain ⟨Ao41, co41, eo41⟩ := Kd.S_slice F38.out; subst eo41; clear hb tok36 ho0; have hczgb1 : w35.cell? ⟨gb1, 0, none⟩ = some (.slice A0_0 l0_0.length c0_0) := (blk_cell B2.out 0).trans rfl; have hfzgb1 := blk_frozen B2.out 0; have hczgb28 : w35.cell? ⟨gb28, 0, none⟩ = some (.slice Ao27 t19.length co27) := (blk_cell B29.out 0).trans rfl; have hfzgb28 := blk_frozen B29.out 0) | ((with_reducible refine gate_dst (N := 10) rfl ?_); refine box_event ?hg (N := 10) ?hd (cs := #[.slice none 0 0]) (t := 27) ?hr ?_; (case hd => rfl); (case hg => rfl); (case hr => first | (go_simp; done) | (go_simp; rfl)); intro gb42 hg w44 hbox hb; (try clear hczgb1 hfzgb1); (try clear hczgb28 hfzgb28); have n0_ := Aside0.mk (OwnS.below F14.out hb); have n1_ := Aside0.mk (OwnS.below F24.out hb); have n2_ := Aside0.mk (OwnS.below F38.out hb); have m0_ := Aside0.mk (blk_below B2.out hb); have m1_ := Aside0.mk (blk_below B29.out hb); have nb_ := Aside0.mk (below_step HB.out hb); clear F14 F24 F38 B2 B29 HB; have F14 := n0_; have F24 := n1_; have F38 := n2_; have B2 := m0_; have B29 := m1_; have HB := nb_; clear n0_ n1_ n2_ m0_ m1_ nb_; have B43 := Aside0.mk hbox; have B43n := Aside0.mk hg; have B43z := Aside0.mk hb.size; have B43y := Aside0.mk (blk_lt B43.out); clear hb hbox hg; have hczgb1 : w44.cell? ⟨gb1, 0, none⟩ = some (.slice A0_0 l0_0.length c0_0) := (blk_cell B2.out 0).trans rfl; have hfzgb1 := blk_frozen B2.out 0; have hczgb28 : w44.cell? ⟨gb28, 0, none⟩ = some (.slice Ao27 t19.length co27) := (blk_cell B29.out 0).trans rfl; have hfzgb28 := blk_frozen B29.out 0; have hczgb42 : w44.cell? ⟨gb42, 0, none⟩ = some (.slice none 0 0) := (blk_cell B43.out 0).trans rfl; have hfzgb42 := blk_frozen B43.out 0) | ((with_reducible refine gate_store (t := 27) (p := 10) rfl ?_); refine store_event (t := 27) (p := 10) (v := ?vow45_) (w1 := (w44.setCell ⟨gb42, 0, none⟩ (.slice Ao41 t34.length co41))) ?hg ?ho ?hn ?hr ?_; (case ho => rfl); (case hg => rfl); (case hn => rfl); (case hr => first | (go_simp; done) | (go_simp; rfl)); intro w45 hw; (try clear hczgb1 hfzgb1); (try clear hczgb28 hfzgb28); (try clear hczgb42 hfzgb42); have n0_ := Aside0.mk (OwnS.stored hw F14.out (by have := B2z.out; have := B2y.out; have := B2n.out; have := Z8.out; have := Z15.out; have := Z25.out; have := B29z.out; have := B29y.out; have := B29n.out; have := Z32.out; have := Z39.out; have := B43z.out; have := B43y.out; have := B43n.out; omega)); have n1_ := Aside0.mk (OwnS.stored hw F24.out (by have := B2z.out; have := B2y.out; have := B2n.out; have := Z8.out; have := Z15.out; have := Z25.out; have := B29z.out; have := B29y.out; have := B29n.out; have := Z32.out; have := Z39.out; have := B43z.out; have := B43y.out; have := B43n.out; omega)); have n2_ := Aside0.mk (OwnS.stored hw F38.out (by have := B2z.out; have := B2y.out; have := B2n.out; have := Z8.out; have := Z15.out; have := Z25.out; have := B29z.out; have := B29y.out; have := B29n.out; have := Z32.out; have := Z39.out; have := B43z.out; have := B43y.out; have := B43n.out; omega)); have m0_ : Aside0 (w45.heap[gb1]? = some (.cells #[.slice A0_0 l0_0.length c0_0] 24 (0, 0))) := Aside0.mk (blk_stored hw B2.out (by have := B2z.out; have := B2y.out; have := B2n.out; have := Z8.out; have := Z15.out; have := Z25.out; have := B29z.out; have := B29y.out; have := B29n.out; have := Z32.out; have := Z39.out; have := B43z.out; have := B43y.out; have := B43n.out; omega)); have m1_ : Aside0 (w45.heap[gb28]? = some (.cells #[.slice Ao27 t19.length co27] 27 (0, 0))) := Aside0.mk (blk_stored hw B29.out (by have := B2z.out; have := B2y.out; have := B2n.out; have := Z8.out; have := Z15.out; have := Z25.out; have := B29z.out; have := B29y.out; have := B29n.out; have := Z32.out; have := Z39.out; have := B43z.out; have := B43y.out; have := B43n.out; omega)); have m2_ : Aside0 (w45.heap[gb42]? = some (.cells #[.slice Ao41 t34.length co41] 27 (0, 0))) := Aside0.mk (blk_stored0 hw B43.out rfl); have nb_ := Aside0.mk (below_stored hw HB.out (by have := B2z.out; have := B2y.out; have := B2n.out; have := Z8.out; have := Z15.out; have := Z25.out; have := B29z.out; have := B29y.out; have := B29n.out; have := Z32.out; have := Z39.out; have := B43z.out; have := B43y.out; have := B43n.out; omega)); have Z46 := Aside0.mk (size_stored hw); clear F14 F24 F38 B2 B29 B43 HB; have F14 := n0_; have F24 := n1_; have F38 := n2_; have B2 := m0_; have B29 := m1_; have B43 := m2_; have HB := nb_; clear n0_ n1_ n2_ m0_ m1_ m2_ nb_ hw; have hczgb1 : w45.cell? ⟨gb1, 0, none⟩ = some (.slice A0_0 l0_0.length c0_0) := (blk_cell B2.out 0).trans rfl; have hfzgb1 := blk_frozen B2.out 0; have hczgb28 : w45.cell? ⟨gb28, 0, none⟩ = some (.slice Ao27 t19.length co27) := (blk_cell B29.out 0).trans rfl; have hfzgb28 := blk_frozen B29.out 0; have hczgb42 : w45.cell? ⟨gb42, 0, none⟩ = some (.slice Ao41 t34.length co41) := (blk_cell B43.out 0).trans rfl; have hfzgb42 := blk_frozen B43.out 0) | (go_at_call 34; have u_ := tok51; clear u_; ((with_reducible refine (impl_SplitNode.calls k _ _ t34 a1 a2 t48 t49 _ (Kd.S_reads' F38.out).2.2 (S_cap F38.out) A47.out).mono ?_)); (try clear hczgb1 hfzgb1); (try clear hczgb28 hfzgb28); (try clear hczgb42 hfzgb42); rintro e w50 ⟨v52, rfl, ho0, hb⟩; have nF53_ := Aside0.mk (OwnS.make HB.out hb ho0); have n0_ := Aside0.mk (OwnS.below F14.out hb); have n1_ := Aside0.mk (OwnS.below F24.out hb); have n2_ := Aside0.mk (OwnS.below F38.out hb); have m0_ := Aside0.mk (blk_below B2.out hb); have m1_ := Aside0.mk (blk_below B29.out hb); have m2_ := Aside0.mk (blk_below B43.out hb); have nb_ := Aside0.mk (below_step HB.out hb); clear F14 F24 F38 B2 B29 B43 HB; have F14 := n0_; have F24 := n1_; have F38 := n2_; have B2 := m0_; have B29 := m1_; have B43 := m2_; have HB := nb_; clear n0_ n1_ n2_ m0_ m1_ m2_ nb_; have Z54 := Aside0.mk hb.size; have F53 := nF53_; clear nF53_; obtain ⟨Ao56, co56, eo56⟩ := Kd.S_slice F53.out; subst eo56; clear hb tok51 ho0; have hczgb1 : w50.cell? ⟨gb1, 0, none⟩ = some (.slice A0_0 l0_0.length c0_0) := (blk_cell B2.out 0).trans rfl; have hfzgb1 := blk_frozen B2.out 0; have hczgb28 : w50.cell? ⟨gb28, 0, none⟩ = some (.slice Ao27 t19.length co27) := (blk_cell B29.out 0).trans rfl; have hfzgb28 := blk_frozen B29.out 0; have hczgb42 : w50.cell? ⟨gb42, 0, none⟩ = some (.slice Ao41 t34.length co41) := (blk_cell B43.out 0).trans rfl; have hfzgb42 := blk_frozen B43.out 0) | ((with_reducible refine gate_dst (N := 11) rfl ?_); refine box_event ?hg (N := 11) ?hd (cs := #[.slice none 0 0]) (t := 27) ?hr ?_; (case hd => rfl); (case hg => rfl); (case hr => first | (go_simp; done) | (go_simp; rfl)); intro gb57 hg w59 hbox hb; (try clear hczgb1 hfzgb1); (try clear hczgb28 hfzgb28); (try clear hczgb42 hfzgb42); have n0_ := Aside0.mk (OwnS.below F14.out hb); have n1_ := Aside0.mk (OwnS.below F24.out hb); have n2_ := Aside0.mk (OwnS.below F38.out hb); have n3_ := Aside0.mk (OwnS.below F53.out hb); have m0_ := Aside0.mk (blk_below B2.out hb); have m1_ := Aside0.mk (blk_below B29.out hb); have m2_ := Aside0.mk (blk_below B43.out hb); have nb_ := Aside0.mk (below_step HB.out hb); clear F14 F24 F38 F53 B2 B29 B43 HB; have F14 := n0_; have F24 := n1_; have F38 := n2_; have F53 := n3_; have B2 := m0_; have B29 := m1_; have B43 := m2_; have HB := nb_; clear n0_ n1_ n2_ n3_ m0_ m1_ m2_ nb_; have B58 := Aside0.mk hbox; have B58n := Aside0.mk hg; have B58z := Aside0.mk hb.size; have B58y := Aside0.mk (blk_lt B58.out); clear hb hbox hg; have hczgb1 : w59.cell? ⟨gb1, 0, none⟩ = some (.slice A0_0 l0_0.length c0_0) := (blk_cell B2.out 0).trans rfl; have hfzgb1 := blk_frozen B2.out 0; have hczgb28 : w59.cell? ⟨gb28, 0, none⟩ = some (.slice Ao27 t19.length co27) := (blk_cell B29.out 0).trans rfl; have hfzgb28 := blk_frozen B29.out 0; have hczgb42 : w59.cell? ⟨gb42, 0, none⟩ = some (.slice Ao41 t34.length co41) := (blk_cell B43.out 0).trans rfl; have hfzgb42 := blk_frozen B43.out 0; have hczgb57 : w59.cell? ⟨gb57, 0, none⟩ = some (.slice none 0 0) := (blk_cell B58.out 0).trans rfl; have hfzgb57 := blk_frozen B58.out 0) | ((with_reducible refine gate_store (t := 27) (p := 11) rfl ?_); refine store_event (t := 27) (p := 11) (v := ?vow60_) (w1 := (w59.setCell ⟨gb57, 0, none⟩ (.slice Ao56 t48.length co56))) ?hg ?ho ?hn ?hr ?_; (case ho => rfl); (case hg => rfl); (case hn => rfl); (case hr => first | (go_simp; done) | (go_simp; rfl)); intro w60 hw; (try clear hczgb1 hfzgb1); (try clear hczgb28 hfzgb28); (try clear hczgb42 hfzgb42); (try clear hczgb57 hfzgb57); have n0_ := Aside0.mk (OwnS.stored hw F14.out (by have := B2z.out; have := B2y.out; have := B2n.out; have := Z8.out; have := Z15.out; have := Z25.out; have := B29z.out; have := B29y.out; have := B29n.out; have := Z32.out; have := Z39.out; have := B43z.out; have := B43y.out; have := B43n.out; have := Z46.out; have := Z54.out; have := B58z.out; have := B58y.out; have := B58n.out; omega)); have n1_ := Aside0.mk (OwnS.stored hw F24.out (by have := B2z.out; have := B2y.out; have := B2n.out; have := Z8.out; have := Z15.out; have := Z25.out; have := B29z.out; have := B29y.out; have := B29n.out; have := Z32.out; have := Z39.out; have := B43z.out; have := B43y.out; have := B43n.out; have := Z46.out; have := Z54.out; have := B58z.out; have := B58y.out; have := B58n.out; omega)); have n2_ := Aside0.mk (OwnS.stored hw F38.out (by have := B2z.out; have := B2y.out; have := B2n.out; have := Z8.out; have := Z15.out; have := Z25.out; have := B29z.out; have := B29y.out; have := B29n.out; have := Z32.out; have := Z39.out; have := B43z.out; have := B43y.out; have := B43n.out; have := Z46.out; have := Z54.out; have := B58z.out; have := B58y.out; have := B58n.out; omega)); have n3_ := Aside0.mk (OwnS.stored hw F53.out (by have := B2z.out; have := B2y.out; have := B2n.out; have := Z8.out; have := Z15.out; have := Z25.out; have := B29z.out; have := B29y.out; have := B29n.out; have := Z32.out; have := Z39.out; have := B43z.out; have := B43y.out; have := B43n.out; have := Z46.out; have := Z54.out; have := B58z.out; have := B58y.out; have := B58n.out; omega)); have m0_ : Aside0 (w60.heap[gb1]? = some (.cells #[.slice A0_0 l0_0.length c0_0] 24 (0, 0))) := Aside0.mk (blk_stored hw B2.out (by have := B2z.out; have := B2y.out; have := B2n.out; have := Z8.out; have := Z15.out; have := Z25.out; have := B29z.out; have := B29y.out; have := B29n.out; have := Z32.out; have := Z39.out; have := B43z.out; have := B43y.out; have := B43n.out; have := Z46.out; have := Z54.out; have := B58z.out; have := B58y.out; have := B58n.out; omega)); have m1_ : Aside0 (w60.heap[gb28]? = some (.cells #[.slice Ao27 t19.length co27] 27 (0, 0))) := Aside0.mk (blk_stored hw B29.out (by have := B2z.out; have := B2y.out; have := B2n.out; have := Z8.out; have := Z15.out; have := Z25.out; have := B29z.out; have := B29y.out; have := B29n.out; have := Z32.out; have := Z39.out; have := B43z.out; have := B43y.out; have := B43n.out; have := Z46.out; have := Z54.out; have := B58z.out; have := B58y.out; have := B58n.out; omega)); have m2_ : Aside0 (w60.heap[gb42]? = some (.cells #[.slice Ao41 t34.length co41] 27 (0, 0))) := Aside0.mk (blk_stored hw B43.out (by have := B2z.out; have := B2y.out; have := B2n.out; have := Z8.out; have := Z15.out; have := Z25.out; have := B29z.out; have := B29y.out; have := B29n.out; have := Z32.out; have := Z39.out; have := B43z.out; have := B43y.out; have := B43n.out; have := Z46.out; have := Z54.out; have := B58z.out; have := B58y.out; have := B58n.out; omega)); have m3_ : Aside0 (w60.heap[gb57]? = some (.cells #[.slice Ao56 t48.length co56] 27 (0, 0))) := Aside0.mk (blk_stored0 hw B58.out rfl); have nb_ := Aside0.mk (below_stored hw HB.out (by have := B2z.out; have := B2y.out; have := B2n.out; have := Z8.out; have := Z15.out; have := Z25.out; have := B29z.out; have := B29y.out; have := B29n.out; have := Z32.out; have := Z39.out; have := B43z.out; have := B43y.out; have := B43n.out; have := Z46.out; have := Z54.out; have := B58z.out; have := B58y.out; have := B58n.out; omega)); have Z61 := Aside0.mk (size_stored hw); clear F14 F24 F38 F53 B2 B29 B43 B58 HB; have F14 := n0_; have F24 := n1_; have F38 := n2_; have F53 := n3_; have B2 := m0_; have B29 := m1_; have B43 := m2_; have B58 := m3_; have HB := nb_; clear n0_ n1_ n2_ n3_ m0_ m1_ m2_ m3_ nb_ hw; have hczgb1 : w60.cell? ⟨gb1, 0, none⟩ = some (.slice A0_0 l0_0.length c0_0) := (blk_cell B2.out 0).trans rfl; have hfzgb1 := blk_frozen B2.out 0; have hczgb28 : w60.cell? ⟨gb28, 0, none⟩ = some (.slice Ao27 t19.length co27) := (blk_cell B29.out 0).trans rfl; have hfzgb28 := blk_frozen B29.out 0; have hczgb42 : w60.cell? ⟨gb42, 0, none⟩ = some (.slice Ao41 t34.length co41) := (blk_cell B43.out 0).trans rfl; have hfzgb42 := blk_frozen B43.out 0; have hczgb57 : w60.cell? ⟨gb57, 0, none⟩ = some (.slice Ao56 t48.length co56) := (blk_cell B58.out 0).trans rfl; have hfzgb57 := blk_frozen B58.out 0) | (go_at_call 15; have u_ := tok65; clear u_; ((with_reducible refine (laws_eqGraph.calls k _ _ t48 _ _ t19 true _ (Kd.S_reads' F53.out).2.2 (S_cap F53.out) (Kd.S_reads' F24.out).2.2 (S_cap F24.out) A62.out).mono ?_)); (try clear hczgb1 hfzgb1); (try clear hczgb28 hfzgb28); (try clear hczgb42 hfzgb42); (try clear hczgb57 hfzgb57); rintro e w64 ⟨rfl, hb⟩; have n0_ := Aside0.mk (OwnS.below F14.out hb); have n1_ := Aside0.mk (OwnS.below F24.out hb); have n2_ := Aside0.mk (OwnS.below F38.out hb); have n3_ := Aside0.mk (OwnS.below F53.out hb); have m0_ := Aside0.mk (blk_below B2.out hb); have m1_ := Aside0.mk (blk_below B29.out hb); have m2_ := Aside0.mk (blk_below B43.out hb); have m3_ := Aside0.mk (blk_below B58.out hb); have nb_ := Aside0.mk (below_step HB.out hb); clear F14 F24 F38 F53 B2 B29 B43 B58 HB; have F14 := n0_; have F24 := n1_; have F38 := n2_; have F53 := n3_; have B2 := m0_; have B29 := m1_; have B43 := m2_; have B58 := m3_; have HB := nb_; clear n0_ n1_ n2_ n3_ m0_ m1_ m2_ m3_ nb_; have Z66 := Aside0.mk hb.size; clear hb tok65; have hczgb1 : w64.cell? ⟨gb1, 0, none⟩ = some (.slice A0_0 l0_0.length c0_0) := (blk_cell B2.out 0).trans rfl; have hfzgb1 := blk_frozen B2.out 0; have hczgb28 : w64.cell? ⟨gb28, 0, none⟩ = some (.slice Ao27 t19.length co27) := (blk_cell B29.out 0).trans rfl; have hfzgb28 := blk_frozen B29.out 0; have hczgb42 : w64.cell? ⟨gb42, 0, none⟩ = some (.slice Ao41 t34.length co41) := (blk_cell B43.out 0).trans rfl; have hfzgb42 := blk_frozen B43.out 0; have hczgb57 : w64.cell? ⟨gb57, 0, none⟩ = some (.slice Ao56 t48.length co56) := (blk_cell B58.out 0).trans rfl; have hfzgb57 := blk_frozen B58.out 0))
          go_cut [53] (fun v53 wc => v53 = .bool false ∧ Aside0 (OwnS (Kd.slice 3 (Kd.int .i64)) 31 w wc w6.heap.size w11.heap.size (.slice Ao17 t10.length co17) t10) ∧ Aside0 (OwnS (Kd.slice 3 (Kd.int .i64)) 31 w wc w11.heap.size w21.heap.size (.slice Ao27 t19.length co27) t19) ∧ Aside0 (OwnS (Kd.slice 3 (Kd.int .i64)) 31 w wc w31.heap.size w35.heap.size (.slice Ao41 t34.length co41) t34) ∧ Aside0 (OwnS (Kd.slice 3 (Kd.int .i64)) 31 w wc w45.heap.size w50.heap.size (.slice Ao56 t48.length co56) t48) ∧ Aside0 (wc.heap[gb1]? = some (.cells #[.slice A0_0 l0_0.length c0_0] 24 (0, 0))) ∧ Aside0 (wc.heap[gb28]? = some (.cells #[.slice Ao27 t19.length co27] 27 (0, 0))) ∧ Aside0 (wc.heap[gb42]? = some (.cells #[.slice Ao41 t34.length co41] 27 (0, 0))) ∧ Aside0 (wc.heap[gb57]? = some (.cells #[.slice Ao56 t48.length co56] 27 (0, 0))) ∧ Aside0 (Below w.heap.size w wc) ∧ Aside0 (w64.heap.size ≤ wc.heap.size))
          case first =>
            have F14 := Aside0.mk (OwnS.drew F14.out)
            have F24 := Aside0.mk (OwnS.drew F24.out)
            have F38 := Aside0.mk (OwnS.drew F38.out)
            have F53 := Aside0.mk (OwnS.drew F53.out)
            have HB := Aside0.mk (below_drew HB.out)
            have B2 := Aside0.mk (blk_drew B2.out)
            have B29 := Aside0.mk (blk_drew B29.out)
            have B43 := Aside0.mk (blk_drew B43.out)
            have B58 := Aside0.mk (blk_drew B58.out)
            have Z81 : Aside0 (w64.heap.size ≤ w64.drew.heap.size) := ⟨Nat.le_refl _⟩
            go_region_with (first | (go_at_call 13; have u_ := tok70; clear u_; ((with_reducible refine (laws_toGraph.calls k _ _ l0_0 t68 _ (Kd.C_below HR0_0.out HB.out) HC0_0.out A67.out).mono ?_)); (try clear hczgb1 hfzgb1); (try clear hczgb28 hfzgb28); (try clear hczgb42 hfzgb42); (try clear hczgb57 hfzgb57); rintro e w69 ⟨v71, rfl, ho0, hb⟩; have nF72_ := Aside0.mk (OwnS.make HB.out hb ho0); have n0_ := Aside0.mk (OwnS.below F14.out hb); have n1_ := Aside0.mk (OwnS.below F24.out hb); have n2_ := Aside0.mk (OwnS.below F38.out hb); have n3_ := Aside0.mk (OwnS.below F53.out hb); have m0_ := Aside0.mk (blk_below B2.out hb); have m1_ := Aside0.mk (blk_below B29.out hb); have m2_ := Aside0.mk (blk_below B43.out hb); have m3_ := Aside0.mk (blk_below B58.out hb); have nb_ := Aside0.mk (below_step HB.out hb); clear F14 F24 F38 F53 B2 B29 B43 B58 HB; have F14 := n0_; have F24 := n1_; have F38 := n2_; have F53 := n3_; have B2 := m0_; have B29 := m1_; have B43 := m2_; have B58 := m3_; have HB := nb_; clear n0_ n1_ n2_ n3_ m0_ m1_ m2_ m3_ nb_; have Z73 := Aside0.mk hb.size; have F72 := nF72_; clear nF72_; obtain ⟨Ao75, co75, eo75⟩ := Kd.S_slice F72.out; subst eo75; clear hb tok70 ho0; have hczgb1 : w69.cell? ⟨gb1, 0, none⟩ = some (.slice A0_0 l0_0.length c0_0) := (blk_cell B2.out 0).trans rfl; have hfzgb1 := blk_frozen B2.out 0; have hczgb28 : w69.cell? ⟨gb28, 0, none⟩ = some (.slice Ao27 t19.length co27) := (blk_cell B29.out 0).trans rfl; have hfzgb28 := blk_frozen B29.out 0; have hczgb42 : w69.cell? ⟨gb42, 0, none⟩ = some (.slice Ao41 t34.length co41) := (blk_cell B43.out 0).trans rfl; have hfzgb42 := blk_frozen B43.out 0; have hczgb57 : w69.cell? ⟨gb57, 0, none⟩ = some (.slice Ao56 t48.length co56) := (blk_cell B58.out 0).trans rfl; have hfzgb57 := blk_frozen B58.out 0) | (go_at_call 15; have u_ := tok79; clear u_; ((with_reducible refine (laws_eqGraph.calls k _ _ t34 _ _ t68 true _ (Kd.S_reads' F38.out).2.2 (S_cap F38.out) (Kd.S_reads' F72.out).2.2 (S_cap F72.out) A76.out).mono ?_)); (try clear hczgb1 hfzgb1); (try clear hczgb28 hfzgb28); (try clear hczgb42 hfzgb42); (try clear hczgb57 hfzgb57); rintro e w78 ⟨rfl, hb⟩; have n0_ := Aside0.mk (OwnS.below F14.out hb); have n1_ := Aside0.mk (OwnS.below F24.out hb); have n2_ := Aside0.mk (OwnS.below F38.out hb); have n3_ := Aside0.mk (OwnS.below F53.out hb); have n4_ := Aside0.mk (OwnS.below F72.out hb); have m0_ := Aside0.mk (blk_below B2.out hb); have m1_ := Aside0.mk (blk_below B29.out hb); have m2_ := Aside0.mk (blk_below B43.out hb); have m3_ := Aside0.mk (blk_below B58.out hb); have nb_ := Aside0.mk (below_step HB.out hb); clear F14 F24 F38 F53 F72 B2 B29 B43 B58 HB; have F14 := n0_; have F24 := n1_; have F38 := n2_; have F53 := n3_; have F72 := n4_; have B2 := m0_; have B29 := m1_; have B43 := m2_; have B58 := m3_; have HB := nb_; clear n0_ n1_ n2_ n3_ n4_ m0_ m1_ m2_ m3_ nb_; have Z80 := Aside0.mk hb.size; clear hb tok79; have hczgb1 : w78.cell? ⟨gb1, 0, none⟩ = some (.slice A0_0 l0_0.length c0_0) := (blk_cell B2.out 0).trans rfl; have hfzgb1 := blk_frozen B2.out 0; have hczgb28 : w78.cell? ⟨gb28, 0, none⟩ = some (.slice Ao27 t19.length co27) := (blk_cell B29.out 0).trans rfl; have hfzgb28 := blk_frozen B29.out 0; have hczgb42 : w78.cell? ⟨gb42, 0, none⟩ = some (.slice Ao41 t34.length co41) := (blk_cell B43.out 0).trans rfl; have hfzgb42 := blk_frozen B43.out 0; have hczgb57 : w78.cell? ⟨gb57, 0, none⟩ = some (.slice Ao56 t48.length co56) := (blk_cell B58.out 0).trans rfl; have hfzgb57 := blk_frozen B58.out 0))
            all_goals go_wp2
            all_goals go_meet
            all_goals exact ⟨rfl, F14, F24, F38, F53, B2, B29, B43, B58, HB, ⟨by have := B2z.out; have := B2y.out; have := B2n.out; have := Z8.out; have := Z15.out; have := Z25.out; have := B29z.out; have := B29y.out; have := B29n.out; have := Z32.out; have := Z39.out; have := B43z.out; have := B43y.out; have := B43n.out; have := Z46.out; have := Z54.out; have := B58z.out; have := B58y.out; have := B58n.out; have := Z61.out; have := Z66.out; have := Z73.out; have := Z80.out; have := Z81.out; omega⟩⟩
          case rest =>
            clear F14
            clear F24
            clear F38
            clear F53
            clear HB B2 B29 B43 B58
            obtain ⟨rfl, F14, F24, F38, F53, B2, B29, B43, B58, HB, Z81⟩ := hcut
            (try clear hczgb1 hfzgb1)
            (try clear hczgb28 hfzgb28)
            (try clear hczgb42 hfzgb42)
            (try clear hczgb57 hfzgb57)
            have hczgb1 : wc.cell? ⟨gb1, 0, none⟩ = some (.slice A0_0 l0_0.length c0_0) := (blk_cell B2.out 0).trans rfl
            have hfzgb1 := blk_frozen B2.out 0
            have hczgb28 : wc.cell? ⟨gb28, 0, none⟩ = some (.slice Ao27 t19.length co27) := (blk_cell B29.out 0).trans rfl
            have hfzgb28 := blk_frozen B29.out 0
            have hczgb42 : wc.cell? ⟨gb42, 0, none⟩ = some (.slice Ao41 t34.length co41) := (blk_cell B43.out 0).trans rfl
            have hfzgb42 := blk_frozen B43.out 0
            have hczgb57 : wc.cell? ⟨gb57, 0, none⟩ = some (.slice Ao56 t48.length co56) := (blk_cell B58.out 0).trans rfl
            have hfzgb57 := blk_frozen B58.out 0
            go_wp2_with (first | (go_at_call 19; have u_ := tok86; clear u_; ((with_reducible refine (laws_markGraph.calls k (fun k_ => w31.heap.size ≤ k_ ∧ k_ < w35.heap.size) (.slice Ao41 t34.length co41) t34 1 t83 t84 w _ HB.out F38.out A82.out).mono ?_)); (try clear hczgb1 hfzgb1); (try clear hczgb28 hfzgb28); (try clear hczgb42 hfzgb42); (try clear hczgb57 hfzgb57); rintro e w85 ⟨rfl, hy, hb, hkp⟩; have Z87 := Aside0.mk hkp.1; have ny_ : Aside0 (OwnS (Kd.slice 3 (Kd.int .i64)) 31 w w85 w31.heap.size w35.heap.size (.slice Ao41 t34.length co41) t84) := ⟨hy⟩; have n0_ := Aside0.mk (OwnS.kept F14.out hkp (by have := B2z.out; have := B2y.out; have := B2n.out; have := Z8.out; have := Z15.out; have := Z25.out; have := B29z.out; have := B29y.out; have := B29n.out; have := Z32.out; have := Z39.out; have := B43z.out; have := B43y.out; have := B43n.out; have := Z46.out; have := Z54.out; have := B58z.out; have := B58y.out; have := B58n.out; have := Z61.out; have := Z66.out; have := Z81.out; omega)); have n1_ := Aside0.mk (OwnS.kept F24.out hkp (by have := B2z.out; have := B2y.out; have := B2n.out; have := Z8.out; have := Z15.out; have := Z25.out; have := B29z.out; have := B29y.out; have := B29n.out; have := Z32.out; have := Z39.out; have := B43z.out; have := B43y.out; have := B43n.out; have := Z46.out; have := Z54.out; have := B58z.out; have := B58y.out; have := B58n.out; have := Z61.out; have := Z66.out; have := Z81.out; omega)); have n3_ := Aside0.mk (OwnS.kept F53.out hkp (by have := B2z.out; have := B2y.out; have := B2n.out; have := Z8.out; have := Z15.out; have := Z25.out; have := B29z.out; have := B29y.out; have := B29n.out; have := Z32.out; have := Z39.out; have := B43z.out; have := B43y.out; have := B43n.out; have := Z46.out; have := Z54.out; have := B58z.out; have := B58y.out; have := B58n.out; have := Z61.out; have := Z66.out; have := Z81.out; omega)); have m0_ := Aside0.mk (blk_kept B2.out hkp (by have := B2n.out; have := B2z.out; have := B2y.out; have := B2n.out; have := Z8.out; have := Z15.out; have := Z25.out; have := B29z.out; have := B29y.out; have := B29n.out; have := Z32.out; have := Z39.out; have := B43z.out; have := B43y.out; have := B43n.out; have := Z46.out; have := Z54.out; have := B58z.out; have := B58y.out; have := B58n.out; have := Z61.out; have := Z66.out; have := Z81.out; intro h_; omega)); have m1_ := Aside0.mk (blk_kept B29.out hkp (by have := B29n.out; have := B2z.out; have := B2y.out; have := B2n.out; have := Z8.out; have := Z15.out; have := Z25.out; have := B29z.out; have := B29y.out; have := B29n.out; have := Z32.out; have := Z39.out; have := B43z.out; have := B43y.out; have := B43n.out; have := Z46.out; have := Z54.out; have := B58z.out; have := B58y.out; have := B58n.out; have := Z61.out; have := Z66.out; have := Z81.out; intro h_; omega)); have m2_ := Aside0.mk (blk_kept B43.out hkp (by have := B43n.out; have := B2z.out; have := B2y.out; have := B2n.out; have := Z8.out; have := Z15.out; have := Z25.out; have := B29z.out; have := B29y.out; have := B29n.out; have := Z32.out; have := Z39.out; have := B43z.out; have := B43y.out; have := B43n.out; have := Z46.out; have := Z54.out; have := B58z.out; have := B58y.out; have := B58n.out; have := Z61.out; have := Z66.out; have := Z81.out; intro h_; omega)); have m3_ := Aside0.mk (blk_kept B58.out hkp (by have := B58n.out; have := B2z.out; have := B2y.out; have := B2n.out; have := Z8.out; have := Z15.out; have := Z25.out; have := B29z.out; have := B29y.out; have := B29n.out; have := Z32.out; have := Z39.out; have := B43z.out; have := B43y.out; have := B43n.out; have := Z46.out; have := Z54.out; have := B58z.out; have := B58y.out; have := B58n.out; have := Z61.out; have := Z66.out; have := Z81.out; intro h_; omega)); have nb_ := Aside0.mk (hb); clear F14 F24 F53 B2 B29 B43 B58 HB; have F14 := n0_; have F24 := n1_; have F53 := n3_; have B2 := m0_; have B29 := m1_; have B43 := m2_; have B58 := m3_; have HB := nb_; clear n0_ n1_ n3_ m0_ m1_ m2_ m3_ nb_; have F88 := ny_; clear ny_ hy hb hkp F38; clear tok86; have hczgb1 : w85.cell? ⟨gb1, 0, none⟩ = some (.slice A0_0 l0_0.length c0_0) := (blk_cell B2.out 0).trans rfl; have hfzgb1 := blk_frozen B2.out 0; have hczgb28 : w85.cell? ⟨gb28, 0, none⟩ = some (.slice Ao27 t19.length co27) := (blk_cell B29.out 0).trans rfl; have hfzgb28 := blk_frozen B29.out 0; have hczgb42 : w85.cell? ⟨gb42, 0, none⟩ = some (.slice Ao41 t34.length co41) := (blk_cell B43.out 0).trans rfl; have hfzgb42 := blk_frozen B43.out 0; have hczgb57 : w85.cell? ⟨gb57, 0, none⟩ = some (.slice Ao56 t48.length co56) := (blk_cell B58.out 0).trans rfl; have hfzgb57 := blk_frozen B58.out 0) | (go_at_call 15; have u_ := tok92; clear u_; ((with_reducible refine (laws_eqGraph.calls k _ _ t48 _ _ t19 true _ (Kd.S_reads' F53.out).2.2 (S_cap F53.out) (Kd.S_reads' F24.out).2.2 (S_cap F24.out) A89.out).mono ?_)); (try clear hczgb1 hfzgb1); (try clear hczgb28 hfzgb28); (try clear hczgb42 hfzgb42); (try clear hczgb57 hfzgb57); rintro e w91 ⟨rfl, hb⟩; have n0_ := Aside0.mk (OwnS.below F14.out hb); have n1_ := Aside0.mk (OwnS.below F24.out hb); have n2_ := Aside0.mk (OwnS.below F88.out hb); have n3_ := Aside0.mk (OwnS.below F53.out hb); have m0_ := Aside0.mk (blk_below B2.out hb); have m1_ := Aside0.mk (blk_below B29.out hb); have m2_ := Aside0.mk (blk_below B43.out hb); have m3_ := Aside0.mk (blk_below B58.out hb); have nb_ := Aside0.mk (below_step HB.out hb); clear F14 F24 F88 F53 B2 B29 B43 B58 HB; have F14 := n0_; have F24 := n1_; have F88 := n2_; have F53 := n3_; have B2 := m0_; have B29 := m1_; have B43 := m2_; have B58 := m3_; have HB := nb_; clear n0_ n1_ n2_ n3_ m0_ m1_ m2_ m3_ nb_; have Z93 := Aside0.mk hb.size; clear hb tok92; have hczgb1 : w91.cell? ⟨gb1, 0, none⟩ = some (.slice A0_0 l0_0.length c0_0) := (blk_cell B2.out 0).trans rfl; have hfzgb1 := blk_frozen B2.out 0; have hczgb28 : w91.cell? ⟨gb28, 0, none⟩ = some (.slice Ao27 t19.length co27) := (blk_cell B29.out 0).trans rfl; have hfzgb28 := blk_frozen B29.out 0; have hczgb42 : w91.cell? ⟨gb42, 0, none⟩ = some (.slice Ao41 t34.length co41) := (blk_cell B43.out 0).trans rfl; have hfzgb42 := blk_frozen B43.out 0; have hczgb57 : w91.cell? ⟨gb57, 0, none⟩ = some (.slice Ao56 t48.length co56) := (blk_cell B58.out 0).trans rfl; have hfzgb57 := blk_frozen B58.out 0) | (go_at_call 19; have u_ := tok98; clear u_; ((with_reducible refine (laws_markGraph.calls k (fun k_ => w45.heap.size ≤ k_ ∧ k_ < w50.heap.size) (.slice Ao56 t48.length co56) t48 1 t95 t96 w _ HB.out F53.out A94.out).mono ?_)); (try clear hczgb1 hfzgb1); (try clear hczgb28 hfzgb28); (try clear hczgb42 hfzgb42); (try clear hczgb57 hfzgb57); rintro e w97 ⟨rfl, hy, hb, hkp⟩; have Z99 := Aside0.mk hkp.1; have ny_ : Aside0 (OwnS (Kd.slice 3 (Kd.int .i64)) 31 w w97 w45.heap.size w50.heap.size (.slice Ao56 t48.length co56) t96) := ⟨hy⟩; have n0_ := Aside0.mk (OwnS.kept F14.out hkp (by have := B2z.out; have := B2y.out; have := B2n.out; have := Z8.out; have := Z15.out; have := Z25.out; have := B29z.out; have := B29y.out; have := B29n.out; have := Z32.out; have := Z39.out; have := B43z.out; have := B43y.out; have := B43n.out; have := Z46.out; have := Z54.out; have := B58z.out; have := B58y.out; have := B58n.out; have := Z61.out; have := Z66.out; have := Z81.out; have := Z87.out; have := Z93.out; omega)); have n1_ := Aside0.mk (OwnS.kept F24.out hkp (by have := B2z.out; have := B2y.out; have := B2n.out; have := Z8.out; have := Z15.out; have := Z25.out; have := B29z.out; have := B29y.out; have := B29n.out; have := Z32.out; have := Z39.out; have := B43z.out; have := B43y.out; have := B43n.out; have := Z46.out; have := Z54.out; have := B58z.out; have := B58y.out; have := B58n.out; have := Z61.out; have := Z66.out; have := Z81.out; have := Z87.out; have := Z93.out; omega)); have n2_ := Aside0.mk (OwnS.kept F88.out hkp (by have := B2z.out; have := B2y.out; have := B2n.out; have := Z8.out; have := Z15.out; have := Z25.out; have := B29z.out; have := B29y.out; have := B29n.out; have := Z32.out; have := Z39.out; have := B43z.out; have := B43y.out; have := B43n.out; have := Z46.out; have := Z54.out; have := B58z.out; have := B58y.out; have := B58n.out; have := Z61.out; have := Z66.out; have := Z81.out; have := Z87.out; have := Z93.out; omega)); have m0_ := Aside0.mk (blk_kept B2.out hkp (by have := B2n.out; have := B2z.out; have := B2y.out; have := B2n.out; have := Z8.out; have := Z15.out; have := Z25.out; have := B29z.out; have := B29y.out; have := B29n.out; have := Z32.out; have := Z39.out; have := B43z.out; have := B43y.out; have := B43n.out; have := Z46.out; have := Z54.out; have := B58z.out; have := B58y.out; have := B58n.out; have := Z61.out; have := Z66.out; have := Z81.out; have := Z87.out; have := Z93.out; intro h_; omega)); have m1_ := Aside0.mk (blk_kept B29.out hkp (by have := B29n.out; have := B2z.out; have := B2y.out; have := B2n.out; have := Z8.out; have := Z15.out; have := Z25.out; have := B29z.out; have := B29y.out; have := B29n.out; have := Z32.out; have := Z39.out; have := B43z.out; have := B43y.out; have := B43n.out; have := Z46.out; have := Z54.out; have := B58z.out; have := B58y.out; have := B58n.out; have := Z61.out; have := Z66.out; have := Z81.out; have := Z87.out; have := Z93.out; intro h_; omega)); have m2_ := Aside0.mk (blk_kept B43.out hkp (by have := B43n.out; have := B2z.out; have := B2y.out; have := B2n.out; have := Z8.out; have := Z15.out; have := Z25.out; have := B29z.out; have := B29y.out; have := B29n.out; have := Z32.out; have := Z39.out; have := B43z.out; have := B43y.out; have := B43n.out; have := Z46.out; have := Z54.out; have := B58z.out; have := B58y.out; have := B58n.out; have := Z61.out; have := Z66.out; have := Z81.out; have := Z87.out; have := Z93.out; intro h_; omega)); have m3_ := Aside0.mk (blk_kept B58.out hkp (by have := B58n.out; have := B2z.out; have := B2y.out; have := B2n.out; have := Z8.out; have := Z15.out; have := Z25.out; have := B29z.out; have := B29y.out; have := B29n.out; have := Z32.out; have := Z39.out; have := B43z.out; have := B43y.out; have := B43n.out; have := Z46.out; have := Z54.out; have := B58z.out; have := B58y.out; have := B58n.out; have := Z61.out; have := Z66.out; have := Z81.out; have := Z87.out; have := Z93.out; intro h_; omega)); have nb_ := Aside0.mk (hb); clear F14 F24 F88 B2 B29 B43 B58 HB; have F14 := n0_; have F24 := n1_; have F88 := n2_; have B2 := m0_; have B29 := m1_; have B43 := m2_; have B58 := m3_; have HB := nb_; clear n0_ n1_ n2_ m0_ m1_ m2_ m3_ nb_; have F100 := ny_; clear ny_ hy hb hkp F53; clear tok98; have hczgb1 : w97.cell? ⟨gb1, 0, none⟩ = some (.slice A0_0 l0_0.length c0_0) := (blk_cell B2.out 0).trans rfl; have hfzgb1 := blk_frozen B2.out 0; have hczgb28 : w97.cell? ⟨gb28, 0, none⟩ = some (.slice Ao27 t19.length co27) := (blk_cell B29.out 0).trans rfl; have hfzgb28 := blk_frozen B29.out 0; have hczgb42 : w97.cell? ⟨gb42, 0, none⟩ = some (.slice Ao41 t34.length co41) := (blk_cell B43.out 0).trans rfl; have hfzgb42 := blk_frozen B43.out 0; have hczgb57 : w97.cell? ⟨gb57, 0, none⟩ = some (.slice Ao56 t48.length co56) := (blk_cell B58.out 0).trans rfl; have hfzgb57 := blk_frozen B58.out 0) | (go_at_call 35; have u_ := tok104; clear u_; refine calls_of_args (args' := #[.agg #[.slice Ao56 t96.length co56], .int .i64 1]) (by first | (rw [show t96.length = t48.length from (Kd.S_reads' F100.out).1.symm]; done) | (rw [show t96.length = t48.length from (Kd.S_reads' F100.out).1.symm]; rfl)) ?_; ((with_reducible refine (laws_heldGraph.calls k _ _ t96 1 t102 _ (Kd.S_reads' F100.out).2.2 (S_cap F100.out) A101.out).mono ?_)); (try clear hczgb1 hfzgb1); (try clear hczgb28 hfzgb28); (try clear hczgb42 hfzgb42); (try clear hczgb57 hfzgb57); rintro e w103 ⟨rfl, hb⟩; have n0_ := Aside0.mk (OwnS.below F14.out hb); have n1_ := Aside0.mk (OwnS.below F24.out hb); have n2_ := Aside0.mk (OwnS.below F88.out hb); have n3_ := Aside0.mk (OwnS.below F100.out hb); have m0_ := Aside0.mk (blk_below B2.out hb); have m1_ := Aside0.mk (blk_below B29.out hb); have m2_ := Aside0.mk (blk_below B43.out hb); have m3_ := Aside0.mk (blk_below B58.out hb); have nb_ := Aside0.mk (below_step HB.out hb); clear F14 F24 F88 F100 B2 B29 B43 B58 HB; have F14 := n0_; have F24 := n1_; have F88 := n2_; have F100 := n3_; have B2 := m0_; have B29 := m1_; have B43 := m2_; have B58 := m3_; have HB := nb_; clear n0_ n1_ n2_ n3_ m0_ m1_ m2_ m3_ nb_; have Z105 := Aside0.mk hb.size; clear hb tok104; have hczgb1 : w103.cell? ⟨gb1, 0, none⟩ = some (.slice A0_0 l0_0.length c0_0) := (blk_cell B2.out 0).trans rfl; have hfzgb1 := blk_frozen B2.out 0; have hczgb28 : w103.cell? ⟨gb28, 0, none⟩ = some (.slice Ao27 t19.length co27) := (blk_cell B29.out 0).trans rfl; have hfzgb28 := blk_frozen B29.out 0; have hczgb42 : w103.cell? ⟨gb42, 0, none⟩ = some (.slice Ao41 t34.length co41) := (blk_cell B43.out 0).trans rfl; have hfzgb42 := blk_frozen B43.out 0; have hczgb57 : w103.cell? ⟨gb57, 0, none⟩ = some (.slice Ao56 t48.length co56) := (blk_cell B58.out 0).trans rfl; have hfzgb57 := blk_frozen B58.out 0) | (go_at_call 13; have u_ := tok109; clear u_; ((with_reducible refine (laws_toGraph.calls k _ _ l0_0 t107 _ (Kd.C_below HR0_0.out HB.out) HC0_0.out A106.out).mono ?_)); (try clear hczgb1 hfzgb1); (try clear hczgb28 hfzgb28); (try clear hczgb42 hfzgb42); (try clear hczgb57 hfzgb57); rintro e w108 ⟨v110, rfl, ho0, hb⟩; have nF111_ := Aside0.mk (OwnS.make HB.out hb ho0); have n0_ := Aside0.mk (OwnS.below F14.out hb); have n1_ := Aside0.mk (OwnS.below F24.out hb); have n2_ := Aside0.mk (OwnS.below F88.out hb); have n3_ := Aside0.mk (OwnS.below F100.out hb); have m0_ := Aside0.mk (blk_below B2.out hb); have m1_ := Aside0.mk (blk_below B29.out hb); have m2_ := Aside0.mk (blk_below B43.out hb); have m3_ := Aside0.mk (blk_below B58.out hb); have nb_ := Aside0.mk (below_step HB.out hb); clear F14 F24 F88 F100 B2 B29 B43 B58 HB; have F14 := n0_; have F24 := n1_; have F88 := n2_; have F100 := n3_; have B2 := m0_; have B29 := m1_; have B43 := m2_; have B58 := m3_; have HB := nb_; clear n0_ n1_ n2_ n3_ m0_ m1_ m2_ m3_ nb_; have Z112 := Aside0.mk hb.size; have F111 := nF111_; clear nF111_; obtain ⟨Ao114, co114, eo114⟩ := Kd.S_slice F111.out; subst eo114; clear hb tok109 ho0; have hczgb1 : w108.cell? ⟨gb1, 0, none⟩ = some (.slice A0_0 l0_0.length c0_0) := (blk_cell B2.out 0).trans rfl; have hfzgb1 := blk_frozen B2.out 0; have hczgb28 : w108.cell? ⟨gb28, 0, none⟩ = some (.slice Ao27 t19.length co27) := (blk_cell B29.out 0).trans rfl; have hfzgb28 := blk_frozen B29.out 0; have hczgb42 : w108.cell? ⟨gb42, 0, none⟩ = some (.slice Ao41 t34.length co41) := (blk_cell B43.out 0).trans rfl; have hfzgb42 := blk_frozen B43.out 0; have hczgb57 : w108.cell? ⟨gb57, 0, none⟩ = some (.slice Ao56 t48.length co56) := (blk_cell B58.out 0).trans rfl; have hfzgb57 := blk_frozen B58.out 0) | (go_at_call 34; have u_ := tok119; clear u_; ((with_reducible refine (impl_SplitNode.calls k _ _ t107 a1 a2 t116 t117 _ (Kd.S_reads' F111.out).2.2 (S_cap F111.out) A115.out).mono ?_)); (try clear hczgb1 hfzgb1); (try clear hczgb28 hfzgb28); (try clear hczgb42 hfzgb42); (try clear hczgb57 hfzgb57); rintro e w118 ⟨v120, rfl, ho0, hb⟩; have nF121_ := Aside0.mk (OwnS.make HB.out hb ho0); have n0_ := Aside0.mk (OwnS.below F14.out hb); have n1_ := Aside0.mk (OwnS.below F24.out hb); have n2_ := Aside0.mk (OwnS.below F88.out hb); have n3_ := Aside0.mk (OwnS.below F100.out hb); have n4_ := Aside0.mk (OwnS.below F111.out hb); have m0_ := Aside0.mk (blk_below B2.out hb); have m1_ := Aside0.mk (blk_below B29.out hb); have m2_ := Aside0.mk (blk_below B43.out hb); have m3_ := Aside0.mk (blk_below B58.out hb); have nb_ := Aside0.mk (below_step HB.out hb); clear F14 F24 F88 F100 F111 B2 B29 B43 B58 HB; have F14 := n0_; have F24 := n1_; have F88 := n2_; have F100 := n3_; have F111 := n4_; have B2 := m0_; have B29 := m1_; have B43 := m2_; have B58 := m3_; have HB := nb_; clear n0_ n1_ n2_ n3_ n4_ m0_ m1_ m2_ m3_ nb_; have Z122 := Aside0.mk hb.size; have F121 := nF121_; clear nF121_; obtain ⟨Ao124, co124, eo124⟩ := Kd.S_slice F121.out; subst eo124; clear hb tok119 ho0; have hczgb1 : w118.cell? ⟨gb1, 0, none⟩ = some (.slice A0_0 l0_0.length c0_0) := (blk_cell B2.out 0).trans rfl; have hfzgb1 := blk_frozen B2.out 0; have hczgb28 : w118.cell? ⟨gb28, 0, none⟩ = some (.slice Ao27 t19.length co27) := (blk_cell B29.out 0).trans rfl; have hfzgb28 := blk_frozen B29.out 0; have hczgb42 : w118.cell? ⟨gb42, 0, none⟩ = some (.slice Ao41 t34.length co41) := (blk_cell B43.out 0).trans rfl; have hfzgb42 := blk_frozen B43.out 0; have hczgb57 : w118.cell? ⟨gb57, 0, none⟩ = some (.slice Ao56 t48.length co56) := (blk_cell B58.out 0).trans rfl; have hfzgb57 := blk_frozen B58.out 0) | ((with_reducible refine gate_dst (N := 16) rfl ?_); refine box_event ?hg (N := 16) ?hd (cs := #[.slice none 0 0]) (t := 27) ?hr ?_; (case hd => rfl); (case hg => rfl); (case hr => first | (go_simp; done) | (go_simp; rfl)); intro gb125 hg w127 hbox hb; (try clear hczgb1 hfzgb1); (try clear hczgb28 hfzgb28); (try clear hczgb42 hfzgb42); (try clear hczgb57 hfzgb57); have n0_ := Aside0.mk (OwnS.below F14.out hb); have n1_ := Aside0.mk (OwnS.below F24.out hb); have n2_ := Aside0.mk (OwnS.below F88.out hb); have n3_ := Aside0.mk (OwnS.below F100.out hb); have n4_ := Aside0.mk (OwnS.below F111.out hb); have n5_ := Aside0.mk (OwnS.below F121.out hb); have m0_ := Aside0.mk (blk_below B2.out hb); have m1_ := Aside0.mk (blk_below B29.out hb); have m2_ := Aside0.mk (blk_below B43.out hb); have m3_ := Aside0.mk (blk_below B58.out hb); have nb_ := Aside0.mk (below_step HB.out hb); clear F14 F24 F88 F100 F111 F121 B2 B29 B43 B58 HB; have F14 := n0_; have F24 := n1_; have F88 := n2_; have F100 := n3_; have F111 := n4_; have F121 := n5_; have B2 := m0_; have B29 := m1_; have B43 := m2_; have B58 := m3_; have HB := nb_; clear n0_ n1_ n2_ n3_ n4_ n5_ m0_ m1_ m2_ m3_ nb_; have B126 := Aside0.mk hbox; have B126n := Aside0.mk hg; have B126z := Aside0.mk hb.size; have B126y := Aside0.mk (blk_lt B126.out); clear hb hbox hg; have hczgb1 : w127.cell? ⟨gb1, 0, none⟩ = some (.slice A0_0 l0_0.length c0_0) := (blk_cell B2.out 0).trans rfl; have hfzgb1 := blk_frozen B2.out 0; have hczgb28 : w127.cell? ⟨gb28, 0, none⟩ = some (.slice Ao27 t19.length co27) := (blk_cell B29.out 0).trans rfl; have hfzgb28 := blk_frozen B29.out 0; have hczgb42 : w127.cell? ⟨gb42, 0, none⟩ = some (.slice Ao41 t34.length co41) := (blk_cell B43.out 0).trans rfl; have hfzgb42 := blk_frozen B43.out 0; have hczgb57 : w127.cell? ⟨gb57, 0, none⟩ = some (.slice Ao56 t48.length co56) := (blk_cell B58.out 0).trans rfl; have hfzgb57 := blk_frozen B58.out 0; have hczgb125 : w127.cell? ⟨gb125, 0, none⟩ = some (.slice none 0 0) := (blk_cell B126.out 0).trans rfl; have hfzgb125 := blk_frozen B126.out 0) | ((with_reducible refine gate_store (t := 27) (p := 16) rfl ?_); refine store_event (t := 27) (p := 16) (v := ?vow128_) (w1 := (w127.setCell ⟨gb125, 0, none⟩ (.slice Ao124 t116.length co124))) ?hg ?ho ?hn ?hr ?_; (case ho => rfl); (case hg => rfl); (case hn => rfl); (case hr => first | (go_simp; done) | (go_simp; rfl)); intro w128 hw; (try clear hczgb1 hfzgb1); (try clear hczgb28 hfzgb28); (try clear hczgb42 hfzgb42); (try clear hczgb57 hfzgb57); (try clear hczgb125 hfzgb125); have n0_ := Aside0.mk (OwnS.stored hw F14.out (by have := B2z.out; have := B2y.out; have := B2n.out; have := Z8.out; have := Z15.out; have := Z25.out; have := B29z.out; have := B29y.out; have := B29n.out; have := Z32.out; have := Z39.out; have := B43z.out; have := B43y.out; have := B43n.out; have := Z46.out; have := Z54.out; have := B58z.out; have := B58y.out; have := B58n.out; have := Z61.out; have := Z66.out; have := Z81.out; have := Z87.out; have := Z93.out; have := Z99.out; have := Z105.out; have := Z112.out; have := Z122.out; have := B126z.out; have := B126y.out; have := B126n.out; omega)); have n1_ := Aside0.mk (OwnS.stored hw F24.out (by have := B2z.out; have := B2y.out; have := B2n.out; have := Z8.out; have := Z15.out; have := Z25.out; have := B29z.out; have := B29y.out; have := B29n.out; have := Z32.out; have := Z39.out; have := B43z.out; have := B43y.out; have := B43n.out; have := Z46.out; have := Z54.out; have := B58z.out; have := B58y.out; have := B58n.out; have := Z61.out; have := Z66.out; have := Z81.out; have := Z87.out; have := Z93.out; have := Z99.out; have := Z105.out; have := Z112.out; have := Z122.out; have := B126z.out; have := B126y.out; have := B126n.out; omega)); have n2_ := Aside0.mk (OwnS.stored hw F88.out (by have := B2z.out; have := B2y.out; have := B2n.out; have := Z8.out; have := Z15.out; have := Z25.out; have := B29z.out; have := B29y.out; have := B29n.out; have := Z32.out; have := Z39.out; have := B43z.out; have := B43y.out; have := B43n.out; have := Z46.out; have := Z54.out; have := B58z.out; have := B58y.out; have := B58n.out; have := Z61.out; have := Z66.out; have := Z81.out; have := Z87.out; have := Z93.out; have := Z99.out; have := Z105.out; have := Z112.out; have := Z122.out; have := B126z.out; have := B126y.out; have := B126n.out; omega)); have n3_ := Aside0.mk (OwnS.stored hw F100.out (by have := B2z.out; have := B2y.out; have := B2n.out; have := Z8.out; have := Z15.out; have := Z25.out; have := B29z.out; have := B29y.out; have := B29n.out; have := Z32.out; have := Z39.out; have := B43z.out; have := B43y.out; have := B43n.out; have := Z46.out; have := Z54.out; have := B58z.out; have := B58y.out; have := B58n.out; have := Z61.out; have := Z66.out; have := Z81.out; have := Z87.out; have := Z93.out; have := Z99.out; have := Z105.out; have := Z112.out; have := Z122.out; have := B126z.out; have := B126y.out; have := B126n.out; omega)); have n4_ := Aside0.mk (OwnS.stored hw F111.out (by have := B2z.out; have := B2y.out; have := B2n.out; have := Z8.out; have := Z15.out; have := Z25.out; have := B29z.out; have := B29y.out; have := B29n.out; have := Z32.out; have := Z39.out; have := B43z.out; have := B43y.out; have := B43n.out; have := Z46.out; have := Z54.out; have := B58z.out; have := B58y.out; have := B58n.out; have := Z61.out; have := Z66.out; have := Z81.out; have := Z87.out; have := Z93.out; have := Z99.out; have := Z105.out; have := Z112.out; have := Z122.out; have := B126z.out; have := B126y.out; have := B126n.out; omega)); have n5_ := Aside0.mk (OwnS.stored hw F121.out (by have := B2z.out; have := B2y.out; have := B2n.out; have := Z8.out; have := Z15.out; have := Z25.out; have := B29z.out; have := B29y.out; have := B29n.out; have := Z32.out; have := Z39.out; have := B43z.out; have := B43y.out; have := B43n.out; have := Z46.out; have := Z54.out; have := B58z.out; have := B58y.out; have := B58n.out; have := Z61.out; have := Z66.out; have := Z81.out; have := Z87.out; have := Z93.out; have := Z99.out; have := Z105.out; have := Z112.out; have := Z122.out; have := B126z.out; have := B126y.out; have := B126n.out; omega)); have m0_ : Aside0 (w128.heap[gb1]? = some (.cells #[.slice A0_0 l0_0.length c0_0] 24 (0, 0))) := Aside0.mk (blk_stored hw B2.out (by have := B2z.out; have := B2y.out; have := B2n.out; have := Z8.out; have := Z15.out; have := Z25.out; have := B29z.out; have := B29y.out; have := B29n.out; have := Z32.out; have := Z39.out; have := B43z.out; have := B43y.out; have := B43n.out; have := Z46.out; have := Z54.out; have := B58z.out; have := B58y.out; have := B58n.out; have := Z61.out; have := Z66.out; have := Z81.out; have := Z87.out; have := Z93.out; have := Z99.out; have := Z105.out; have := Z112.out; have := Z122.out; have := B126z.out; have := B126y.out; have := B126n.out; omega)); have m1_ : Aside0 (w128.heap[gb28]? = some (.cells #[.slice Ao27 t19.length co27] 27 (0, 0))) := Aside0.mk (blk_stored hw B29.out (by have := B2z.out; have := B2y.out; have := B2n.out; have := Z8.out; have := Z15.out; have := Z25.out; have := B29z.out; have := B29y.out; have := B29n.out; have := Z32.out; have := Z39.out; have := B43z.out; have := B43y.out; have := B43n.out; have := Z46.out; have := Z54.out; have := B58z.out; have := B58y.out; have := B58n.out; have := Z61.out; have := Z66.out; have := Z81.out; have := Z87.out; have := Z93.out; have := Z99.out; have := Z105.out; have := Z112.out; have := Z122.out; have := B126z.out; have := B126y.out; have := B126n.out; omega)); have m2_ : Aside0 (w128.heap[gb42]? = some (.cells #[.slice Ao41 t34.length co41] 27 (0, 0))) := Aside0.mk (blk_stored hw B43.out (by have := B2z.out; have := B2y.out; have := B2n.out; have := Z8.out; have := Z15.out; have := Z25.out; have := B29z.out; have := B29y.out; have := B29n.out; have := Z32.out; have := Z39.out; have := B43z.out; have := B43y.out; have := B43n.out; have := Z46.out; have := Z54.out; have := B58z.out; have := B58y.out; have := B58n.out; have := Z61.out; have := Z66.out; have := Z81.out; have := Z87.out; have := Z93.out; have := Z99.out; have := Z105.out; have := Z112.out; have := Z122.out; have := B126z.out; have := B126y.out; have := B126n.out; omega)); have m3_ : Aside0 (w128.heap[gb57]? = some (.cells #[.slice Ao56 t48.length co56] 27 (0, 0))) := Aside0.mk (blk_stored hw B58.out (by have := B2z.out; have := B2y.out; have := B2n.out; have := Z8.out; have := Z15.out; have := Z25.out; have := B29z.out; have := B29y.out; have := B29n.out; have := Z32.out; have := Z39.out; have := B43z.out; have := B43y.out; have := B43n.out; have := Z46.out; have := Z54.out; have := B58z.out; have := B58y.out; have := B58n.out; have := Z61.out; have := Z66.out; have := Z81.out; have := Z87.out; have := Z93.out; have := Z99.out; have := Z105.out; have := Z112.out; have := Z122.out; have := B126z.out; have := B126y.out; have := B126n.out; omega)); have m4_ : Aside0 (w128.heap[gb125]? = some (.cells #[.slice Ao124 t116.length co124] 27 (0, 0))) := Aside0.mk (blk_stored0 hw B126.out rfl); have nb_ := Aside0.mk (below_stored hw HB.out (by have := B2z.out; have := B2y.out; have := B2n.out; have := Z8.out; have := Z15.out; have := Z25.out; have := B29z.out; have := B29y.out; have := B29n.out; have := Z32.out; have := Z39.out; have := B43z.out; have := B43y.out; have := B43n.out; have := Z46.out; have := Z54.out; have := B58z.out; have := B58y.out; have := B58n.out; have := Z61.out; have := Z66.out; have := Z81.out; have := Z87.out; have := Z93.out; have := Z99.out; have := Z105.out; have := Z112.out; have := Z122.out; have := B126z.out; have := B126y.out; have := B126n.out; omega)); have Z129 := Aside0.mk (size_stored hw); clear F14 F24 F88 F100 F111 F121 B2 B29 B43 B58 B126 HB; have F14 := n0_; have F24 := n1_; have F88 := n2_; have F100 := n3_; have F111 := n4_; have F121 := n5_; have B2 := m0_; have B29 := m1_; have B43 := m2_; have B58 := m3_; have B126 := m4_; have HB := nb_; clear n0_ n1_ n2_ n3_ n4_ n5_ m0_ m1_ m2_ m3_ m4_ nb_ hw; have hczgb1 : w128.cell? ⟨gb1, 0, none⟩ = some (.slice A0_0 l0_0.length c0_0) := (blk_cell B2.out 0).trans rfl; have hfzgb1 := blk_frozen B2.out 0; have hczgb28 : w128.cell? ⟨gb28, 0, none⟩ = some (.slice Ao27 t19.length co27) := (blk_cell B29.out 0).trans rfl; have hfzgb28 := blk_frozen B29.out 0; have hczgb42 : w128.cell? ⟨gb42, 0, none⟩ = some (.slice Ao41 t34.length co41) := (blk_cell B43.out 0).trans rfl; have hfzgb42 := blk_frozen B43.out 0; have hczgb57 : w128.cell? ⟨gb57, 0, none⟩ = some (.slice Ao56 t48.length co56) := (blk_cell B58.out 0).trans rfl; have hfzgb57 := blk_frozen B58.out 0; have hczgb125 : w128.cell? ⟨gb125, 0, none⟩ = some (.slice Ao124 t116.length co124) := (blk_cell B126.out 0).trans rfl; have hfzgb125 := blk_frozen B126.out 0) | (go_at_call 15; have u_ := tok133; clear u_; ((with_reducible refine (laws_eqGraph.calls k _ _ t116 _ _ t19 true _ (Kd.S_reads' F121.out).2.2 (S_cap F121.out) (Kd.S_reads' F24.out).2.2 (S_cap F24.out) A130.out).mono ?_)); (try clear hczgb1 hfzgb1); (try clear hczgb28 hfzgb28); (try clear hczgb42 hfzgb42); (try clear hczgb57 hfzgb57); (try clear hczgb125 hfzgb125); rintro e w132 ⟨rfl, hb⟩; have n0_ := Aside0.mk (OwnS.below F14.out hb); have n1_ := Aside0.mk (OwnS.below F24.out hb); have n2_ := Aside0.mk (OwnS.below F88.out hb); have n3_ := Aside0.mk (OwnS.below F100.out hb); have n4_ := Aside0.mk (OwnS.below F111.out hb); have n5_ := Aside0.mk (OwnS.below F121.out hb); have m0_ := Aside0.mk (blk_below B2.out hb); have m1_ := Aside0.mk (blk_below B29.out hb); have m2_ := Aside0.mk (blk_below B43.out hb); have m3_ := Aside0.mk (blk_below B58.out hb); have m4_ := Aside0.mk (blk_below B126.out hb); have nb_ := Aside0.mk (below_step HB.out hb); clear F14 F24 F88 F100 F111 F121 B2 B29 B43 B58 B126 HB; have F14 := n0_; have F24 := n1_; have F88 := n2_; have F100 := n3_; have F111 := n4_; have F121 := n5_; have B2 := m0_; have B29 := m1_; have B43 := m2_; have B58 := m3_; have B126 := m4_; have HB := nb_; clear n0_ n1_ n2_ n3_ n4_ n5_ m0_ m1_ m2_ m3_ m4_ nb_; have Z134 := Aside0.mk hb.size; clear hb tok133; have hczgb1 : w132.cell? ⟨gb1, 0, none⟩ = some (.slice A0_0 l0_0.length c0_0) := (blk_cell B2.out 0).trans rfl; have hfzgb1 := blk_frozen B2.out 0; have hczgb28 : w132.cell? ⟨gb28, 0, none⟩ = some (.slice Ao27 t19.length co27) := (blk_cell B29.out 0).trans rfl; have hfzgb28 := blk_frozen B29.out 0; have hczgb42 : w132.cell? ⟨gb42, 0, none⟩ = some (.slice Ao41 t34.length co41) := (blk_cell B43.out 0).trans rfl; have hfzgb42 := blk_frozen B43.out 0; have hczgb57 : w132.cell? ⟨gb57, 0, none⟩ = some (.slice Ao56 t48.length co56) := (blk_cell B58.out 0).trans rfl; have hfzgb57 := blk_frozen B58.out 0; have hczgb125 : w132.cell? ⟨gb125, 0, none⟩ = some (.slice Ao124 t116.length co124) := (blk_cell B126.out 0).trans rfl; have hfzgb125 := blk_frozen B126.out 0) | (go_at_call 35; have u_ := tok138; clear u_; refine calls_of_args (args' := #[.agg #[.slice Ao56 t96.length co56], .int .i64 1]) (by first | (rw [show t96.length = t48.length from (Kd.S_reads' F100.out).1.symm]; done) | (rw [show t96.length = t48.length from (Kd.S_reads' F100.out).1.symm]; rfl)) ?_; ((with_reducible refine (laws_heldGraph.calls k _ _ t96 1 t136 _ (Kd.S_reads' F100.out).2.2 (S_cap F100.out) A135.out).mono ?_)); (try clear hczgb1 hfzgb1); (try clear hczgb28 hfzgb28); (try clear hczgb42 hfzgb42); (try clear hczgb57 hfzgb57); (try clear hczgb125 hfzgb125); rintro e w137 ⟨rfl, hb⟩; have n0_ := Aside0.mk (OwnS.below F14.out hb); have n1_ := Aside0.mk (OwnS.below F24.out hb); have n2_ := Aside0.mk (OwnS.below F88.out hb); have n3_ := Aside0.mk (OwnS.below F100.out hb); have n4_ := Aside0.mk (OwnS.below F111.out hb); have n5_ := Aside0.mk (OwnS.below F121.out hb); have m0_ := Aside0.mk (blk_below B2.out hb); have m1_ := Aside0.mk (blk_below B29.out hb); have m2_ := Aside0.mk (blk_below B43.out hb); have m3_ := Aside0.mk (blk_below B58.out hb); have m4_ := Aside0.mk (blk_below B126.out hb); have nb_ := Aside0.mk (below_step HB.out hb); clear F14 F24 F88 F100 F111 F121 B2 B29 B43 B58 B126 HB; have F14 := n0_; have F24 := n1_; have F88 := n2_; have F100 := n3_; have F111 := n4_; have F121 := n5_; have B2 := m0_; have B29 := m1_; have B43 := m2_; have B58 := m3_; have B126 := m4_; have HB := nb_; clear n0_ n1_ n2_ n3_ n4_ n5_ m0_ m1_ m2_ m3_ m4_ nb_; have Z139 := Aside0.mk hb.size; clear hb tok138; have hczgb1 : w137.cell? ⟨gb1, 0, none⟩ = some (.slice A0_0 l0_0.length c0_0) := (blk_cell B2.out 0).trans rfl; have hfzgb1 := blk_frozen B2.out 0; have hczgb28 : w137.cell? ⟨gb28, 0, none⟩ = some (.slice Ao27 t19.length co27) := (blk_cell B29.out 0).trans rfl; have hfzgb28 := blk_frozen B29.out 0; have hczgb42 : w137.cell? ⟨gb42, 0, none⟩ = some (.slice Ao41 t34.length co41) := (blk_cell B43.out 0).trans rfl; have hfzgb42 := blk_frozen B43.out 0; have hczgb57 : w137.cell? ⟨gb57, 0, none⟩ = some (.slice Ao56 t48.length co56) := (blk_cell B58.out 0).trans rfl; have hfzgb57 := blk_frozen B58.out 0; have hczgb125 : w137.cell? ⟨gb125, 0, none⟩ = some (.slice Ao124 t116.length co124) := (blk_cell B126.out 0).trans rfl; have hfzgb125 := blk_frozen B126.out 0))
            go_ret
            exact ⟨rfl, HB.out⟩

/-- THE ONE PURE STATEMENT of laws_FnExactSplitNode: yours. -/
def laws_FnExactSplitNode.Pure : Prop := ∀ (l0_0 : List (List Int)) (a1 : Int) (a2 : Int), l0_0.length ≤ maxLen → (∀ x ∈ l0_0, (fun xs => xs.length ≤ maxLen ∧ ∀ x ∈ xs, (fun x => (Lit.int .i64 x).wf = true) x) x) → (Lit.int .i64 a1).wf = true → (Lit.int .i64 a2).wf = true → ∃ k, laws_FnExactSplitNode.f k l0_0 a1 a2 = some true

end Go.Proofs.Ytbagmhcdhemopaa.Q
