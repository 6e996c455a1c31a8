-- WRITTEN BY A PROGRAM OF THIS SESSION
import Derived.Test.YtmljikgegclolaaQ0
import Derived.Test.YtmljikgegclolaaQ2
import Derived.Test.YtmljikgegclolaaQ3
import Derived.Test.YtmljikgegclolaaQ5
import Derived.Test.YtmljikgegclolaaQ7
namespace Go.Proofs.Ytmljikgegclolaa.Q
open Go.RowKit Go.Proofs.YtmljikgegclolaaW.PrintWords Go.Proofs.YtmljikgegclolaaW.PrintLast Go.Proofs.YtmljikgegclolaaW.PrintMore
attribute [local go_sem] max2_int min2_int max_two min_two max_three min_three max_four min_four   -- for this text's walks alone
set_option linter.unusedVariables false
set_option linter.unusedSimpArgs false

/-! ### spec_l3Depths: function 52 -/
def spec_l3Depths.l0 : Nat → List Int → Int → List (S56) → Int → Int → Option (List Int)
  | 0, _, _, _, _, _ => none
  | k + 1, x3, x4, x7, x8, x9 => if x9 < x8 then (if 0 ≤ x9 then (if x9 < (x7.length : Int) then (if x3.length < 17592186044416 then ((some (x3 ++ [x4] : List Int)).bind fun y218 => ((spec_l3Opens.f ((rd_T56 x7 x9).f0)).bind fun t221 => (if t221 = true then (spec_l3Depths.l0 k y218 (wrap64 (x4 + 1)) x7 x8 (wrap64 (x9 + 1))) else (if ((rd_T56 x7 x9).f0) = 19 then (spec_l3Depths.l0 k y218 (wrap64 (x4 - 1)) x7 x8 (wrap64 (x9 + 1))) else (spec_l3Depths.l0 k y218 x4 x7 x8 (wrap64 (x9 + 1))))))) else (none)) else (none)) else (none)) else (some x3)
def spec_l3Depths.f (k : Nat) (l0 : List (S56)) : Option (List Int) := spec_l3Depths.l0 k ([] : List Int) 0 l0 (l0.length : Int) 0
theorem spec_l3Depths.mono_l : ∀ k, (∀ y0 y1 y2 y3 y4, LeO (spec_l3Depths.l0 k y0 y1 y2 y3 y4) (spec_l3Depths.l0 (k + 1) y0 y1 y2 y3 y4))
  | 0 => fun _ _ _ _ _ r h => by simp [spec_l3Depths.l0] at h
  | k + 1 => by
    have ih0 := spec_l3Depths.mono_l k
    · intro y0 y1 y2 y3 y4
      unfold spec_l3Depths.l0
      repeat' first
      | (with_reducible exact ih0 _ _ _ _ _)
      | (with_reducible exact LeO.refl _)
      | (with_reducible exact LeO.none _)
      | (with_reducible refine LeO.ite ?_ ?_)
      | (with_reducible refine LeO.bind ?_ (fun _ => ?_))
      | exact ih0 _ _ _ _ _
      | exact LeO.none _
      | refine LeO.ite ?_ ?_
      | refine LeO.bind ?_ (fun _ => ?_)
theorem spec_l3Depths.mono : ∀ a0 k, LeO (spec_l3Depths.f k a0) (spec_l3Depths.f (k + 1) a0) := by
  intro a0 k
  have ih0 := spec_l3Depths.mono_l k
  unfold spec_l3Depths.f
  repeat' first
      | (with_reducible exact ih0 _ _ _ _ _)
      | (with_reducible exact LeO.refl _)
      | (with_reducible exact LeO.none _)
      | (with_reducible refine LeO.ite ?_ ?_)
      | (with_reducible refine LeO.bind ?_ (fun _ => ?_))
      | exact ih0 _ _ _ _ _
      | exact LeO.none _
      | refine LeO.ite ?_ ?_
      | refine LeO.bind ?_ (fun _ => ?_)
set_option maxHeartbeats 8000000 in
set_option maxRecDepth 100000 in
theorem spec_l3Depths.calls (k : Nat) (A0 : Option Addr) (c0 : Nat) (l0 : List (S56)) (r : List Int) (w : World) (hr0 : Kd.C k56 w A0 l0.length l0) (hc0 : l0.length ≤ c0) (h : spec_l3Depths.f k l0 = some r) :
    Calls Try.prog 52 #[.slice A0 l0.length c0] w fun e w' => ∃ v0_ : Value, e = .returned (v0_) ∧ Kd.R (Kd.int .i64) 3 w' w.heap.size (fun _ => True) v0_ r ∧ Below w.heap.size w w' := by
  have hu56 := Try.underlying56
  have HR0 := Aside0.mk hr0
  have HC0 := Aside0.mk hc0
  clear hr0 hc0
  have HB := Aside0.mk (Below.refl w.heap.size w)
  have H : (spec_l3Depths.l0 k ([] : List Int) 0 l0 (l0.length : Int) 0) = some r := h
  clear h
  have H' := Aside0.mk H
  clear H
  go_enter Try.func52, Try.ntmps52
  go_wp2
  go_loopg [3, 4, 9] k (fun kq v3 v4 v9 w' => ∃ (x3_1 : List Int) (x4_1 : Int) (x9_1 : Int), v4 = .int .i64 x4_1 ∧ v9 = .int .i64 x9_1 ∧ Aside0 (spec_l3Depths.l0 kq x3_1 x4_1 l0 (l0.length : Int) x9_1 = some r) ∧ Aside0 (kq ≤ k) ∧ Aside0 (Kd.R (Kd.int .i64) 3 w' w.heap.size (fun _ => True) v3 x3_1) ∧ Aside0 (Below w.heap.size w w'))
  case atStart => exact ⟨(([] : List Int)), (0), (0), (by first | rfl | (simp; done) | (simp [*]; done)), (by first | rfl | (simp; done) | (simp [*]; done)), H', ⟨Nat.le_refl _⟩, ⟨by first | exact Kd.R_nil _ _ _ _ _ | exact Kd.N_nil _ _ _ _ _ | exact Kd.V_nil _ _ _ _ _ | exact Kd.Q_nil _ _ _ _ _ | exact Kd.S_nil _ _ _ _ _⟩, ⟨by repeat (first | (with_reducible first | exact HB.out | apply below_alloc | apply pw_below_drewN | apply below_drew1) | exact HB.out)⟩⟩
  case round =>
    clear H'
    obtain ⟨x3_1, x4_1, x9_1, rfl, rfl, HA, HK1, HO_3, HB⟩ := hrel
    cases gk with
    | zero => exact absurd HA.out (by simp [spec_l3Depths.l0])
    | succ k1 =>
      have H := HA.out
      clear HA
      simp only [spec_l3Depths.l0] at H
      by_cases c2 : x9_1 < (l0.length : Int)
      · rw [if_pos c2] at H
        have c2b0 : decide (x9_1 < (l0.length : Int)) = true := decide_eq_true c2
        clear c2
        by_cases c3 : 0 ≤ x9_1
        · rw [if_pos c3] at H
          have c3b0 : decide (0 ≤ x9_1) = true := decide_eq_true c3
          clear c3
          by_cases c4 : x9_1 < (l0.length : Int)
          · rw [if_pos c4] at H
            have c4b0 : decide (x9_1 < (l0.length : Int)) = true := decide_eq_true c4
            clear c4
            by_cases c5 : x3_1.length < 17592186044416
            · rw [if_pos c5] at H
              have LMc5 := Aside0.mk c5
              clear c5
              obtain ⟨y218, hy218⟩ : ∃ y_ : List Int, y_ = (x3_1 ++ [x4_1]) := ⟨_, rfl⟩
              replace H : ((spec_l3Opens.f ((rd_T56 l0 x9_1).f0)).bind fun t221 => (if t221 = true then (spec_l3Depths.l0 k1 y218 (wrap64 (x4_1 + 1)) l0 (l0.length : Int) (wrap64 (x9_1 + 1))) else (if ((rd_T56 l0 x9_1).f0) = 19 then (spec_l3Depths.l0 k1 y218 (wrap64 (x4_1 - 1)) l0 (l0.length : Int) (wrap64 (x9_1 + 1))) else (spec_l3Depths.l0 k1 y218 x4_1 l0 (l0.length : Int) (wrap64 (x9_1 + 1)))))) = some r := by first | (rw [hy218]; with_reducible exact H) | (have H2_ := (Option.bind_some _ _).symm.trans H; rw [hy218]; with_reducible exact H2_) | (have H2_ := (Option.bind_some _ _).symm.trans H; with_reducible exact H2_) | with_reducible exact H | (rw [hy218]; exact H) | exact H
              have Ny218 := Aside0.mk hy218
              clear hy218
              replace H := Option.bind_eq_some_iff.mp H
              obtain ⟨t221, A60, H⟩ := H
              replace H : (if t221 = true then (spec_l3Depths.l0 k1 y218 (wrap64 (x4_1 + 1)) l0 (l0.length : Int) (wrap64 (x9_1 + 1))) else (if ((rd_T56 l0 x9_1).f0) = 19 then (spec_l3Depths.l0 k1 y218 (wrap64 (x4_1 - 1)) l0 (l0.length : Int) (wrap64 (x9_1 + 1))) else (spec_l3Depths.l0 k1 y218 x4_1 l0 (l0.length : Int) (wrap64 (x9_1 + 1))))) = some r := H
              have A6 := Aside0.mk A60
              clear A60
              by_cases c7 : t221 = true
              · subst c7
                have H1 : (spec_l3Depths.l0 k1 y218 (wrap64 (x4_1 + 1)) l0 (l0.length : Int) (wrap64 (x9_1 + 1))) = some r := by rw [if_pos rfl] at H; exact H
                clear H
                have H := H1
                clear H1
                have H' := Aside0.mk H
                clear H
                have p216 : 0 ≤ (x9_1 : Int) := of_decide_eq_true (by first | (with_reducible assumption) | assumption)
                have q216 : x9_1 < (l0.length : Int) := of_decide_eq_true (by first | (with_reducible assumption) | assumption)
                obtain ⟨ad216, A216_2, c216_2, e216, hx216_0, hx216_1, hx216_2, hl216_2, hi216_2⟩ := at_T56 HR0.out x9_1 p216 q216
                cases e216
                replace hx216_0 := (HB.out.cell (World.block_lt_of_cell? w _ hx216_0)).trans hx216_0
                replace hx216_1 := (HB.out.cell (World.block_lt_of_cell? w _ hx216_1)).trans hx216_1
                replace hx216_2 := (HB.out.cell (World.block_lt_of_cell? w _ hx216_2)).trans hx216_2
                have HR216_2 := Aside0.mk hi216_2
                have HC216_2 := Aside0.mk hl216_2
                clear hi216_2 hl216_2
                replace p216 := eq_true p216
                replace q216 := eq_true q216
                go_wp2_with (first | ((with_reducible refine gate_dst (N := 6) rfl ?_); refine box_event ?hg (N := 6) ?hd (cs := #[.int .i64 0, .int .i64 0, .slice none 0 0]) (t := 56) ?hr ?_; (case hd => rfl); (case hg => rfl); (case hr => first | (go_simp; done) | (go_simp; rfl)); intro gb217 hg w8 hbox hb; have n0_ := Aside0.mk (Kd.R_below (by (with_reducible repeat (first | apply Kd.R_alloc | apply Kd.R_drewN | apply Kd.R_drew)); exact HO_3.out) hb); have n1_ := Aside0.mk (below_step (by repeat (first | (with_reducible first | exact HB.out | apply below_alloc | apply pw_below_drewN | apply below_drew1) | exact HB.out)) hb); have n2_ := Aside0.mk (hbox); have n3_ := Aside0.mk ((by rw [hg]; exact (below_size (by repeat (first | (with_reducible first | exact HB.out | apply below_alloc | apply pw_below_drewN | apply below_drew1) | exact HB.out))) : w.heap.size ≤ gb217)); have n4_ := Aside0.mk ((by rw [hg]; exact (below_size (by repeat (first | (with_reducible first | exact HB.out | apply below_alloc | apply pw_below_drewN | apply below_drew1) | exact HB.out))) : w.heap.size ≤ gb217)); clear HO_3; clear HB; have HO_3 := n0_; have HB := n1_; have BK217 := n2_; have GW217 := n3_; have GE217 := n4_; clear n0_ n1_ n2_ n3_ n4_; clear hb hbox hg; have hcz9_0 : w8.cell? ⟨gb217, 0, none⟩ = some (.int .i64 0) := (blk_cell BK217.out 0).trans rfl; have hcz9_1 : w8.cell? ⟨gb217, 1, none⟩ = some (.int .i64 0) := (blk_cell BK217.out 1).trans rfl; have hcz9_2 : w8.cell? ⟨gb217, 2, none⟩ = some (.slice none 0 0) := (blk_cell BK217.out 2).trans rfl; have hfz9_0 := blk_frozen BK217.out 0; have hfz9_1 := blk_frozen BK217.out 1; have hfz9_2 := blk_frozen BK217.out 2) | ((with_reducible refine gate_builtin (b := .append) (xs := #[.tmp 13, .tmp 15]) rfl ?_); at_builtin; refine Kd.R_append (Kd.int .i64) (w0 := w) w.heap.size rfl (.tmp 13) (.tmp 15) 29 3 (.int .i64 0) 8 rfl Try.underlying29 info3 rfl (by decide) (by omega) u3 x3_1 x4_1 [.int .i64 x4_1] (fun _ => True) (fun _ => False) rfl (by first | (go_simp; done) | (go_simp; rfl)) ?aP (fun _ hk => hk.elim) ?aF ?aO ?aB ?aS ?aL ?_; (case aP => exact rfl); (case aB => exact (by repeat (first | (with_reducible first | exact HB.out | apply below_alloc | apply pw_below_drewN | apply below_drew1 | refine below_set ?_ GE217.out) | exact HB.out))); (case aF => exact (fun _ _ => trivial)); (case aO => exact (by (with_reducible repeat (first | apply Kd.R_alloc | apply Kd.R_drewN | apply Kd.R_drew)); exact Kd.R_mono (Kd.R_far (p := ⟨gb217, 2, none⟩) (Kd.R_far (p := ⟨gb217, 1, none⟩) (Kd.R_far (p := ⟨gb217, 0, none⟩) (Kd.R_types HO_3.out BK217.out (by decide)) (fun _ hk => hk.2) (.int .i64 ((rd_T56 l0 x9_1).f0))) (fun _ hk => hk.2) (.int .i64 ((rd_T56 l0 x9_1).f1))) (fun _ hk => hk.2) (.slice A216_2 ((rd_T56 l0 x9_1).f2).length c216_2)) (fun _ hk => trivial))); (case aS => exact (below_size (by repeat (first | (with_reducible first | exact HB.out | apply below_alloc | apply pw_below_drewN | apply below_drew1 | refine below_set ?_ GE217.out) | exact HB.out)))); (case aL => have := LMc5.out; omega); intro v219 w10 ho hb hg hat; rw [← Ny218.out] at ho; have n0_ := Aside0.mk (blk_grown (g := gb217) (o := .cells #[.int .i64 ((rd_T56 l0 x9_1).f0), .int .i64 ((rd_T56 l0 x9_1).f1), .slice A216_2 ((rd_T56 l0 x9_1).f2).length c216_2] 56 (0, 0)) (by (with_reducible repeat (first | refine blk_drewN ?_ _ | refine blk_drew ?_ | refine blk_alloc ?_ _)); refine blk_put (cs := #[.int .i64 ((rd_T56 l0 x9_1).f0), .int .i64 ((rd_T56 l0 x9_1).f1), .slice none 0 0]) ?_ 2 _ rfl; (with_reducible repeat (first | refine blk_drewN ?_ _ | refine blk_drew ?_ | refine blk_alloc ?_ _)); refine blk_put (cs := #[.int .i64 ((rd_T56 l0 x9_1).f0), .int .i64 0, .slice none 0 0]) ?_ 1 _ rfl; (with_reducible repeat (first | refine blk_drewN ?_ _ | refine blk_drew ?_ | refine blk_alloc ?_ _)); refine blk_put (cs := #[.int .i64 0, .int .i64 0, .slice none 0 0]) ?_ 0 _ rfl; (with_reducible repeat (first | refine blk_drewN ?_ _ | refine blk_drew ?_ | refine blk_alloc ?_ _)); exact BK217.out) hg (Kd.R_ne HO_3.out BK217.out (by decide))); have n1_ := Aside0.mk (hb); have n2_ := Aside0.mk (ho); clear BK217; clear HB; clear HO_3; have BK217 := n0_; have HB := n1_; have HO220 := n2_; clear n0_ n1_ n2_; clear ho hb hg hat; have hcz11_0 : w10.cell? ⟨gb217, 0, none⟩ = some (.int .i64 ((rd_T56 l0 x9_1).f0)) := (blk_cell BK217.out 0).trans rfl; have hcz11_1 : w10.cell? ⟨gb217, 1, none⟩ = some (.int .i64 ((rd_T56 l0 x9_1).f1)) := (blk_cell BK217.out 1).trans rfl; have hcz11_2 : w10.cell? ⟨gb217, 2, none⟩ = some (.slice A216_2 ((rd_T56 l0 x9_1).f2).length c216_2) := (blk_cell BK217.out 2).trans rfl; have hfz11_0 := blk_frozen BK217.out 0; have hfz11_1 := blk_frozen BK217.out 1; have hfz11_2 := blk_frozen BK217.out 2) | ((with_reducible refine gate_callee (f := 74) rfl ?_); refine goesL_ (some 20) rfl rfl Try.func74 (by kernel_rfl) rfl #[.int .i64 ((rd_T56 l0 x9_1).f0)] rfl (by (try simp only [List.map_toArray, List.map_cons, List.map_nil]); first | done | rfl | (simp only [List.length_drop, List.length_take]; rfl)) ?_; (with_reducible refine (spec_l3Opens.calls ((rd_T56 l0 x9_1).f0) true _ A6.out).mono ?_); rintro e w' ⟨rfl, ⟨nd, rfl⟩⟩; refine ⟨_, rfl, ?_⟩))
                go_roundg k1
                case measure => have := HK1.out; omega
                case rel => exact ⟨(y218), (wrap64 (x4_1 + 1)), (wrap64 (x9_1 + 1)), (by first | rfl | (simp; done) | (simp [*]; done)), (by first | rfl | (simp; done) | (simp [*]; done)), H', ⟨by have := HK1.out; omega⟩, ⟨by (with_reducible repeat (first | apply Kd.R_alloc | apply Kd.R_drewN | apply Kd.R_drew)); exact HO220.out⟩, ⟨by repeat (first | (with_reducible first | exact HB.out | apply below_alloc | apply pw_below_drewN | apply below_drew1 | refine below_set ?_ GE217.out) | exact HB.out)⟩⟩
              · replace c7 := Bool.eq_false_iff.mpr c7
                subst c7
                have H1 : (if ((rd_T56 l0 x9_1).f0) = 19 then (spec_l3Depths.l0 k1 y218 (wrap64 (x4_1 - 1)) l0 (l0.length : Int) (wrap64 (x9_1 + 1))) else (spec_l3Depths.l0 k1 y218 x4_1 l0 (l0.length : Int) (wrap64 (x9_1 + 1)))) = some r := by rw [if_neg (show ¬ (false = true) by decide)] at H; exact H
                clear H
                have H := H1
                clear H1
                by_cases c12 : ((rd_T56 l0 x9_1).f0) = 19
                · rw [if_pos c12] at H
                  have c12b0 : (((rd_T56 l0 x9_1).f0) == 19) = true := beq_iff_eq.mpr c12
                  have c12b1 : (((rd_T56 l0 x9_1).f0) != 19) = false := bne_eq_false_iff_eq.mpr c12
                  clear c12
                  have H' := Aside0.mk H
                  clear H
                  have p216 : 0 ≤ (x9_1 : Int) := of_decide_eq_true (by first | (with_reducible assumption) | assumption)
                  have q216 : x9_1 < (l0.length : Int) := of_decide_eq_true (by first | (with_reducible assumption) | assumption)
                  obtain ⟨ad216, A216_2, c216_2, e216, hx216_0, hx216_1, hx216_2, hl216_2, hi216_2⟩ := at_T56 HR0.out x9_1 p216 q216
                  cases e216
                  replace hx216_0 := (HB.out.cell (World.block_lt_of_cell? w _ hx216_0)).trans hx216_0
                  replace hx216_1 := (HB.out.cell (World.block_lt_of_cell? w _ hx216_1)).trans hx216_1
                  replace hx216_2 := (HB.out.cell (World.block_lt_of_cell? w _ hx216_2)).trans hx216_2
                  have HR216_2 := Aside0.mk hi216_2
                  have HC216_2 := Aside0.mk hl216_2
                  clear hi216_2 hl216_2
                  replace p216 := eq_true p216
                  replace q216 := eq_true q216
                  go_wp2_with (first | ((with_reducible refine gate_dst (N := 6) rfl ?_); refine box_event ?hg (N := 6) ?hd (cs := #[.int .i64 0, .int .i64 0, .slice none 0 0]) (t := 56) ?hr ?_; (case hd => rfl); (case hg => rfl); (case hr => first | (go_simp; done) | (go_simp; rfl)); intro gb217 hg w13 hbox hb; have n0_ := Aside0.mk (Kd.R_below (by (with_reducible repeat (first | apply Kd.R_alloc | apply Kd.R_drewN | apply Kd.R_drew)); exact HO_3.out) hb); have n1_ := Aside0.mk (below_step (by repeat (first | (with_reducible first | exact HB.out | apply below_alloc | apply pw_below_drewN | apply below_drew1) | exact HB.out)) hb); have n2_ := Aside0.mk (hbox); have n3_ := Aside0.mk ((by rw [hg]; exact (below_size (by repeat (first | (with_reducible first | exact HB.out | apply below_alloc | apply pw_below_drewN | apply below_drew1) | exact HB.out))) : w.heap.size ≤ gb217)); have n4_ := Aside0.mk ((by rw [hg]; exact (below_size (by repeat (first | (with_reducible first | exact HB.out | apply below_alloc | apply pw_below_drewN | apply below_drew1) | exact HB.out))) : w.heap.size ≤ gb217)); clear HO_3; clear HB; have HO_3 := n0_; have HB := n1_; have BK217 := n2_; have GW217 := n3_; have GE217 := n4_; clear n0_ n1_ n2_ n3_ n4_; clear hb hbox hg; have hcz14_0 : w13.cell? ⟨gb217, 0, none⟩ = some (.int .i64 0) := (blk_cell BK217.out 0).trans rfl; have hcz14_1 : w13.cell? ⟨gb217, 1, none⟩ = some (.int .i64 0) := (blk_cell BK217.out 1).trans rfl; have hcz14_2 : w13.cell? ⟨gb217, 2, none⟩ = some (.slice none 0 0) := (blk_cell BK217.out 2).trans rfl; have hfz14_0 := blk_frozen BK217.out 0; have hfz14_1 := blk_frozen BK217.out 1; have hfz14_2 := blk_frozen BK217.out 2) | ((with_reducible refine gate_builtin (b := .append) (xs := #[.tmp 13, .tmp 15]) rfl ?_); at_builtin; refine Kd.R_append (Kd.int .i64) (w0 := w) w.heap.size rfl (.tmp 13) (.tmp 15) 29 3 (.int .i64 0) 8 rfl Try.underlying29 info3 rfl (by decide) (by omega) u3 x3_1 x4_1 [.int .i64 x4_1] (fun _ => True) (fun _ => False) rfl (by first | (go_simp; done) | (go_simp; rfl)) ?aP (fun _ hk => hk.elim) ?aF ?aO ?aB ?aS ?aL ?_; (case aP => exact rfl); (case aB => exact (by repeat (first | (with_reducible first | exact HB.out | apply below_alloc | apply pw_below_drewN | apply below_drew1 | refine below_set ?_ GE217.out) | exact HB.out))); (case aF => exact (fun _ _ => trivial)); (case aO => exact (by (with_reducible repeat (first | apply Kd.R_alloc | apply Kd.R_drewN | apply Kd.R_drew)); exact Kd.R_mono (Kd.R_far (p := ⟨gb217, 2, none⟩) (Kd.R_far (p := ⟨gb217, 1, none⟩) (Kd.R_far (p := ⟨gb217, 0, none⟩) (Kd.R_types HO_3.out BK217.out (by decide)) (fun _ hk => hk.2) (.int .i64 ((rd_T56 l0 x9_1).f0))) (fun _ hk => hk.2) (.int .i64 ((rd_T56 l0 x9_1).f1))) (fun _ hk => hk.2) (.slice A216_2 ((rd_T56 l0 x9_1).f2).length c216_2)) (fun _ hk => trivial))); (case aS => exact (below_size (by repeat (first | (with_reducible first | exact HB.out | apply below_alloc | apply pw_below_drewN | apply below_drew1 | refine below_set ?_ GE217.out) | exact HB.out)))); (case aL => have := LMc5.out; omega); intro v219 w15 ho hb hg hat; rw [← Ny218.out] at ho; have n0_ := Aside0.mk (blk_grown (g := gb217) (o := .cells #[.int .i64 ((rd_T56 l0 x9_1).f0), .int .i64 ((rd_T56 l0 x9_1).f1), .slice A216_2 ((rd_T56 l0 x9_1).f2).length c216_2] 56 (0, 0)) (by (with_reducible repeat (first | refine blk_drewN ?_ _ | refine blk_drew ?_ | refine blk_alloc ?_ _)); refine blk_put (cs := #[.int .i64 ((rd_T56 l0 x9_1).f0), .int .i64 ((rd_T56 l0 x9_1).f1), .slice none 0 0]) ?_ 2 _ rfl; (with_reducible repeat (first | refine blk_drewN ?_ _ | refine blk_drew ?_ | refine blk_alloc ?_ _)); refine blk_put (cs := #[.int .i64 ((rd_T56 l0 x9_1).f0), .int .i64 0, .slice none 0 0]) ?_ 1 _ rfl; (with_reducible repeat (first | refine blk_drewN ?_ _ | refine blk_drew ?_ | refine blk_alloc ?_ _)); refine blk_put (cs := #[.int .i64 0, .int .i64 0, .slice none 0 0]) ?_ 0 _ rfl; (with_reducible repeat (first | refine blk_drewN ?_ _ | refine blk_drew ?_ | refine blk_alloc ?_ _)); exact BK217.out) hg (Kd.R_ne HO_3.out BK217.out (by decide))); have n1_ := Aside0.mk (hb); have n2_ := Aside0.mk (ho); clear BK217; clear HB; clear HO_3; have BK217 := n0_; have HB := n1_; have HO220 := n2_; clear n0_ n1_ n2_; clear ho hb hg hat; have hcz16_0 : w15.cell? ⟨gb217, 0, none⟩ = some (.int .i64 ((rd_T56 l0 x9_1).f0)) := (blk_cell BK217.out 0).trans rfl; have hcz16_1 : w15.cell? ⟨gb217, 1, none⟩ = some (.int .i64 ((rd_T56 l0 x9_1).f1)) := (blk_cell BK217.out 1).trans rfl; have hcz16_2 : w15.cell? ⟨gb217, 2, none⟩ = some (.slice A216_2 ((rd_T56 l0 x9_1).f2).length c216_2) := (blk_cell BK217.out 2).trans rfl; have hfz16_0 := blk_frozen BK217.out 0; have hfz16_1 := blk_frozen BK217.out 1; have hfz16_2 := blk_frozen BK217.out 2) | ((with_reducible refine gate_callee (f := 74) rfl ?_); refine goesL_ (some 20) rfl rfl Try.func74 (by kernel_rfl) rfl #[.int .i64 ((rd_T56 l0 x9_1).f0)] rfl (by (try simp only [List.map_toArray, List.map_cons, List.map_nil]); first | done | rfl | (simp only [List.length_drop, List.length_take]; rfl)) ?_; (with_reducible refine (spec_l3Opens.calls ((rd_T56 l0 x9_1).f0) false _ A6.out).mono ?_); rintro e w' ⟨rfl, ⟨nd, rfl⟩⟩; refine ⟨_, rfl, ?_⟩))
                  go_roundg k1
                  case measure => have := HK1.out; omega
                  case rel => exact ⟨(y218), (wrap64 (x4_1 - 1)), (wrap64 (x9_1 + 1)), (by first | rfl | (simp; done) | (simp [*]; done)), (by first | rfl | (simp; done) | (simp [*]; done)), H', ⟨by have := HK1.out; omega⟩, ⟨by (with_reducible repeat (first | apply Kd.R_alloc | apply Kd.R_drewN | apply Kd.R_drew)); exact HO220.out⟩, ⟨by repeat (first | (with_reducible first | exact HB.out | apply below_alloc | apply pw_below_drewN | apply below_drew1 | refine below_set ?_ GE217.out) | exact HB.out)⟩⟩
                · rw [if_neg c12] at H
                  have c12b0 : (((rd_T56 l0 x9_1).f0) == 19) = false := beq_eq_false_iff_ne.mpr c12
                  have c12b1 : (((rd_T56 l0 x9_1).f0) != 19) = true := bne_iff_ne.mpr c12
                  have H' := Aside0.mk H
                  clear H
                  have p216 : 0 ≤ (x9_1 : Int) := of_decide_eq_true (by first | (with_reducible assumption) | assumption)
                  have q216 : x9_1 < (l0.length : Int) := of_decide_eq_true (by first | (with_reducible assumption) | assumption)
                  obtain ⟨ad216, A216_2, c216_2, e216, hx216_0, hx216_1, hx216_2, hl216_2, hi216_2⟩ := at_T56 HR0.out x9_1 p216 q216
                  cases e216
                  replace hx216_0 := (HB.out.cell (World.block_lt_of_cell? w _ hx216_0)).trans hx216_0
                  replace hx216_1 := (HB.out.cell (World.block_lt_of_cell? w _ hx216_1)).trans hx216_1
                  replace hx216_2 := (HB.out.cell (World.block_lt_of_cell? w _ hx216_2)).trans hx216_2
                  have HR216_2 := Aside0.mk hi216_2
                  have HC216_2 := Aside0.mk hl216_2
                  clear hi216_2 hl216_2
                  replace p216 := eq_true p216
                  replace q216 := eq_true q216
                  go_wp2_with (first | ((with_reducible refine gate_dst (N := 6) rfl ?_); refine box_event ?hg (N := 6) ?hd (cs := #[.int .i64 0, .int .i64 0, .slice none 0 0]) (t := 56) ?hr ?_; (case hd => rfl); (case hg => rfl); (case hr => first | (go_simp; done) | (go_simp; rfl)); intro gb217 hg w17 hbox hb; have n0_ := Aside0.mk (Kd.R_below (by (with_reducible repeat (first | apply Kd.R_alloc | apply Kd.R_drewN | apply Kd.R_drew)); exact HO_3.out) hb); have n1_ := Aside0.mk (below_step (by repeat (first | (with_reducible first | exact HB.out | apply below_alloc | apply pw_below_drewN | apply below_drew1) | exact HB.out)) hb); have n2_ := Aside0.mk (hbox); have n3_ := Aside0.mk ((by rw [hg]; exact (below_size (by repeat (first | (with_reducible first | exact HB.out | apply below_alloc | apply pw_below_drewN | apply below_drew1) | exact HB.out))) : w.heap.size ≤ gb217)); have n4_ := Aside0.mk ((by rw [hg]; exact (below_size (by repeat (first | (with_reducible first | exact HB.out | apply below_alloc | apply pw_below_drewN | apply below_drew1) | exact HB.out))) : w.heap.size ≤ gb217)); clear HO_3; clear HB; have HO_3 := n0_; have HB := n1_; have BK217 := n2_; have GW217 := n3_; have GE217 := n4_; clear n0_ n1_ n2_ n3_ n4_; clear hb hbox hg; have hcz18_0 : w17.cell? ⟨gb217, 0, none⟩ = some (.int .i64 0) := (blk_cell BK217.out 0).trans rfl; have hcz18_1 : w17.cell? ⟨gb217, 1, none⟩ = some (.int .i64 0) := (blk_cell BK217.out 1).trans rfl; have hcz18_2 : w17.cell? ⟨gb217, 2, none⟩ = some (.slice none 0 0) := (blk_cell BK217.out 2).trans rfl; have hfz18_0 := blk_frozen BK217.out 0; have hfz18_1 := blk_frozen BK217.out 1; have hfz18_2 := blk_frozen BK217.out 2) | ((with_reducible refine gate_builtin (b := .append) (xs := #[.tmp 13, .tmp 15]) rfl ?_); at_builtin; refine Kd.R_append (Kd.int .i64) (w0 := w) w.heap.size rfl (.tmp 13) (.tmp 15) 29 3 (.int .i64 0) 8 rfl Try.underlying29 info3 rfl (by decide) (by omega) u3 x3_1 x4_1 [.int .i64 x4_1] (fun _ => True) (fun _ => False) rfl (by first | (go_simp; done) | (go_simp; rfl)) ?aP (fun _ hk => hk.elim) ?aF ?aO ?aB ?aS ?aL ?_; (case aP => exact rfl); (case aB => exact (by repeat (first | (with_reducible first | exact HB.out | apply below_alloc | apply pw_below_drewN | apply below_drew1 | refine below_set ?_ GE217.out) | exact HB.out))); (case aF => exact (fun _ _ => trivial)); (case aO => exact (by (with_reducible repeat (first | apply Kd.R_alloc | apply Kd.R_drewN | apply Kd.R_drew)); exact Kd.R_mono (Kd.R_far (p := ⟨gb217, 2, none⟩) (Kd.R_far (p := ⟨gb217, 1, none⟩) (Kd.R_far (p := ⟨gb217, 0, none⟩) (Kd.R_types HO_3.out BK217.out (by decide)) (fun _ hk => hk.2) (.int .i64 ((rd_T56 l0 x9_1).f0))) (fun _ hk => hk.2) (.int .i64 ((rd_T56 l0 x9_1).f1))) (fun _ hk => hk.2) (.slice A216_2 ((rd_T56 l0 x9_1).f2).length c216_2)) (fun _ hk => trivial))); (case aS => exact (below_size (by repeat (first | (with_reducible first | exact HB.out | apply below_alloc | apply pw_below_drewN | apply below_drew1 | refine below_set ?_ GE217.out) | exact HB.out)))); (case aL => have := LMc5.out; omega); intro v219 w19 ho hb hg hat; rw [← Ny218.out] at ho; have n0_ := Aside0.mk (blk_grown (g := gb217) (o := .cells #[.int .i64 ((rd_T56 l0 x9_1).f0), .int .i64 ((rd_T56 l0 x9_1).f1), .slice A216_2 ((rd_T56 l0 x9_1).f2).length c216_2] 56 (0, 0)) (by (with_reducible repeat (first | refine blk_drewN ?_ _ | refine blk_drew ?_ | refine blk_alloc ?_ _)); refine blk_put (cs := #[.int .i64 ((rd_T56 l0 x9_1).f0), .int .i64 ((rd_T56 l0 x9_1).f1), .slice none 0 0]) ?_ 2 _ rfl; (with_reducible repeat (first | refine blk_drewN ?_ _ | refine blk_drew ?_ | refine blk_alloc ?_ _)); refine blk_put (cs := #[.int .i64 ((rd_T56 l0 x9_1).f0), .int .i64 0, .slice none 0 0]) ?_ 1 _ rfl; (with_reducible repeat (first | refine blk_drewN ?_ _ | refine blk_drew ?_ | refine blk_alloc ?_ _)); refine blk_put (cs := #[.int .i64 0, .int .i64 0, .slice none 0 0]) ?_ 0 _ rfl; (with_reducible repeat (first | refine blk_drewN ?_ _ | refine blk_drew ?_ | refine blk_alloc ?_ _)); exact BK217.out) hg (Kd.R_ne HO_3.out BK217.out (by decide))); have n1_ := Aside0.mk (hb); have n2_ := Aside0.mk (ho); clear BK217; clear HB; clear HO_3; have BK217 := n0_; have HB := n1_; have HO220 := n2_; clear n0_ n1_ n2_; clear ho hb hg hat; have hcz20_0 : w19.cell? ⟨gb217, 0, none⟩ = some (.int .i64 ((rd_T56 l0 x9_1).f0)) := (blk_cell BK217.out 0).trans rfl; have hcz20_1 : w19.cell? ⟨gb217, 1, none⟩ = some (.int .i64 ((rd_T56 l0 x9_1).f1)) := (blk_cell BK217.out 1).trans rfl; have hcz20_2 : w19.cell? ⟨gb217, 2, none⟩ = some (.slice A216_2 ((rd_T56 l0 x9_1).f2).length c216_2) := (blk_cell BK217.out 2).trans rfl; have hfz20_0 := blk_frozen BK217.out 0; have hfz20_1 := blk_frozen BK217.out 1; have hfz20_2 := blk_frozen BK217.out 2) | ((with_reducible refine gate_callee (f := 74) rfl ?_); refine goesL_ (some 20) rfl rfl Try.func74 (by kernel_rfl) rfl #[.int .i64 ((rd_T56 l0 x9_1).f0)] rfl (by (try simp only [List.map_toArray, List.map_cons, List.map_nil]); first | done | rfl | (simp only [List.length_drop, List.length_take]; rfl)) ?_; (with_reducible refine (spec_l3Opens.calls ((rd_T56 l0 x9_1).f0) false _ A6.out).mono ?_); rintro e w' ⟨rfl, ⟨nd, rfl⟩⟩; refine ⟨_, rfl, ?_⟩))
                  go_roundg k1
                  case measure => have := HK1.out; omega
                  case rel => exact ⟨(y218), (x4_1), (wrap64 (x9_1 + 1)), (by first | rfl | (simp; done) | (simp [*]; done)), (by first | rfl | (simp; done) | (simp [*]; done)), H', ⟨by have := HK1.out; omega⟩, ⟨by (with_reducible repeat (first | apply Kd.R_alloc | apply Kd.R_drewN | apply Kd.R_drew)); exact HO220.out⟩, ⟨by repeat (first | (with_reducible first | exact HB.out | apply below_alloc | apply pw_below_drewN | apply below_drew1 | refine below_set ?_ GE217.out) | exact HB.out)⟩⟩
            · rw [if_neg c5] at H
              exact absurd H (by simp)
          · rw [if_neg c4] at H
            exact absurd H (by simp)
        · rw [if_neg c3] at H
          exact absurd H (by simp)
      · rw [if_neg c2] at H
        have c2b0 : decide (x9_1 < (l0.length : Int)) = false := decide_eq_false c2
        clear c2
        obtain rfl := Option.some.inj H
        go_wp2
        go_ret
        exact ⟨_, by first | rfl | (simp [errW_none, errW_some] <;> rfl) | (simp [*, errW_none, errW_some] <;> rfl), by (with_reducible repeat (first | apply Kd.R_alloc | apply Kd.R_drewN | apply Kd.R_drew)); exact HO_3.out, by repeat (first | (with_reducible first | exact HB.out | apply below_alloc | apply pw_below_drewN | apply below_drew1) | exact HB.out)⟩

/-! ### spec_l3Target: function 53 -/
mutual
def spec_l3Target.l0 : Nat → List (S56) → List Int → Int → Int → Int → Option (Int)
  | 0, _, _, _, _, _ => none
  | k + 1, x0, x1, x2, x3, x9 => if x9 ≥ 0 then (if 0 ≤ x9 then (if x9 < (x0.length : Int) then ((spec_l3Opens.f ((rd_T56 x0 x9).f0)).bind fun t223 => (if t223 = true then (if x9 < (x1.length : Int) then (spec_l3Target.j1 k x0 x1 x2 x3 x9 (decide ((rd x1 x9) ≥ x2))) else (none)) else (spec_l3Target.j1 k x0 x1 x2 x3 x9 false))) else (none)) else (none)) else (some (x0.length : Int))
def spec_l3Target.j1 : Nat → List (S56) → List Int → Int → Int → Int → Bool → Option (Int)
  | 0, _, _, _, _, _, _ => none
  | k + 1, x0, x1, x2, x3, x9, x29 => if x29 = true then (if x3 = 0 then (if 0 ≤ x9 then (if x9 < (x0.length : Int) then (if ((rd_T56 x0 x9).f0) = 16 then (some (wrap64 (x9 + 1))) else (if x9 < (x1.length : Int) then (some (wrap64 ((rd x1 x9) + 1))) else (none))) else (none)) else (none)) else (spec_l3Target.l0 k x0 x1 x2 (wrap64 (x3 - 1)) (wrap64 (x9 - 1)))) else (spec_l3Target.l0 k x0 x1 x2 x3 (wrap64 (x9 - 1)))
end
def spec_l3Target.f (k : Nat) (l0 : List (S56)) (l1 : List Int) (a2 : Int) (a3 : Int) : Option (Int) := spec_l3Target.l0 k l0 l1 a2 a3 (wrap64 (a2 - 1))
theorem spec_l3Target.mono_l : ∀ k, (∀ y0 y1 y2 y3 y4, LeO (spec_l3Target.l0 k y0 y1 y2 y3 y4) (spec_l3Target.l0 (k + 1) y0 y1 y2 y3 y4)) ∧ (∀ y0 y1 y2 y3 y4 y5, LeO (spec_l3Target.j1 k y0 y1 y2 y3 y4 y5) (spec_l3Target.j1 (k + 1) y0 y1 y2 y3 y4 y5))
  | 0 => ⟨fun _ _ _ _ _ r h => by simp [spec_l3Target.l0] at h, fun _ _ _ _ _ _ r h => by simp [spec_l3Target.j1] at h⟩
  | k + 1 => by
    obtain ⟨ih0, ih1⟩ := spec_l3Target.mono_l k
    refine ⟨?_, ?_⟩
    · intro y0 y1 y2 y3 y4
      unfold spec_l3Target.l0
      repeat' first
      | (with_reducible exact ih0 _ _ _ _ _)
      | (with_reducible exact ih1 _ _ _ _ _ _)
      | (with_reducible exact LeO.refl _)
      | (with_reducible exact LeO.none _)
      | (with_reducible refine LeO.ite ?_ ?_)
      | (with_reducible refine LeO.bind ?_ (fun _ => ?_))
      | exact ih0 _ _ _ _ _
      | exact ih1 _ _ _ _ _ _
      | exact LeO.none _
      | refine LeO.ite ?_ ?_
      | refine LeO.bind ?_ (fun _ => ?_)
    · intro y0 y1 y2 y3 y4 y5
      unfold spec_l3Target.j1
      repeat' first
      | (with_reducible exact ih0 _ _ _ _ _)
      | (with_reducible exact ih1 _ _ _ _ _ _)
      | (with_reducible exact LeO.refl _)
      | (with_reducible exact LeO.none _)
      | (with_reducible refine LeO.ite ?_ ?_)
      | (with_reducible refine LeO.bind ?_ (fun _ => ?_))
      | exact ih0 _ _ _ _ _
      | exact ih1 _ _ _ _ _ _
      | exact LeO.none _
      | refine LeO.ite ?_ ?_
      | refine LeO.bind ?_ (fun _ => ?_)
theorem spec_l3Target.mono : ∀ a0 a1 a2 a3 k, LeO (spec_l3Target.f k a0 a1 a2 a3) (spec_l3Target.f (k + 1) a0 a1 a2 a3) := by
  intro a0 a1 a2 a3 k
  obtain ⟨ih0, ih1⟩ := spec_l3Target.mono_l k
  unfold spec_l3Target.f
  repeat' first
      | (with_reducible exact ih0 _ _ _ _ _)
      | (with_reducible exact ih1 _ _ _ _ _ _)
      | (with_reducible exact LeO.refl _)
      | (with_reducible exact LeO.none _)
      | (with_reducible refine LeO.ite ?_ ?_)
      | (with_reducible refine LeO.bind ?_ (fun _ => ?_))
      | exact ih0 _ _ _ _ _
      | exact ih1 _ _ _ _ _ _
      | exact LeO.none _
      | refine LeO.ite ?_ ?_
      | refine LeO.bind ?_ (fun _ => ?_)
set_option maxHeartbeats 8000000 in
set_option maxRecDepth 100000 in
theorem spec_l3Target.calls (k : Nat) (A0 : Option Addr) (c0 : Nat) (l0 : List (S56)) (A1 : Option Addr) (c1 : Nat) (l1 : List Int) (a2 : Int) (a3 : Int) (r : Int) (w : World) (hr0 : Kd.C k56 w A0 l0.length l0) (hc0 : l0.length ≤ c0) (hr1 : Kd.C (Kd.int .i64) w A1 l1.length l1) (hc1 : l1.length ≤ c1) (h : spec_l3Target.f k l0 l1 a2 a3 = some r) :
    Calls Try.prog 53 #[.slice A0 l0.length c0, .slice A1 l1.length c1, .int .i64 a2, .int .i64 a3] w fun e w' => e = .returned (.int .i64 r) ∧ Drawn0 w w' := by
  have HR0 := Aside0.mk hr0
  have HC0 := Aside0.mk hc0
  clear hr0 hc0
  have HR1 := Aside0.mk hr1
  have HC1 := Aside0.mk hc1
  clear hr1 hc1
  have H : (spec_l3Target.l0 k l0 l1 a2 a3 (wrap64 (a2 - 1))) = some r := h
  clear h
  have H' := Aside0.mk H
  clear H
  go_enter Try.func53, Try.ntmps53
  go_wp2
  go_loopg [3, 9] k (fun kq v3 v9 w' => ∃ (x3_1 : Int) (x9_1 : Int), v3 = .int .i64 x3_1 ∧ v9 = .int .i64 x9_1 ∧ Aside0 (spec_l3Target.l0 kq l0 l1 a2 x3_1 x9_1 = some r) ∧ Aside0 (kq ≤ k) ∧ Drawn0 w w')
  case atStart => exact ⟨(a3), (wrap64 (a2 - 1)), (by first | rfl | (simp; done) | (simp [*]; done)), (by first | rfl | (simp; done) | (simp [*]; done)), H', ⟨Nat.le_refl _⟩, by repeat (first | exact Drawn0.refl _ | apply Drawn0.step)⟩
  case round =>
    clear H'
    try clear c1
    try clear p2
    obtain ⟨x3_1, x9_1, rfl, rfl, HA, HK1, ⟨m1, rfl⟩⟩ := hrel
    cases gk with
    | zero => exact absurd HA.out (by simp [spec_l3Target.l0])
    | succ k1 =>
      have H := HA.out
      clear HA
      simp only [spec_l3Target.l0] at H
      by_cases c5 : x9_1 ≥ 0
      · rw [if_pos c5] at H
        have c5b0 : decide (0 ≤ x9_1) = true := decide_eq_true c5
        clear c5
        have HC6 := Aside0.mk H
        clear H
        go_upto_region 4 with (fail)
        go_cut [29] (fun v29 wc => ∃ (kq : Nat) (x29_5 : Bool), v29 = .bool x29_5 ∧ Aside0 (spec_l3Target.j1 kq l0 l1 a2 x3_1 x9_1 x29_5 = some r) ∧ Aside0 (kq ≤ k1) ∧ Drawn0 w wc)
        case first =>
          have H := HC6.out
          clear HC6
          by_cases c7 : 0 ≤ x9_1
          · rw [if_pos c7] at H
            have c7b0 : decide (0 ≤ x9_1) = true := decide_eq_true c7
            clear c7
            (first | rw [c7b0] | (simp only [i64_w, i32_w]; rw [c7b0]) | skip)
            by_cases c8 : x9_1 < (l0.length : Int)
            · rw [if_pos c8] at H
              have c8b0 : decide (x9_1 < (l0.length : Int)) = true := decide_eq_true c8
              clear c8
              replace H := Option.bind_eq_some_iff.mp H
              obtain ⟨t223, A90, H⟩ := H
              replace H : (if t223 = true then (if x9_1 < (l1.length : Int) then (spec_l3Target.j1 k1 l0 l1 a2 x3_1 x9_1 (decide ((rd l1 x9_1) ≥ a2))) else (none)) else (spec_l3Target.j1 k1 l0 l1 a2 x3_1 x9_1 false)) = some r := H
              have A9 := Aside0.mk A90
              clear A90
              by_cases c10 : t223 = true
              · subst c10
                have H1 : (if x9_1 < (l1.length : Int) then (spec_l3Target.j1 k1 l0 l1 a2 x3_1 x9_1 (decide ((rd l1 x9_1) ≥ a2))) else (none)) = some r := by rw [if_pos rfl] at H; exact H
                clear H
                have H := H1
                clear H1
                by_cases c11 : x9_1 < (l1.length : Int)
                · rw [if_pos c11] at H
                  have c11b0 : decide (x9_1 < (l1.length : Int)) = true := decide_eq_true c11
                  clear c11
                  have H' := Aside0.mk H
                  clear H
                  have p222 : 0 ≤ (x9_1 : Int) := of_decide_eq_true (by first | (with_reducible assumption) | assumption)
                  have q222 : x9_1 < (l0.length : Int) := of_decide_eq_true (by first | (with_reducible assumption) | assumption)
                  obtain ⟨ad222, A222_2, c222_2, e222, hx222_0, hx222_1, hx222_2, hl222_2, hi222_2⟩ := at_T56 HR0.out x9_1 p222 q222
                  cases e222
                  have HR222_2 := Aside0.mk hi222_2
                  have HC222_2 := Aside0.mk hl222_2
                  clear hi222_2 hl222_2
                  replace p222 := eq_true p222
                  replace q222 := eq_true q222
                  go_wp2_with (first | ((with_reducible refine gate_callee (f := 74) rfl ?_); refine goesL_ (some 21) rfl rfl Try.func74 (by kernel_rfl) rfl #[.int .i64 ((rd_T56 l0 x9_1).f0)] rfl (by (try simp only [List.map_toArray, List.map_cons, List.map_nil]); first | done | rfl | (simp only [List.length_drop, List.length_take]; rfl)) ?_; (with_reducible refine (spec_l3Opens.calls ((rd_T56 l0 x9_1).f0) true _ A9.out).mono ?_); rintro e w' ⟨rfl, ⟨nd, rfl⟩⟩; refine ⟨_, rfl, ?_⟩; have p224 : 0 ≤ (x9_1 : Int) := of_decide_eq_true (by first | (with_reducible assumption) | assumption); have q224 : x9_1 < (l1.length : Int) := of_decide_eq_true (by first | (with_reducible assumption) | assumption); obtain ⟨ad224, e224, hx224_0⟩ := Kd.at_int HR1.out x9_1 p224 q224; cases e224; replace p224 := eq_true p224; replace q224 := eq_true q224))
                  go_meet
                  case rel => exact ⟨_, (decide ((rd l1 x9_1) ≥ a2)), (by first | rfl | (simp; done) | (simp [*]; done)), H', ⟨by have := HK1.out; first | omega | exact Nat.le_refl _⟩, by repeat (first | exact Drawn0.refl _ | apply Drawn0.step)⟩
                · rw [if_neg c11] at H
                  exact absurd H (by simp)
              · replace c10 := Bool.eq_false_iff.mpr c10
                subst c10
                have H1 : (spec_l3Target.j1 k1 l0 l1 a2 x3_1 x9_1 false) = some r := by rw [if_neg (show ¬ (false = true) by decide)] at H; exact H
                clear H
                have H := H1
                clear H1
                have H' := Aside0.mk H
                clear H
                have p222 : 0 ≤ (x9_1 : Int) := of_decide_eq_true (by first | (with_reducible assumption) | assumption)
                have q222 : x9_1 < (l0.length : Int) := of_decide_eq_true (by first | (with_reducible assumption) | assumption)
                obtain ⟨ad222, A222_2, c222_2, e222, hx222_0, hx222_1, hx222_2, hl222_2, hi222_2⟩ := at_T56 HR0.out x9_1 p222 q222
                cases e222
                have HR222_2 := Aside0.mk hi222_2
                have HC222_2 := Aside0.mk hl222_2
                clear hi222_2 hl222_2
                replace p222 := eq_true p222
                replace q222 := eq_true q222
                go_wp2_with (first | ((with_reducible refine gate_callee (f := 74) rfl ?_); refine goesL_ (some 21) rfl rfl Try.func74 (by kernel_rfl) rfl #[.int .i64 ((rd_T56 l0 x9_1).f0)] rfl (by (try simp only [List.map_toArray, List.map_cons, List.map_nil]); first | done | rfl | (simp only [List.length_drop, List.length_take]; rfl)) ?_; (with_reducible refine (spec_l3Opens.calls ((rd_T56 l0 x9_1).f0) false _ A9.out).mono ?_); rintro e w' ⟨rfl, ⟨nd, rfl⟩⟩; refine ⟨_, rfl, ?_⟩))
                go_meet
                case rel => exact ⟨_, (false), (by first | rfl | (simp; done) | (simp [*]; done)), H', ⟨by have := HK1.out; first | omega | exact Nat.le_refl _⟩, by repeat (first | exact Drawn0.refl _ | apply Drawn0.step)⟩
            · rw [if_neg c8] at H
              exact absurd H (by simp)
          · rw [if_neg c7] at H
            exact absurd H (by simp)
        case rest =>
          clear HC6
          try clear c1
          try clear c2
          try clear p2
          try clear q2
          try clear hx2
          try clear c5
          try clear c5b0
          try clear p6
          try clear c7
          try clear c7b0
          try clear c8
          try clear c8b0
          try clear c10
          try clear c11
          try clear c11b0
          try clear hx222_0
          try clear hx222_1
          try clear hx222_2
          try clear hx224_0
          try clear p2
          try clear p222
          try clear p224
          try clear q222
          try clear q224
          obtain ⟨kq, x29_5, rfl, HA, HJ5, ⟨mc5, rfl⟩⟩ := hcut
          cases kq with
          | zero => exact absurd HA.out (by simp [spec_l3Target.j1])
          | succ kj5 =>
            have H := HA.out
            clear HA
            simp only [spec_l3Target.j1] at H
            by_cases c12 : x29_5 = true
            · subst c12
              have H1 : (if x3_1 = 0 then (if 0 ≤ x9_1 then (if x9_1 < (l0.length : Int) then (if ((rd_T56 l0 x9_1).f0) = 16 then (some (wrap64 (x9_1 + 1))) else (if x9_1 < (l1.length : Int) then (some (wrap64 ((rd l1 x9_1) + 1))) else (none))) else (none)) else (none)) else (spec_l3Target.l0 kj5 l0 l1 a2 (wrap64 (x3_1 - 1)) (wrap64 (x9_1 - 1)))) = some r := by rw [if_pos rfl] at H; exact H
              clear H
              have H := H1
              clear H1
              by_cases c13 : x3_1 = 0
              · rw [if_pos c13] at H
                have c13b0 : (x3_1 == 0) = true := beq_iff_eq.mpr c13
                have c13b1 : (x3_1 != 0) = false := bne_eq_false_iff_eq.mpr c13
                clear c13
                by_cases c14 : 0 ≤ x9_1
                · rw [if_pos c14] at H
                  have c14b0 : decide (0 ≤ x9_1) = true := decide_eq_true c14
                  clear c14
                  by_cases c15 : x9_1 < (l0.length : Int)
                  · rw [if_pos c15] at H
                    have c15b0 : decide (x9_1 < (l0.length : Int)) = true := decide_eq_true c15
                    clear c15
                    by_cases c16 : ((rd_T56 l0 x9_1).f0) = 16
                    · rw [if_pos c16] at H
                      have c16b0 : (((rd_T56 l0 x9_1).f0) == 16) = true := beq_iff_eq.mpr c16
                      have c16b1 : (((rd_T56 l0 x9_1).f0) != 16) = false := bne_eq_false_iff_eq.mpr c16
                      clear c16
                      obtain rfl := Option.some.inj H
                      have p225 : 0 ≤ (x9_1 : Int) := of_decide_eq_true (by first | (with_reducible assumption) | assumption)
                      have q225 : x9_1 < (l0.length : Int) := of_decide_eq_true (by first | (with_reducible assumption) | assumption)
                      obtain ⟨ad225, A225_2, c225_2, e225, hx225_0, hx225_1, hx225_2, hl225_2, hi225_2⟩ := at_T56 HR0.out x9_1 p225 q225
                      cases e225
                      have HR225_2 := Aside0.mk hi225_2
                      have HC225_2 := Aside0.mk hl225_2
                      clear hi225_2 hl225_2
                      replace p225 := eq_true p225
                      replace q225 := eq_true q225
                      go_wp2
                      go_ret
                      exact ⟨by first | rfl | (simp; done) | (simp [*]; done), by repeat (first | exact Drawn0.refl _ | apply Drawn0.step)⟩
                    · rw [if_neg c16] at H
                      have c16b0 : (((rd_T56 l0 x9_1).f0) == 16) = false := beq_eq_false_iff_ne.mpr c16
                      have c16b1 : (((rd_T56 l0 x9_1).f0) != 16) = true := bne_iff_ne.mpr c16
                      by_cases c17 : x9_1 < (l1.length : Int)
                      · rw [if_pos c17] at H
                        have c17b0 : decide (x9_1 < (l1.length : Int)) = true := decide_eq_true c17
                        clear c17
                        obtain rfl := Option.some.inj H
                        have p225 : 0 ≤ (x9_1 : Int) := of_decide_eq_true (by first | (with_reducible assumption) | assumption)
                        have q225 : x9_1 < (l0.length : Int) := of_decide_eq_true (by first | (with_reducible assumption) | assumption)
                        obtain ⟨ad225, A225_2, c225_2, e225, hx225_0, hx225_1, hx225_2, hl225_2, hi225_2⟩ := at_T56 HR0.out x9_1 p225 q225
                        cases e225
                        have HR225_2 := Aside0.mk hi225_2
                        have HC225_2 := Aside0.mk hl225_2
                        clear hi225_2 hl225_2
                        replace p225 := eq_true p225
                        replace q225 := eq_true q225
                        have p226 : 0 ≤ (x9_1 : Int) := of_decide_eq_true (by first | (with_reducible assumption) | assumption)
                        have q226 : x9_1 < (l1.length : Int) := of_decide_eq_true (by first | (with_reducible assumption) | assumption)
                        obtain ⟨ad226, e226, hx226_0⟩ := Kd.at_int HR1.out x9_1 p226 q226
                        cases e226
                        replace p226 := eq_true p226
                        replace q226 := eq_true q226
                        go_wp2
                        go_ret
                        exact ⟨by first | rfl | (simp; done) | (simp [*]; done), by repeat (first | exact Drawn0.refl _ | apply Drawn0.step)⟩
                      · rw [if_neg c17] at H
                        exact absurd H (by simp)
                  · rw [if_neg c15] at H
                    exact absurd H (by simp)
                · rw [if_neg c14] at H
                  exact absurd H (by simp)
              · rw [if_neg c13] at H
                have c13b0 : (x3_1 == 0) = false := beq_eq_false_iff_ne.mpr c13
                have c13b1 : (x3_1 != 0) = true := bne_iff_ne.mpr c13
                have H' := Aside0.mk H
                clear H
                go_wp2
                go_roundg kj5
                case measure => have := HK1.out; have := HJ5.out; omega
                case rel => exact ⟨(wrap64 (x3_1 - 1)), (wrap64 (x9_1 - 1)), (by first | rfl | (simp; done) | (simp [*]; done)), (by first | rfl | (simp; done) | (simp [*]; done)), H', ⟨by have := HK1.out; have := HJ5.out; omega⟩, by repeat (first | exact Drawn0.refl _ | apply Drawn0.step)⟩
            · replace c12 := Bool.eq_false_iff.mpr c12
              subst c12
              have H1 : (spec_l3Target.l0 kj5 l0 l1 a2 x3_1 (wrap64 (x9_1 - 1))) = some r := by rw [if_neg (show ¬ (false = true) by decide)] at H; exact H
              clear H
              have H := H1
              clear H1
              have H' := Aside0.mk H
              clear H
              go_wp2
              go_roundg kj5
              case measure => have := HK1.out; have := HJ5.out; omega
              case rel => exact ⟨(x3_1), (wrap64 (x9_1 - 1)), (by first | rfl | (simp; done) | (simp [*]; done)), (by first | rfl | (simp; done) | (simp [*]; done)), H', ⟨by have := HK1.out; have := HJ5.out; omega⟩, by repeat (first | exact Drawn0.refl _ | apply Drawn0.step)⟩
      · rw [if_neg c5] at H
        have c5b0 : decide (0 ≤ x9_1) = false := decide_eq_false c5
        clear c5
        obtain rfl := Option.some.inj H
        go_wp2
        go_ret
        exact ⟨by first | rfl | (simp; done) | (simp [*]; done), by repeat (first | exact Drawn0.refl _ | apply Drawn0.step)⟩

/-! ### spec_TargetOf: function 25 -/
def spec_TargetOf.f (k : Nat) (l0 : List (S56)) (a1 : Int) (a2 : Int) : Option (Int × Bool) := (spec_l3Ends.f k l0).bind fun bt227 => (if bt227.2 = true then (if a1 < 0 then (some (0, false)) else (if a1 ≥ (l0.length : Int) then (some (0, false)) else (if a2 < 0 then (some (0, false)) else ((spec_l3Depths.f k l0).bind fun t231 => (if 0 ≤ a1 then (if a1 < (t231.length : Int) then (if a2 > (rd t231 a1) then (some (0, false)) else ((spec_l3Target.f k l0 bt227.1 a1 a2).bind fun t235 => (some (t235, true)))) else (none)) else (none)))))) else (some (0, false)))
theorem spec_TargetOf.mono : ∀ a0 a1 a2 k, LeO (spec_TargetOf.f k a0 a1 a2) (spec_TargetOf.f (k + 1) a0 a1 a2) := by
  intro a0 a1 a2 k
  unfold spec_TargetOf.f
  repeat' first
      | (with_reducible exact spec_l3Depths.mono _ _)
      | (with_reducible exact spec_l3Ends.mono _ _)
      | (with_reducible exact spec_l3Target.mono _ _ _ _ _)
      | (with_reducible exact LeO.refl _)
      | (with_reducible exact LeO.none _)
      | (with_reducible refine LeO.ite ?_ ?_)
      | (with_reducible refine LeO.bind ?_ (fun _ => ?_))
      | exact spec_l3Depths.mono _ _
      | exact spec_l3Ends.mono _ _
      | exact spec_l3Target.mono _ _ _ _ _
      | exact LeO.none _
      | refine LeO.ite ?_ ?_
      | refine LeO.bind ?_ (fun _ => ?_)
set_option maxHeartbeats 8000000 in
set_option maxRecDepth 100000 in
theorem spec_TargetOf.calls (k : Nat) (A0 : Option Addr) (c0 : Nat) (l0 : List (S56)) (a1 : Int) (a2 : Int) (r1 : Int) (r2 : Bool) (w : World) (hr0 : Kd.C k56 w A0 l0.length l0) (hc0 : l0.length ≤ c0) (h : spec_TargetOf.f k l0 a1 a2 = some (r1, r2)) :
    Calls Try.prog 25 #[.slice A0 l0.length c0, .int .i64 a1, .int .i64 a2] w fun e w' => e = .returned (.tuple #[.int .i64 r1, .bool r2]) ∧ Below w.heap.size w w' := by
  have HR0 := Aside0.mk hr0
  have HC0 := Aside0.mk hc0
  clear hr0 hc0
  have HB := Aside0.mk (Below.refl w.heap.size w)
  have H : ((spec_l3Ends.f k l0).bind fun bt227 => (if bt227.2 = true then (if a1 < 0 then (some (0, false)) else (if a1 ≥ (l0.length : Int) then (some (0, false)) else (if a2 < 0 then (some (0, false)) else ((spec_l3Depths.f k l0).bind fun t231 => (if 0 ≤ a1 then (if a1 < (t231.length : Int) then (if a2 > (rd t231 a1) then (some (0, false)) else ((spec_l3Target.f k l0 bt227.1 a1 a2).bind fun t235 => (some (t235, true)))) else (none)) else (none)))))) else (some (0, false)))) = some (r1, r2) := h
  clear h
  replace H := Option.bind_eq_some_iff.mp H
  obtain ⟨⟨t227, t228⟩, A40, H⟩ := H
  replace H : (if t228 = true then (if a1 < 0 then (some (0, false)) else (if a1 ≥ (l0.length : Int) then (some (0, false)) else (if a2 < 0 then (some (0, false)) else ((spec_l3Depths.f k l0).bind fun t231 => (if 0 ≤ a1 then (if a1 < (t231.length : Int) then (if a2 > (rd t231 a1) then (some (0, false)) else ((spec_l3Target.f k l0 t227 a1 a2).bind fun t235 => (some (t235, true)))) else (none)) else (none)))))) else (some (0, false))) = some (r1, r2) := H
  have A4 := Aside0.mk A40
  clear A40
  by_cases c5 : t228 = true
  · subst c5
    have H1 : (if a1 < 0 then (some (0, false)) else (if a1 ≥ (l0.length : Int) then (some (0, false)) else (if a2 < 0 then (some (0, false)) else ((spec_l3Depths.f k l0).bind fun t231 => (if 0 ≤ a1 then (if a1 < (t231.length : Int) then (if a2 > (rd t231 a1) then (some (0, false)) else ((spec_l3Target.f k l0 t227 a1 a2).bind fun t235 => (some (t235, true)))) else (none)) else (none)))))) = some (r1, r2) := by rw [if_pos rfl] at H; exact H
    clear H
    have H := H1
    clear H1
    by_cases c6 : a1 < 0
    · rw [if_pos c6] at H
      have c6b0 : decide (a1 < 0) = true := decide_eq_true c6
      clear c6
      simp only [Option.some.injEq, Prod.mk.injEq] at H
      obtain ⟨rfl, rfl⟩ := H
      go_enter Try.func25, Try.ntmps25
      go_wp2_with (first | ((with_reducible refine gate_callee (f := 48) rfl ?_); refine goesL_ (some 12) rfl rfl Try.func48 (by kernel_rfl) rfl #[.slice A0 l0.length c0] rfl (by (try simp only [List.map_toArray, List.map_cons, List.map_nil]); first | done | rfl | (simp only [List.length_drop, List.length_take]; rfl)) ?_; (with_reducible refine (spec_l3Ends.calls k _ _ l0 t227 true _ ?side1 ?side2 A4.out).mono ?_); (case side1 => repeat (first | exact HR0.out | (with_reducible refine Kd.C_alloc ?_ _) | (with_reducible refine Kd.C_drewN ?_ _) | (with_reducible refine Kd.C_drew ?_))); (case side2 => exact HC0.out); rintro e w7 ⟨v229, rfl, ho0, hb⟩; refine ⟨_, rfl, ?_⟩; have n0_ := Aside0.mk (Kd.R_lower ho0 (below_size (by repeat (first | (with_reducible first | exact HB.out | apply below_alloc | apply pw_below_drewN | apply below_drew1) | exact HB.out)))); have n1_ := Aside0.mk (below_step (by repeat (first | (with_reducible first | exact HB.out | apply below_alloc | apply pw_below_drewN | apply below_drew1) | exact HB.out)) hb); clear HB; have HO230 := n0_; have HB := n1_; clear n0_ n1_; (try clear hb); (try clear hb2); (try clear hk); (try clear hi); (try clear ho0)))
      go_ret2
      exact ⟨by first | rfl | (simp [errW_none, errW_some] <;> rfl) | (simp [*, errW_none, errW_some] <;> rfl), by repeat (first | (with_reducible first | exact HB.out | apply below_alloc | apply pw_below_drewN | apply below_drew1) | exact HB.out)⟩
    · rw [if_neg c6] at H
      have c6b0 : decide (a1 < 0) = false := decide_eq_false c6
      clear c6
      by_cases c8 : a1 ≥ (l0.length : Int)
      · rw [if_pos c8] at H
        have c8b0 : decide ((l0.length : Int) ≤ a1) = true := decide_eq_true c8
        clear c8
        simp only [Option.some.injEq, Prod.mk.injEq] at H
        obtain ⟨rfl, rfl⟩ := H
        go_enter Try.func25, Try.ntmps25
        go_wp2_with (first | ((with_reducible refine gate_callee (f := 48) rfl ?_); refine goesL_ (some 12) rfl rfl Try.func48 (by kernel_rfl) rfl #[.slice A0 l0.length c0] rfl (by (try simp only [List.map_toArray, List.map_cons, List.map_nil]); first | done | rfl | (simp only [List.length_drop, List.length_take]; rfl)) ?_; (with_reducible refine (spec_l3Ends.calls k _ _ l0 t227 true _ ?side1 ?side2 A4.out).mono ?_); (case side1 => repeat (first | exact HR0.out | (with_reducible refine Kd.C_alloc ?_ _) | (with_reducible refine Kd.C_drewN ?_ _) | (with_reducible refine Kd.C_drew ?_))); (case side2 => exact HC0.out); rintro e w9 ⟨v229, rfl, ho0, hb⟩; refine ⟨_, rfl, ?_⟩; have n0_ := Aside0.mk (Kd.R_lower ho0 (below_size (by repeat (first | (with_reducible first | exact HB.out | apply below_alloc | apply pw_below_drewN | apply below_drew1) | exact HB.out)))); have n1_ := Aside0.mk (below_step (by repeat (first | (with_reducible first | exact HB.out | apply below_alloc | apply pw_below_drewN | apply below_drew1) | exact HB.out)) hb); clear HB; have HO230 := n0_; have HB := n1_; clear n0_ n1_; (try clear hb); (try clear hb2); (try clear hk); (try clear hi); (try clear ho0)))
        go_ret2
        exact ⟨by first | rfl | (simp [errW_none, errW_some] <;> rfl) | (simp [*, errW_none, errW_some] <;> rfl), by repeat (first | (with_reducible first | exact HB.out | apply below_alloc | apply pw_below_drewN | apply below_drew1) | exact HB.out)⟩
      · rw [if_neg c8] at H
        have c8b0 : decide ((l0.length : Int) ≤ a1) = false := decide_eq_false c8
        clear c8
        by_cases c10 : a2 < 0
        · rw [if_pos c10] at H
          have c10b0 : decide (a2 < 0) = true := decide_eq_true c10
          clear c10
          simp only [Option.some.injEq, Prod.mk.injEq] at H
          obtain ⟨rfl, rfl⟩ := H
          go_enter Try.func25, Try.ntmps25
          go_wp2_with (first | ((with_reducible refine gate_callee (f := 48) rfl ?_); refine goesL_ (some 12) rfl rfl Try.func48 (by kernel_rfl) rfl #[.slice A0 l0.length c0] rfl (by (try simp only [List.map_toArray, List.map_cons, List.map_nil]); first | done | rfl | (simp only [List.length_drop, List.length_take]; rfl)) ?_; (with_reducible refine (spec_l3Ends.calls k _ _ l0 t227 true _ ?side1 ?side2 A4.out).mono ?_); (case side1 => repeat (first | exact HR0.out | (with_reducible refine Kd.C_alloc ?_ _) | (with_reducible refine Kd.C_drewN ?_ _) | (with_reducible refine Kd.C_drew ?_))); (case side2 => exact HC0.out); rintro e w11 ⟨v229, rfl, ho0, hb⟩; refine ⟨_, rfl, ?_⟩; have n0_ := Aside0.mk (Kd.R_lower ho0 (below_size (by repeat (first | (with_reducible first | exact HB.out | apply below_alloc | apply pw_below_drewN | apply below_drew1) | exact HB.out)))); have n1_ := Aside0.mk (below_step (by repeat (first | (with_reducible first | exact HB.out | apply below_alloc | apply pw_below_drewN | apply below_drew1) | exact HB.out)) hb); clear HB; have HO230 := n0_; have HB := n1_; clear n0_ n1_; (try clear hb); (try clear hb2); (try clear hk); (try clear hi); (try clear ho0)))
          go_ret2
          exact ⟨by first | rfl | (simp [errW_none, errW_some] <;> rfl) | (simp [*, errW_none, errW_some] <;> rfl), by repeat (first | (with_reducible first | exact HB.out | apply below_alloc | apply pw_below_drewN | apply below_drew1) | exact HB.out)⟩
        · rw [if_neg c10] at H
          have c10b0 : decide (a2 < 0) = false := decide_eq_false c10
          clear c10
          replace H := Option.bind_eq_some_iff.mp H
          obtain ⟨t231, A120, H⟩ := H
          replace H : (if 0 ≤ a1 then (if a1 < (t231.length : Int) then (if a2 > (rd t231 a1) then (some (0, false)) else ((spec_l3Target.f k l0 t227 a1 a2).bind fun t235 => (some (t235, true)))) else (none)) else (none)) = some (r1, r2) := H
          have A12 := Aside0.mk A120
          clear A120
          by_cases c13 : 0 ≤ a1
          · rw [if_pos c13] at H
            have c13b0 : decide (0 ≤ a1) = true := decide_eq_true c13
            clear c13
            by_cases c14 : a1 < (t231.length : Int)
            · rw [if_pos c14] at H
              have c14b0 : decide (a1 < (t231.length : Int)) = true := decide_eq_true c14
              clear c14
              by_cases c15 : a2 > (rd t231 a1)
              · rw [if_pos c15] at H
                have c15b0 : decide ((rd t231 a1) < a2) = true := decide_eq_true c15
                clear c15
                simp only [Option.some.injEq, Prod.mk.injEq] at H
                obtain ⟨rfl, rfl⟩ := H
                go_enter Try.func25, Try.ntmps25
                go_wp2_with (first | ((with_reducible refine gate_callee (f := 48) rfl ?_); refine goesL_ (some 12) rfl rfl Try.func48 (by kernel_rfl) rfl #[.slice A0 l0.length c0] rfl (by (try simp only [List.map_toArray, List.map_cons, List.map_nil]); first | done | rfl | (simp only [List.length_drop, List.length_take]; rfl)) ?_; (with_reducible refine (spec_l3Ends.calls k _ _ l0 t227 true _ ?side1 ?side2 A4.out).mono ?_); (case side1 => repeat (first | exact HR0.out | (with_reducible refine Kd.C_alloc ?_ _) | (with_reducible refine Kd.C_drewN ?_ _) | (with_reducible refine Kd.C_drew ?_))); (case side2 => exact HC0.out); rintro e w16 ⟨v229, rfl, ho0, hb⟩; refine ⟨_, rfl, ?_⟩; have n0_ := Aside0.mk (Kd.R_lower ho0 (below_size (by repeat (first | (with_reducible first | exact HB.out | apply below_alloc | apply pw_below_drewN | apply below_drew1) | exact HB.out)))); have n1_ := Aside0.mk (below_step (by repeat (first | (with_reducible first | exact HB.out | apply below_alloc | apply pw_below_drewN | apply below_drew1) | exact HB.out)) hb); clear HB; have HO230 := n0_; have HB := n1_; clear n0_ n1_; (try clear hb); (try clear hb2); (try clear hk); (try clear hi); (try clear ho0)) | (go_at_call 52; (with_reducible refine (spec_l3Depths.calls k _ _ l0 t231 _ ?side1 ?side2 A12.out).mono ?_); (case side1 => repeat (first | exact (Kd.C_below HR0.out HB.out) | (with_reducible refine Kd.C_alloc ?_ _) | (with_reducible refine Kd.C_drewN ?_ _) | (with_reducible refine Kd.C_drew ?_))); (case side2 => exact HC0.out); rintro e w17 ⟨v232, rfl, ho0, hb⟩; have n0_ := Aside0.mk (Kd.R_elder' (by (with_reducible repeat (first | apply Kd.R_alloc | apply Kd.R_drewN | apply Kd.R_drew)); exact HO230.out) (Kd.R_base ho0) hb); have n1_ := Aside0.mk (Kd.R_lower (Kd.R_new' ho0 (Kd.R_lt (by (with_reducible repeat (first | apply Kd.R_alloc | apply Kd.R_drewN | apply Kd.R_drew)); exact HO230.out))) (below_size (by repeat (first | (with_reducible first | exact HB.out | apply below_alloc | apply pw_below_drewN | apply below_drew1) | exact HB.out)))); have n2_ := Aside0.mk (below_step (by repeat (first | (with_reducible first | exact HB.out | apply below_alloc | apply pw_below_drewN | apply below_drew1) | exact HB.out)) hb); clear HO230; clear HB; have HO230 := n0_; have HO233 := n1_; have HB := n2_; clear n0_ n1_ n2_; (try clear hb); (try clear hb2); (try clear hk); (try clear hi); (try clear ho0); obtain ⟨Ao18, co18, eo18⟩ := Kd.R_slice HO233.out; subst eo18; have p234 : 0 ≤ (a1 : Int) := of_decide_eq_true (by first | (with_reducible assumption) | assumption); have q234 : a1 < (t231.length : Int) := of_decide_eq_true (by first | (with_reducible assumption) | assumption); obtain ⟨ad234, e234, hx234_0⟩ := Kd.at_int (Kd.R_reads' HO233.out).2.2 a1 p234 q234; cases e234; replace p234 := eq_true p234; replace q234 := eq_true q234))
                go_ret2
                exact ⟨by first | rfl | (simp [errW_none, errW_some] <;> rfl) | (simp [*, errW_none, errW_some] <;> rfl), by repeat (first | (with_reducible first | exact HB.out | apply below_alloc | apply pw_below_drewN | apply below_drew1) | exact HB.out)⟩
              · rw [if_neg c15] at H
                have c15b0 : decide ((rd t231 a1) < a2) = false := decide_eq_false c15
                clear c15
                replace H := Option.bind_eq_some_iff.mp H
                obtain ⟨t235, A190, H⟩ := H
                replace H : (some (t235, true)) = some (r1, r2) := H
                have A19 := Aside0.mk A190
                clear A190
                simp only [Option.some.injEq, Prod.mk.injEq] at H
                obtain ⟨rfl, rfl⟩ := H
                go_enter Try.func25, Try.ntmps25
                go_wp2_with (first | ((with_reducible refine gate_callee (f := 48) rfl ?_); refine goesL_ (some 12) rfl rfl Try.func48 (by kernel_rfl) rfl #[.slice A0 l0.length c0] rfl (by (try simp only [List.map_toArray, List.map_cons, List.map_nil]); first | done | rfl | (simp only [List.length_drop, List.length_take]; rfl)) ?_; (with_reducible refine (spec_l3Ends.calls k _ _ l0 t227 true _ ?side1 ?side2 A4.out).mono ?_); (case side1 => repeat (first | exact HR0.out | (with_reducible refine Kd.C_alloc ?_ _) | (with_reducible refine Kd.C_drewN ?_ _) | (with_reducible refine Kd.C_drew ?_))); (case side2 => exact HC0.out); rintro e w20 ⟨v229, rfl, ho0, hb⟩; refine ⟨_, rfl, ?_⟩; have n0_ := Aside0.mk (Kd.R_lower ho0 (below_size (by repeat (first | (with_reducible first | exact HB.out | apply below_alloc | apply pw_below_drewN | apply below_drew1) | exact HB.out)))); have n1_ := Aside0.mk (below_step (by repeat (first | (with_reducible first | exact HB.out | apply below_alloc | apply pw_below_drewN | apply below_drew1) | exact HB.out)) hb); clear HB; have HO230 := n0_; have HB := n1_; clear n0_ n1_; (try clear hb); (try clear hb2); (try clear hk); (try clear hi); (try clear ho0)) | (go_at_call 52; (with_reducible refine (spec_l3Depths.calls k _ _ l0 t231 _ ?side1 ?side2 A12.out).mono ?_); (case side1 => repeat (first | exact (Kd.C_below HR0.out HB.out) | (with_reducible refine Kd.C_alloc ?_ _) | (with_reducible refine Kd.C_drewN ?_ _) | (with_reducible refine Kd.C_drew ?_))); (case side2 => exact HC0.out); rintro e w21 ⟨v232, rfl, ho0, hb⟩; have n0_ := Aside0.mk (Kd.R_elder' (by (with_reducible repeat (first | apply Kd.R_alloc | apply Kd.R_drewN | apply Kd.R_drew)); exact HO230.out) (Kd.R_base ho0) hb); have n1_ := Aside0.mk (Kd.R_lower (Kd.R_new' ho0 (Kd.R_lt (by (with_reducible repeat (first | apply Kd.R_alloc | apply Kd.R_drewN | apply Kd.R_drew)); exact HO230.out))) (below_size (by repeat (first | (with_reducible first | exact HB.out | apply below_alloc | apply pw_below_drewN | apply below_drew1) | exact HB.out)))); have n2_ := Aside0.mk (below_step (by repeat (first | (with_reducible first | exact HB.out | apply below_alloc | apply pw_below_drewN | apply below_drew1) | exact HB.out)) hb); clear HO230; clear HB; have HO230 := n0_; have HO233 := n1_; have HB := n2_; clear n0_ n1_ n2_; (try clear hb); (try clear hb2); (try clear hk); (try clear hi); (try clear ho0); obtain ⟨Ao22, co22, eo22⟩ := Kd.R_slice HO233.out; subst eo22; have p234 : 0 ≤ (a1 : Int) := of_decide_eq_true (by first | (with_reducible assumption) | assumption); have q234 : a1 < (t231.length : Int) := of_decide_eq_true (by first | (with_reducible assumption) | assumption); obtain ⟨ad234, e234, hx234_0⟩ := Kd.at_int (Kd.R_reads' HO233.out).2.2 a1 p234 q234; cases e234; replace p234 := eq_true p234; replace q234 := eq_true q234; obtain ⟨Ao23, co23, eo23⟩ := Kd.R_slice HO230.out; subst eo23) | ((with_reducible refine gate_callee (f := 53) rfl ?_); refine goesL_ (some 44) rfl rfl Try.func53 (by kernel_rfl) rfl #[.slice A0 l0.length c0, .slice Ao23 t227.length co23, .int .i64 a1, .int .i64 a2] rfl (by (try simp only [List.map_toArray, List.map_cons, List.map_nil]); first | done | rfl | (simp only [List.length_drop, List.length_take]; rfl)) ?_; (with_reducible refine (spec_l3Target.calls k _ _ l0 _ _ t227 a1 a2 t235 _ ?side1 ?side2 ?side3 ?side4 A19.out).mono ?_); (case side1 => repeat (first | exact (Kd.C_below HR0.out HB.out) | (with_reducible refine Kd.C_alloc ?_ _) | (with_reducible refine Kd.C_drewN ?_ _) | (with_reducible refine Kd.C_drew ?_))); (case side2 => exact HC0.out); (case side3 => repeat (first | exact (Kd.R_reads' HO230.out).2.2 | (with_reducible refine Kd.C_alloc ?_ _) | (with_reducible refine Kd.C_drewN ?_ _) | (with_reducible refine Kd.C_drew ?_))); (case side4 => exact (Kd.R_reads' HO230.out).2.1); rintro e w' ⟨rfl, ⟨nd, rfl⟩⟩; refine ⟨_, rfl, ?_⟩))
                go_ret2
                exact ⟨by first | rfl | (simp [errW_none, errW_some] <;> rfl) | (simp [*, errW_none, errW_some] <;> rfl), by repeat (first | (with_reducible first | exact HB.out | apply below_alloc | apply pw_below_drewN | apply below_drew1) | exact HB.out)⟩
            · rw [if_neg c14] at H
              exact absurd H (by simp)
          · rw [if_neg c13] at H
            exact absurd H (by simp)
  · replace c5 := Bool.eq_false_iff.mpr c5
    subst c5
    have H1 : (some (0, false)) = some (r1, r2) := by rw [if_neg (show ¬ (false = true) by decide)] at H; exact H
    clear H
    have H := H1
    clear H1
    simp only [Option.some.injEq, Prod.mk.injEq] at H
    obtain ⟨rfl, rfl⟩ := H
    go_enter Try.func25, Try.ntmps25
    go_wp2_with (first | ((with_reducible refine gate_callee (f := 48) rfl ?_); refine goesL_ (some 12) rfl rfl Try.func48 (by kernel_rfl) rfl #[.slice A0 l0.length c0] rfl (by (try simp only [List.map_toArray, List.map_cons, List.map_nil]); first | done | rfl | (simp only [List.length_drop, List.length_take]; rfl)) ?_; (with_reducible refine (spec_l3Ends.calls k _ _ l0 t227 false _ ?side1 ?side2 A4.out).mono ?_); (case side1 => repeat (first | exact HR0.out | (with_reducible refine Kd.C_alloc ?_ _) | (with_reducible refine Kd.C_drewN ?_ _) | (with_reducible refine Kd.C_drew ?_))); (case side2 => exact HC0.out); rintro e w24 ⟨v229, rfl, ho0, hb⟩; refine ⟨_, rfl, ?_⟩; have n0_ := Aside0.mk (Kd.R_lower ho0 (below_size (by repeat (first | (with_reducible first | exact HB.out | apply below_alloc | apply pw_below_drewN | apply below_drew1) | exact HB.out)))); have n1_ := Aside0.mk (below_step (by repeat (first | (with_reducible first | exact HB.out | apply below_alloc | apply pw_below_drewN | apply below_drew1) | exact HB.out)) hb); clear HB; have HO230 := n0_; have HB := n1_; clear n0_ n1_; (try clear hb); (try clear hb2); (try clear hk); (try clear hi); (try clear ho0)))
    go_ret2
    exact ⟨by first | rfl | (simp [errW_none, errW_some] <;> rfl) | (simp [*, errW_none, errW_some] <;> rfl), by repeat (first | (with_reducible first | exact HB.out | apply below_alloc | apply pw_below_drewN | apply below_drew1) | exact HB.out)⟩

/-! ### impl_shape_target: function 55 (by hand: a shape is read behind its pointer) -/
def impl_shape_target.f (l : List S56) (e : List Int) (p : List (List Int)) (at_ depth : Int) : Option Int := if 0 ≤ at_ ∧ at_ < (p.length : Int) ∧ l.length ≤ 60 ∧ 0 ≤ depth ∧ depth ≤ 60 ∧ (p.getD at_.toNat []).length ≤ 60 then (if depth = ((p.getD at_.toNat []).length : Int) then some (l.length : Int) else (if 0 ≤ ((p.getD at_.toNat []).length : Int) - 1 - depth then (if 0 ≤ rd (p.getD at_.toNat []) (((p.getD at_.toNat []).length : Int) - 1 - depth) then (if rd (p.getD at_.toNat []) (((p.getD at_.toNat []).length : Int) - 1 - depth) < (l.length : Int) then (if (rd_T56 l (rd (p.getD at_.toNat []) (((p.getD at_.toNat []).length : Int) - 1 - depth))).f0 = 16 then some (rd (p.getD at_.toNat []) (((p.getD at_.toNat []).length : Int) - 1 - depth) + 1) else (if -1 ≤ rd e (rd (p.getD at_.toNat []) (((p.getD at_.toNat []).length : Int) - 1 - depth)) ∧ rd e (rd (p.getD at_.toNat []) (((p.getD at_.toNat []).length : Int) - 1 - depth)) ≤ 60 then some (rd e (rd (p.getD at_.toNat []) (((p.getD at_.toNat []).length : Int) - 1 - depth)) + 1) else none)) else none) else none) else none)) else none
set_option maxHeartbeats 8000000 in
set_option maxRecDepth 100000 in
theorem impl_shape_target.calls (base g : Nat) (A0 : Option Addr) (c0 : Nat) (l0 : List S56) (e o : List Int) (p : List (List Int)) (a1 a2 : Int) (r : Int) (w : World) (hr0 : Kd.C k56 w A0 l0.length l0) (hs : ShapeAt w base g l0.length c0 A0 e o p) (h : impl_shape_target.f l0 e p a1 a2 = some r) :
    Calls Try.prog 55 #[.pointer (some ⟨g, 0, none⟩), .int .i64 a1, .int .i64 a2] w fun e w' => e = .returned (.int .i64 r) ∧ Drawn0 w w' := by
  have hu56 := Try.underlying56
  have hu63 := Try.underlying63
  obtain ⟨_, ⟨ve, vo, vp, hblk, he, _, hp⟩, hel, hol, hpl⟩ := hs
  unfold impl_shape_target.f at h
  by_cases c1 : 0 ≤ a1 ∧ a1 < (p.length : Int) ∧ l0.length ≤ 60 ∧ 0 ≤ a2 ∧ a2 ≤ 60 ∧ (p.getD a1.toNat []).length ≤ 60
  rotate_left
  · rw [if_neg c1] at h; exact absurd h (by simp)
  rw [if_pos c1] at h
  obtain ⟨q0, q1, q2, q3, q4, q5⟩ := c1
  rw [hpl] at q1
  obtain ⟨Ap, cp, ep⟩ := Kd.S_slice hp
  rw [hpl] at ep
  subst ep
  obtain ⟨Ae, ce, ee⟩ := Kd.R_slice he
  rw [hel] at ee
  subst ee
  obtain ⟨ad, Aq, cq, eA, hxq, hlq, hiq⟩ := at_row (Kd.S_reads' hp).2.2 a1 q0 (by rw [hpl]; exact q1)
  cases eA
  obtain ⟨q, hq⟩ : ∃ q, q = p.getD a1.toNat [] := ⟨_, rfl⟩
  rw [← hq] at hxq hlq hiq h q5
  have hg0 : w.cell? ⟨g, 0, none⟩ = some (.slice A0 l0.length c0) := (blk_cell hblk 0).trans rfl
  have hg1 : w.cell? ⟨g, 1, none⟩ = some (.slice Ae l0.length ce) := (blk_cell hblk 1).trans rfl
  have hg3 : w.cell? ⟨g, 3, none⟩ = some (.slice (some ad) l0.length cp) := (blk_cell hblk 3).trans rfl
  have HE := Aside0.mk (Kd.R_reads' he).2.2
  have HEL := Aside0.mk hel
  have HQ := Aside0.mk hiq
  have HR0 := Aside0.mk hr0
  have p0 := eq_true q0
  have p1 := eq_true q1
  clear hblk he hp hel hol hpl hiq hr0 hq hlq
  by_cases c2 : a2 = (q.length : Int)
  · rw [if_pos c2] at h
    obtain rfl := Option.some.inj h
    have c2b : (a2 == (q.length : Int)) = true := by simpa using c2
    clear h c2
    go_enter Try.func55, Try.ntmps55
    go_wp2
    go_ret
    exact ⟨rfl, Drawn0.refl _⟩
  · rw [if_neg c2] at h
    have c2b : (a2 == (q.length : Int)) = false := by simpa using c2
    by_cases c3 : 0 ≤ (q.length : Int) - 1 - a2
    rotate_left
    · rw [if_neg c3] at h; exact absurd h (by simp)
    rw [if_pos c3] at h
    have c31 : (q.length : Int) - 1 - a2 < (q.length : Int) := by omega
    obtain ⟨adq, eq_, hxt⟩ := Kd.at_int HQ.out ((q.length : Int) - 1 - a2) c3 c31
    cases eq_
    obtain ⟨t, ht⟩ : ∃ t, t = rd q ((q.length : Int) - 1 - a2) := ⟨_, rfl⟩
    rw [← ht] at h hxt
    by_cases c4 : 0 ≤ t
    rotate_left
    · rw [if_neg c4] at h; exact absurd h (by simp)
    rw [if_pos c4] at h
    by_cases c5 : t < (l0.length : Int)
    rotate_left
    · rw [if_neg c5] at h; exact absurd h (by simp)
    rw [if_pos c5] at h
    obtain ⟨adl, AY, cY, eY, hyx, _, _, _, _⟩ := at_T56 HR0.out t c4 c5
    cases eY
    obtain ⟨ade, eE, hex⟩ := Kd.at_int HE.out t c4 (by rw [HEL.out]; exact c5)
    cases eE
    obtain ⟨y, hy⟩ : ∃ y, y = (rd_T56 l0 t).f0 := ⟨_, rfl⟩
    rw [← hy] at hyx h
    have p3 := eq_true c3
    have p31 := eq_true c31
    have t60 : t ≤ 60 := by omega
    have q50 : (q.length : Int) ≤ 60 := by omega
    clear hy ht c2
    by_cases c6 : y = 16
    · rw [if_pos c6] at h
      obtain rfl := Option.some.inj h
      have c6b : (y == 16) = true := by simpa using c6
      clear h c6
      go_enter Try.func55, Try.ntmps55
      go_wp2
      go_ret
      exact ⟨rfl, Drawn0.refl _⟩
    · rw [if_neg c6] at h
      have c6b : (y == 16) = false := by simpa using c6
      by_cases c7 : -1 ≤ rd e t ∧ rd e t ≤ 60
      rotate_left
      · rw [if_neg c7] at h; exact absurd h (by simp)
      rw [if_pos c7] at h
      obtain rfl := Option.some.inj h
      obtain ⟨c71, c72⟩ := c7
      clear h c6
      go_enter Try.func55, Try.ntmps55
      go_wp2
      go_ret
      exact ⟨rfl, Drawn0.refl _⟩

/-! ### impl_TargetOf: function 26 (by hand: a shape that came back is read) -/
def impl_TargetOf.g (l : List S56) (a1 a2 : Int) (e : List Int) (p : List (List Int)) : Option (Int × Bool) := if l.length ≤ 60 then ((impl_within.f a1 0 ((l.length : Int) - 1)).bind fun b => (if b = true then (if 0 ≤ a1 ∧ a1 < (l.length : Int) then ((impl_within.f a2 0 ((p.getD a1.toNat []).length : Int)).bind fun b2 => (if b2 = true then ((impl_shape_target.f l e p a1 a2).bind fun t => some (t, true)) else some (0, false))) else none) else some (0, false))) else none
def impl_TargetOf.f (k : Nat) (l : List S56) (a1 a2 : Int) : Option (Int × Bool) := (impl_shapeOf.f k l).bind fun r => (match r with
  | none => some (0, false)
  | some x => impl_TargetOf.g l a1 a2 x.1 x.2.2)
theorem impl_TargetOf.mono : ∀ a0 a1 a2 k, LeO (impl_TargetOf.f k a0 a1 a2) (impl_TargetOf.f (k + 1) a0 a1 a2) := fun _ _ _ k => LeO.bind (impl_shapeOf.mono _ _) (fun _ => LeO.refl _)
set_option maxHeartbeats 8000000 in
set_option maxRecDepth 100000 in
theorem impl_TargetOf.calls (k : Nat) (A0 : Option Addr) (c0 : Nat) (l0 : List S56) (a1 a2 : Int) (r1 : Int) (r2 : Bool) (w : World) (hr0 : Kd.C k56 w A0 l0.length l0) (hc0 : l0.length ≤ c0) (h : impl_TargetOf.f k l0 a1 a2 = some (r1, r2)) :
    Calls Try.prog 26 #[.slice A0 l0.length c0, .int .i64 a1, .int .i64 a2] w fun e w' => e = .returned (.tuple #[.int .i64 r1, .bool r2]) ∧ Below w.heap.size w w' := by
  have hu63 := Try.underlying63
  have HR0 := Aside0.mk hr0
  have HC0 := Aside0.mk hc0
  clear hr0 hc0
  unfold impl_TargetOf.f at h
  obtain ⟨s, A1, H⟩ := Option.bind_eq_some_iff.mp h
  have A1 := Aside0.mk A1
  clear h
  cases s with
  | none =>
    simp only [Option.some.injEq, Prod.mk.injEq] at H
    obtain ⟨rfl, rfl⟩ := H
    go_enter Try.func26, Try.ntmps26
    go_wp2_with (first | (go_at_call 50; (with_reducible refine (impl_shapeOf.calls k _ _ l0 none _ HR0.out HC0.out A1.out).mono ?_); rintro e w2 ⟨v, rfl, hv, hb⟩; have HB2 := Aside0.mk hb; obtain rfl : v = .pointer none := hv; clear hb))
    go_ret2
    exact ⟨rfl, HB2.out⟩
  | some s =>
    obtain ⟨e1, o1, p1⟩ := s
    dsimp only at H
    unfold impl_TargetOf.g at H
    by_cases c1 : l0.length ≤ 60
    rotate_left
    · rw [if_neg c1] at H; exact absurd H (by simp)
    rw [if_pos c1] at H
    have c60 : (l0.length : Int) ≤ 60 := by omega
    obtain ⟨b, A2, H⟩ := Option.bind_eq_some_iff.mp H
    have A2 := Aside0.mk A2
    clear c1
    cases b with
    | false =>
      rw [if_neg (by decide)] at H
      simp only [Option.some.injEq, Prod.mk.injEq] at H
      obtain ⟨rfl, rfl⟩ := H
      go_enter Try.func26, Try.ntmps26
      go_wp2_with (first | (go_at_call 50; (with_reducible refine (impl_shapeOf.calls k _ _ l0 (some (e1, o1, p1)) _ HR0.out HC0.out A1.out).mono ?_); rintro e w2 ⟨v, rfl, hv, hb⟩; have HB2 := Aside0.mk hb; obtain ⟨g, rfl, hs⟩ : ∃ g, v = .pointer (some ⟨g, 0, none⟩) ∧ ShapeAt w2 w.heap.size g l0.length c0 A0 e1 o1 p1 := hv; clear hb hs) | (go_at_call 54; (with_reducible refine (impl_within.calls a1 0 ((l0.length : Int) - 1) false _ A2.out).mono ?_); rintro e w3 ⟨rfl, ⟨nd3, rfl⟩⟩))
      go_ret2
      exact ⟨rfl, pw_below_drewN HB2.out _⟩
    | true =>
      rw [if_pos rfl] at H
      by_cases c2 : 0 ≤ a1 ∧ a1 < (l0.length : Int)
      rotate_left
      · rw [if_neg c2] at H; exact absurd H (by simp)
      rw [if_pos c2] at H
      obtain ⟨q0, q1⟩ := c2
      obtain ⟨b2, A3, H⟩ := Option.bind_eq_some_iff.mp H
      cases b2 with
      | false =>
        rw [if_neg (by decide)] at H
        simp only [Option.some.injEq, Prod.mk.injEq] at H
        obtain ⟨rfl, rfl⟩ := H
        have Q0 := Aside0.mk q0
        have Q1 := Aside0.mk q1
        have p0 := eq_true q0
        have p1' := eq_true q1
        clear q0 q1
        go_enter Try.func26, Try.ntmps26
        go_wp2_with (first | (go_at_call 50; (with_reducible refine (impl_shapeOf.calls k _ _ l0 (some (e1, o1, p1)) _ HR0.out HC0.out A1.out).mono ?_); rintro e w2 ⟨v, rfl, hv, hb⟩; have HB2 := Aside0.mk hb; obtain ⟨g, rfl, hs⟩ : ∃ g, v = .pointer (some ⟨g, 0, none⟩) ∧ ShapeAt w2 w.heap.size g l0.length c0 A0 e1 o1 p1 := hv; have HS2 := Aside0.mk hs; obtain ⟨_, ⟨ve, vo, vp, hblk, _, _, hp⟩, hel, hol, hpl⟩ := hs; obtain ⟨Ap, cp, ep⟩ := Kd.S_slice hp; rw [hpl] at ep; subst ep; obtain ⟨ad, Aq, cq, eA, hxq, hlq, hiq⟩ := at_row (Kd.S_reads' hp).2.2 a1 Q0.out (by rw [hpl]; exact Q1.out); cases eA; obtain ⟨q, hq⟩ : ∃ q, q = p1.getD a1.toNat [] := ⟨_, rfl⟩; rw [← hq] at hxq; have A3 := Aside0.mk (by rw [← hq] at A3; exact A3); have hg3 : w2.cell? ⟨g, 3, none⟩ = some (.slice (some ad) l0.length cp) := (blk_cell hblk 3).trans rfl; clear hb hblk hp hel hol hpl hlq hiq hq) | (go_at_call 54; (with_reducible refine (impl_within.calls a1 0 ((l0.length : Int) - 1) true _ A2.out).mono ?_); rintro e w3 ⟨rfl, ⟨nd3, rfl⟩⟩) | (go_at_call 54; (with_reducible refine (impl_within.calls a2 0 (q.length : Int) false _ A3.out).mono ?_); rintro e w4 ⟨rfl, ⟨nd4, rfl⟩⟩))
        go_ret2
        exact ⟨rfl, pw_below_drewN HB2.out _⟩
      | true =>
        rw [if_pos rfl] at H
        obtain ⟨t, A4, H⟩ := Option.bind_eq_some_iff.mp H
        have A4 := Aside0.mk A4
        simp only [Option.some.injEq, Prod.mk.injEq] at H
        obtain ⟨rfl, rfl⟩ := H
        have Q0 := Aside0.mk q0
        have Q1 := Aside0.mk q1
        have p0 := eq_true q0
        have p1' := eq_true q1
        clear q0 q1
        go_enter Try.func26, Try.ntmps26
        go_wp2_with (first | (go_at_call 50; (with_reducible refine (impl_shapeOf.calls k _ _ l0 (some (e1, o1, p1)) _ HR0.out HC0.out A1.out).mono ?_); rintro e w2 ⟨v, rfl, hv, hb⟩; have HB2 := Aside0.mk hb; obtain ⟨g, rfl, hs⟩ : ∃ g, v = .pointer (some ⟨g, 0, none⟩) ∧ ShapeAt w2 w.heap.size g l0.length c0 A0 e1 o1 p1 := hv; have HS2 := Aside0.mk hs; obtain ⟨_, ⟨ve, vo, vp, hblk, _, _, hp⟩, hel, hol, hpl⟩ := hs; obtain ⟨Ap, cp, ep⟩ := Kd.S_slice hp; rw [hpl] at ep; subst ep; obtain ⟨ad, Aq, cq, eA, hxq, hlq, hiq⟩ := at_row (Kd.S_reads' hp).2.2 a1 Q0.out (by rw [hpl]; exact Q1.out); cases eA; obtain ⟨q, hq⟩ : ∃ q, q = p1.getD a1.toNat [] := ⟨_, rfl⟩; rw [← hq] at hxq; have A3 := Aside0.mk (by rw [← hq] at A3; exact A3); have hg3 : w2.cell? ⟨g, 3, none⟩ = some (.slice (some ad) l0.length cp) := (blk_cell hblk 3).trans rfl; clear hb hblk hp hel hol hpl hlq hiq hq) | (go_at_call 54; (with_reducible refine (impl_within.calls a1 0 ((l0.length : Int) - 1) true _ A2.out).mono ?_); rintro e w3 ⟨rfl, ⟨nd3, rfl⟩⟩) | (go_at_call 54; (with_reducible refine (impl_within.calls a2 0 (q.length : Int) true _ A3.out).mono ?_); rintro e w4 ⟨rfl, ⟨nd4, rfl⟩⟩) | (go_at_call 55; (with_reducible refine (impl_shape_target.calls w.heap.size g _ _ l0 e1 o1 p1 a1 a2 t _ (Kd.C_below (Kd.C_below HR0.out HB2.out) (by repeat (with_reducible (first | exact Below.refl _ _ | refine pw_below_drewN ?_ _)))) (HS2.out.step (by repeat (with_reducible (first | exact Below.refl _ _ | refine pw_below_drewN ?_ _)))) A4.out).mono ?_); rintro e w5 ⟨rfl, ⟨nd5, rfl⟩⟩))
        go_ret2
        exact ⟨rfl, by repeat (with_reducible (first | exact HB2.out | refine pw_below_drewN ?_ _))⟩

end Go.Proofs.Ytmljikgegclolaa.Q
