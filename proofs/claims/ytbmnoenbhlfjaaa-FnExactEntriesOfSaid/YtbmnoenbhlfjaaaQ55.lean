-- WRITTEN BY A PROGRAM OF THIS SESSION
import Derived.Test.YtbmnoenbhlfjaaaQ0
import Derived.Test.YtbmnoenbhlfjaaaQ1
import Derived.Test.YtbmnoenbhlfjaaaQ2
import Derived.Test.YtbmnoenbhlfjaaaQ5
import Derived.Test.YtbmnoenbhlfjaaaQ6
import Derived.Test.YtbmnoenbhlfjaaaQ9
import Derived.Test.YtbmnoenbhlfjaaaQ12
import Derived.Test.YtbmnoenbhlfjaaaWMiN
namespace Go.Proofs.Ytbmnoenbhlfjaaa.Q
open Go.RowKit Go.Proofs.YtbmnoenbhlfjaaaW.PrintWords Go.Proofs.YtbmnoenbhlfjaaaW.PrintLast Go.Proofs.YtbmnoenbhlfjaaaW.PrintMore
attribute [local go_sem] max2_int min2_int max_two min_two max_three min_three max_four min_four   -- for this text's walks alone
set_option linter.unusedVariables false
set_option linter.unusedSimpArgs false

/-! ### spec_EntriesOf: function 28 -/
mutual
def spec_EntriesOf.j0 : Nat → Int → List (S58) → Bool → List (List Int) → Option (List Int × Bool)
 | 0,_,_,_,_ => none
 | k + 1,x1,x6,x27,x272000 => if x27 = true then (some (([] : List Int),false)) else ((spec_l7Without.f k x272000 (-1)).bind fun t276 => (spec_EntriesOf.l0 k x1 x6 ([] : List Int) t276 (t276.length : Int) 0 x272000))
def spec_EntriesOf.l0 : Nat → Int → List (S58) → List Int → List Int → Int → Int → List (List Int) → Option (List Int × Bool)
 | 0,_,_,_,_,_,_,_ => none
 | k + 1,x1,x6,x8,x29,x30,x31,x272000 => if x31 < x30 then (if 0 ≤ x31 then (if x31 < (x29.length : Int) then (if 0 ≤ x1 then (if x1 < (x6.length : Int) then ((spec_l1Has.f k ((rd_T58 x6 x1).f1) (rd x29 x31)).bind fun t281 => (if t281 = true then (spec_EntriesOf.l0 k x1 x6 x8 x29 x30 (wrap64 (x31 + 1)) x272000) else (if 0 ≤ (rd x29 x31) then (if (rd x29 x31) < (x272000.length : Int) then ((spec_l1Has.f k (rd_L1 x272000 (rd x29 x31)) ((rd_T58 x6 x1).f0)).bind fun t284 => (if t284 = true then ((spec_l1Put.f k x8 (rd x29 x31)).bind fun t285 => (spec_EntriesOf.l0 k x1 x6 t285 x29 x30 (wrap64 (x31 + 1)) x272000)) else (spec_EntriesOf.l0 k x1 x6 x8 x29 x30 (wrap64 (x31 + 1)) x272000))) else (none)) else (none)))) else (none)) else (none)) else (none)) else (none)) else (some (x8,true))
end
def spec_EntriesOf.f (k : Nat) (l0_0 : List (List Int)) (a1 : Int) : Option (List Int × Bool):=(spec_l8Loops.f k l0_0).bind fun bt272 => (if bt272.2 = true then (if a1 < 0 then (spec_EntriesOf.j0 k a1 bt272.1 true l0_0) else (spec_EntriesOf.j0 k a1 bt272.1 (decide (a1 ≥ (bt272.1.length : Int))) l0_0)) else (spec_EntriesOf.j0 k a1 bt272.1 true l0_0))
theorem spec_EntriesOf.mono_l : ∀ k,(∀ y0 y1 y2 y3,LeO (spec_EntriesOf.j0 k y0 y1 y2 y3) (spec_EntriesOf.j0 (k + 1) y0 y1 y2 y3)) ∧ (∀ y0 y1 y2 y3 y4 y5 y6,LeO (spec_EntriesOf.l0 k y0 y1 y2 y3 y4 y5 y6) (spec_EntriesOf.l0 (k + 1) y0 y1 y2 y3 y4 y5 y6))
 | 0 => ⟨fun _ _ _ _ r h => by simp [spec_EntriesOf.j0] at h,fun _ _ _ _ _ _ _ r h => by simp [spec_EntriesOf.l0] at h⟩
 | k + 1 => by
  obtain ⟨ih0,ih1⟩:=spec_EntriesOf.mono_l k
  refine ⟨?_,?_⟩
  ·intro y0 y1 y2 y3
   unfold spec_EntriesOf.j0
   repeat' first
   | (with_reducible exact ih0 _ _ _ _)
   | (with_reducible exact ih1 _ _ _ _ _ _ _)
   | (with_reducible exact spec_l1Has.mono _ _ _)
   | (with_reducible exact spec_l1Put.mono _ _ _)
   | (with_reducible exact spec_l7Without.mono _ _ _)
   | (with_reducible exact spec_l8Loops.mono _ _)
   | (with_reducible exact LeO.refl _)
   | (with_reducible exact LeO.none _)
   | (with_reducible refine LeO.ite ?_ ?_)
   | (with_reducible refine LeO.bind ?_ (fun _ => ?_))
   | exact ih0 _ _ _ _
   | exact ih1 _ _ _ _ _ _ _
   | exact spec_l1Has.mono _ _ _
   | exact spec_l1Put.mono _ _ _
   | exact spec_l7Without.mono _ _ _
   | exact spec_l8Loops.mono _ _
   | exact LeO.none _
   | refine LeO.ite ?_ ?_
   | refine LeO.bind ?_ (fun _ => ?_)
  ·intro y0 y1 y2 y3 y4 y5 y6
   unfold spec_EntriesOf.l0
   repeat' first
   | (with_reducible exact ih0 _ _ _ _)
   | (with_reducible exact ih1 _ _ _ _ _ _ _)
   | (with_reducible exact spec_l1Has.mono _ _ _)
   | (with_reducible exact spec_l1Put.mono _ _ _)
   | (with_reducible exact spec_l7Without.mono _ _ _)
   | (with_reducible exact spec_l8Loops.mono _ _)
   | (with_reducible exact LeO.refl _)
   | (with_reducible exact LeO.none _)
   | (with_reducible refine LeO.ite ?_ ?_)
   | (with_reducible refine LeO.bind ?_ (fun _ => ?_))
   | exact ih0 _ _ _ _
   | exact ih1 _ _ _ _ _ _ _
   | exact spec_l1Has.mono _ _ _
   | exact spec_l1Put.mono _ _ _
   | exact spec_l7Without.mono _ _ _
   | exact spec_l8Loops.mono _ _
   | exact LeO.none _
   | refine LeO.ite ?_ ?_
   | refine LeO.bind ?_ (fun _ => ?_)
theorem spec_EntriesOf.mono : ∀ a0 a1 k,LeO (spec_EntriesOf.f k a0 a1) (spec_EntriesOf.f (k + 1) a0 a1):=by
 intro a0 a1 k
 obtain ⟨ih0,ih1⟩:=spec_EntriesOf.mono_l k
 unfold spec_EntriesOf.f
 repeat' first
   | (with_reducible exact ih0 _ _ _ _)
   | (with_reducible exact ih1 _ _ _ _ _ _ _)
   | (with_reducible exact spec_l1Has.mono _ _ _)
   | (with_reducible exact spec_l1Put.mono _ _ _)
   | (with_reducible exact spec_l7Without.mono _ _ _)
   | (with_reducible exact spec_l8Loops.mono _ _)
   | (with_reducible exact LeO.refl _)
   | (with_reducible exact LeO.none _)
   | (with_reducible refine LeO.ite ?_ ?_)
   | (with_reducible refine LeO.bind ?_ (fun _ => ?_))
   | exact ih0 _ _ _ _
   | exact ih1 _ _ _ _ _ _ _
   | exact spec_l1Has.mono _ _ _
   | exact spec_l1Put.mono _ _ _
   | exact spec_l7Without.mono _ _ _
   | exact spec_l8Loops.mono _ _
   | exact LeO.none _
   | refine LeO.ite ?_ ?_
   | refine LeO.bind ?_ (fun _ => ?_)
set_option maxHeartbeats 8000000 in
set_option maxRecDepth 100000 in
theorem spec_EntriesOf.calls (k : Nat) (A0_0 : Option Addr) (c0_0 : Nat) (l0_0 : List (List Int)) (a1 : Int) (r1 : List Int) (r2 : Bool) (w : World) (hr0_0 : Kd.C (Kd.slice 3 (Kd.int .i64)) w A0_0 l0_0.length l0_0) (hc0_0 : l0_0.length ≤ c0_0) (h : spec_EntriesOf.f k l0_0 a1 = some (r1,r2)) :
  Calls Try.prog 28 #[.agg #[.slice A0_0 l0_0.length c0_0],.int .i64 a1] w fun e w' => ∃ v0_ : Value,e = .returned (.tuple #[v0_,.bool r2]) ∧ Kd.R (Kd.int .i64) 3 w' w.heap.size (fun _ => True) v0_ r1 ∧ Below w.heap.size w w':=by
 have hu28:=Try.underlying28
 have HR0_0:=Aside0.mk hr0_0
 have HC0_0:=Aside0.mk hc0_0
 clear hr0_0 hc0_0
 have HB:=Aside0.mk (Below.refl w.heap.size w)
 have H : ((spec_l8Loops.f k l0_0).bind fun bt272 => (if bt272.2 = true then (if a1 < 0 then (spec_EntriesOf.j0 k a1 bt272.1 true l0_0) else (spec_EntriesOf.j0 k a1 bt272.1 (decide (a1 ≥ (bt272.1.length : Int))) l0_0)) else (spec_EntriesOf.j0 k a1 bt272.1 true l0_0))) = some (r1,r2):=h
 clear h
 replace H:=Option.bind_eq_some_iff.mp H
 obtain ⟨⟨t272,t275⟩,A30,H⟩:=H
 replace H : (if t275 = true then (if a1 < 0 then (spec_EntriesOf.j0 k a1 t272 true l0_0) else (spec_EntriesOf.j0 k a1 t272 (decide (a1 ≥ (t272.length : Int))) l0_0)) else (spec_EntriesOf.j0 k a1 t272 true l0_0)) = some (r1,r2):=H
 have A3:=Aside0.mk A30
 clear A30
 have HC4:=Aside0.mk H
 clear H
 go_enter Try.func28,Try.ntmps28
 go_upto_region 2 with (first | ((with_reducible refine gate_dst (N:=2) rfl ?_);(try (refine gate_guard (by rfl) ?_;dsimp only));refine box_event ?hg (N:=2) ?hd (cs:=#[.slice A0_0 l0_0.length c0_0]) (t:=28) ?hr ?_;(case hd => rfl);(case hg => rfl);(case hr => first | (go_simp;done) | (go_simp;rfl));intro gb271 hg w5 hbox hb;have n0_:=Aside0.mk (below_step (by repeat (first | (with_reducible first | exact HB.out | apply below_alloc | apply pw_below_drewN | apply below_drew1) | exact HB.out)) hb);have n1_:=Aside0.mk (hbox);have n2_:=Aside0.mk ((by rw [hg];exact (below_size (by repeat (first | (with_reducible first | exact HB.out | apply below_alloc | apply pw_below_drewN | apply below_drew1) | exact HB.out))) : w.heap.size ≤ gb271));have n3_:=Aside0.mk ((by rw [hg];exact (below_size (by repeat (first | (with_reducible first | exact HB.out | apply below_alloc | apply pw_below_drewN | apply below_drew1) | exact HB.out))) : w.heap.size ≤ gb271));clear HB;have HB:=n0_;have BK271:=n1_;have GW271:=n2_;have GE271:=n3_;clear n0_ n1_ n2_ n3_;clear hb hbox hg;have hcz6_0 : w5.cell? ⟨gb271,0,none⟩ = some (.slice A0_0 l0_0.length c0_0):=(blk_cell BK271.out 0).trans rfl;have hfz6_0:=blk_frozen BK271.out 0) | (go_at_call 43;(with_reducible refine (spec_l8Loops.calls k _ _ l0_0 t272 t275 _ ?side1 ?side2 A3.out).mono ?_);(case side1 => repeat (first | exact (Kd.C_below HR0_0.out HB.out) | (with_reducible refine Kd.C_alloc ?_ _) | (with_reducible refine Kd.C_drewN ?_ _) | (with_reducible refine Kd.C_drew ?_)));(case side2 => exact HC0_0.out);rintro e w7 ⟨v273,rfl,ho0,hb⟩;have n0_:=Aside0.mk (Kd.S_lower ho0 (below_size (by repeat (first | (with_reducible first | exact HB.out | apply below_alloc | apply pw_below_drewN | apply below_drew1 | refine below_set ?_ GE271.out) | exact HB.out))));have n1_:=Aside0.mk (blk_below (g:=gb271) (o:=.cells #[.slice A0_0 l0_0.length c0_0] 28 (0,0)) (by (with_reducible repeat (first | refine blk_drewN ?_ _ | refine blk_drew ?_ | refine blk_alloc ?_ _));exact BK271.out) hb);have n2_:=Aside0.mk (below_step (by repeat (first | (with_reducible first | exact HB.out | apply below_alloc | apply pw_below_drewN | apply below_drew1 | refine below_set ?_ GE271.out) | exact HB.out)) hb);clear BK271;clear HB;have HO274:=n0_;have BK271:=n1_;have HB:=n2_;clear n0_ n1_ n2_;(try clear hb);(try clear hb2);(try clear hk);(try clear hi);(try clear ho0)))
 repeat (go_quiet (first | ((with_reducible refine gate_dst (N:=2) rfl ?_);(try (refine gate_guard (by rfl) ?_;dsimp only));refine box_event ?hg (N:=2) ?hd (cs:=#[.slice A0_0 l0_0.length c0_0]) (t:=28) ?hr ?_;(case hd => rfl);(case hg => rfl);(case hr => first | (go_simp;done) | (go_simp;rfl));intro gb271 hg w5 hbox hb;have n0_:=Aside0.mk (below_step (by repeat (first | (with_reducible first | exact HB.out | apply below_alloc | apply pw_below_drewN | apply below_drew1) | exact HB.out)) hb);have n1_:=Aside0.mk (hbox);have n2_:=Aside0.mk ((by rw [hg];exact (below_size (by repeat (first | (with_reducible first | exact HB.out | apply below_alloc | apply pw_below_drewN | apply below_drew1) | exact HB.out))) : w.heap.size ≤ gb271));have n3_:=Aside0.mk ((by rw [hg];exact (below_size (by repeat (first | (with_reducible first | exact HB.out | apply below_alloc | apply pw_below_drewN | apply below_drew1) | exact HB.out))) : w.heap.size ≤ gb271));clear HB;have HB:=n0_;have BK271:=n1_;have GW271:=n2_;have GE271:=n3_;clear n0_ n1_ n2_ n3_;clear hb hbox hg;have hcz6_0 : w5.cell? ⟨gb271,0,none⟩ = some (.slice A0_0 l0_0.length c0_0):=(blk_cell BK271.out 0).trans rfl;have hfz6_0:=blk_frozen BK271.out 0) | (go_at_call 43;(with_reducible refine (spec_l8Loops.calls k _ _ l0_0 t272 t275 _ ?side1 ?side2 A3.out).mono ?_);(case side1 => repeat (first | exact (Kd.C_below HR0_0.out HB.out) | (with_reducible refine Kd.C_alloc ?_ _) | (with_reducible refine Kd.C_drewN ?_ _) | (with_reducible refine Kd.C_drew ?_)));(case side2 => exact HC0_0.out);rintro e w7 ⟨v273,rfl,ho0,hb⟩;have n0_:=Aside0.mk (Kd.S_lower ho0 (below_size (by repeat (first | (with_reducible first | exact HB.out | apply below_alloc | apply pw_below_drewN | apply below_drew1 | refine below_set ?_ GE271.out) | exact HB.out))));have n1_:=Aside0.mk (blk_below (g:=gb271) (o:=.cells #[.slice A0_0 l0_0.length c0_0] 28 (0,0)) (by (with_reducible repeat (first | refine blk_drewN ?_ _ | refine blk_drew ?_ | refine blk_alloc ?_ _));exact BK271.out) hb);have n2_:=Aside0.mk (below_step (by repeat (first | (with_reducible first | exact HB.out | apply below_alloc | apply pw_below_drewN | apply below_drew1 | refine below_set ?_ GE271.out) | exact HB.out)) hb);clear BK271;clear HB;have HO274:=n0_;have BK271:=n1_;have HB:=n2_;clear n0_ n1_ n2_;(try clear hb);(try clear hb2);(try clear hk);(try clear hi);(try clear ho0)));go_upto_region 2 with (first | ((with_reducible refine gate_dst (N:=2) rfl ?_);(try (refine gate_guard (by rfl) ?_;dsimp only));refine box_event ?hg (N:=2) ?hd (cs:=#[.slice A0_0 l0_0.length c0_0]) (t:=28) ?hr ?_;(case hd => rfl);(case hg => rfl);(case hr => first | (go_simp;done) | (go_simp;rfl));intro gb271 hg w5 hbox hb;have n0_:=Aside0.mk (below_step (by repeat (first | (with_reducible first | exact HB.out | apply below_alloc | apply pw_below_drewN | apply below_drew1) | exact HB.out)) hb);have n1_:=Aside0.mk (hbox);have n2_:=Aside0.mk ((by rw [hg];exact (below_size (by repeat (first | (with_reducible first | exact HB.out | apply below_alloc | apply pw_below_drewN | apply below_drew1) | exact HB.out))) : w.heap.size ≤ gb271));have n3_:=Aside0.mk ((by rw [hg];exact (below_size (by repeat (first | (with_reducible first | exact HB.out | apply below_alloc | apply pw_below_drewN | apply below_drew1) | exact HB.out))) : w.heap.size ≤ gb271));clear HB;have HB:=n0_;have BK271:=n1_;have GW271:=n2_;have GE271:=n3_;clear n0_ n1_ n2_ n3_;clear hb hbox hg;have hcz6_0 : w5.cell? ⟨gb271,0,none⟩ = some (.slice A0_0 l0_0.length c0_0):=(blk_cell BK271.out 0).trans rfl;have hfz6_0:=blk_frozen BK271.out 0) | (go_at_call 43;(with_reducible refine (spec_l8Loops.calls k _ _ l0_0 t272 t275 _ ?side1 ?side2 A3.out).mono ?_);(case side1 => repeat (first | exact (Kd.C_below HR0_0.out HB.out) | (with_reducible refine Kd.C_alloc ?_ _) | (with_reducible refine Kd.C_drewN ?_ _) | (with_reducible refine Kd.C_drew ?_)));(case side2 => exact HC0_0.out);rintro e w7 ⟨v273,rfl,ho0,hb⟩;have n0_:=Aside0.mk (Kd.S_lower ho0 (below_size (by repeat (first | (with_reducible first | exact HB.out | apply below_alloc | apply pw_below_drewN | apply below_drew1 | refine below_set ?_ GE271.out) | exact HB.out))));have n1_:=Aside0.mk (blk_below (g:=gb271) (o:=.cells #[.slice A0_0 l0_0.length c0_0] 28 (0,0)) (by (with_reducible repeat (first | refine blk_drewN ?_ _ | refine blk_drew ?_ | refine blk_alloc ?_ _));exact BK271.out) hb);have n2_:=Aside0.mk (below_step (by repeat (first | (with_reducible first | exact HB.out | apply below_alloc | apply pw_below_drewN | apply below_drew1 | refine below_set ?_ GE271.out) | exact HB.out)) hb);clear BK271;clear HB;have HO274:=n0_;have BK271:=n1_;have HB:=n2_;clear n0_ n1_ n2_;(try clear hb);(try clear hb2);(try clear hk);(try clear hi);(try clear ho0))))
 (try simp only [Act.put,List.setIfInBounds_toArray,List.set_cons_zero,List.set_cons_succ])
 go_cut [27] (fun v27 wc => ∃ (kq : Nat) (x27_3 : Bool),v27 = .bool x27_3 ∧ Aside0 (spec_EntriesOf.j0 kq a1 t272 x27_3 l0_0 = some (r1,r2)) ∧ Aside0 (kq ≤ k) ∧ Aside0 (Kd.S k58 58 wc w.heap.size (fun _ => True) v273 t272) ∧ Aside0 (wc.heap[gb271]? = some (.cells #[(.slice A0_0 l0_0.length c0_0)] 28 (0,0))) ∧ Aside0 (Below w.heap.size w wc))
 case first =>
  have H:=HC4.out
  clear HC4
  by_cases c8 : t275 = true
  ·subst c8
   have H1 : (if a1 < 0 then (spec_EntriesOf.j0 k a1 t272 true l0_0) else (spec_EntriesOf.j0 k a1 t272 (decide (a1 ≥ (t272.length : Int))) l0_0)) = some (r1,r2):=by rw [if_pos rfl] at H;exact H
   clear H
   have H:=H1
   clear H1
   by_cases c9 : a1 < 0
   ·rw [if_pos c9] at H
    have c9b0 : decide (a1 < 0) = true:=decide_eq_true c9
    clear c9
    (first | rw [c9b0] | (simp only [i64_w,i32_w];rw [c9b0]) | skip)
    have H':=Aside0.mk H
    clear H
    go_wp2
    repeat (go_quiet (fail);try go_wp2)
    go_meet
    case rel => exact ⟨_,(true),(by first | rfl | (simp;done) | (simp [*];done)),H',⟨by first | omega | exact Nat.le_refl _⟩,⟨by (with_reducible repeat (first | apply Kd.S_alloc | apply Kd.S_drewN | apply Kd.S_drew));exact HO274.out⟩,⟨by (with_reducible repeat (first | refine blk_drewN ?_ _ | refine blk_drew ?_ | refine blk_alloc ?_ _));exact BK271.out⟩,⟨by repeat (first | (with_reducible first | exact HB.out | apply below_alloc | apply pw_below_drewN | apply below_drew1 | refine below_set ?_ GE271.out) | exact HB.out)⟩⟩
   ·rw [if_neg c9] at H
    have c9b0 : decide (a1 < 0) = false:=decide_eq_false c9
    clear c9
    (first | rw [c9b0] | (simp only [i64_w,i32_w];rw [c9b0]) | skip)
    have H':=Aside0.mk H
    clear H
    obtain ⟨Ao10,co10,eo10⟩:=Kd.S_slice HO274.out
    subst eo10
    go_wp2
    repeat (go_quiet (fail);try go_wp2)
    go_meet
    case rel => exact ⟨_,(decide (a1 ≥ (t272.length : Int))),(by first | rfl | (simp;done) | (simp [*];done)),H',⟨by first | omega | exact Nat.le_refl _⟩,⟨by (with_reducible repeat (first | apply Kd.S_alloc | apply Kd.S_drewN | apply Kd.S_drew));exact HO274.out⟩,⟨by (with_reducible repeat (first | refine blk_drewN ?_ _ | refine blk_drew ?_ | refine blk_alloc ?_ _));exact BK271.out⟩,⟨by repeat (first | (with_reducible first | exact HB.out | apply below_alloc | apply pw_below_drewN | apply below_drew1 | refine below_set ?_ GE271.out) | exact HB.out)⟩⟩
  ·replace c8:=Bool.eq_false_iff.mpr c8
   subst c8
   have H1 : (spec_EntriesOf.j0 k a1 t272 true l0_0) = some (r1,r2):=by rw [if_neg (show ¬ (false = true) by decide)] at H;exact H
   clear H
   have H:=H1
   clear H1
   have H':=Aside0.mk H
   clear H
   go_wp2
   repeat (go_quiet (fail);try go_wp2)
   go_meet
   case rel => exact ⟨_,(true),(by first | rfl | (simp;done) | (simp [*];done)),H',⟨by first | omega | exact Nat.le_refl _⟩,⟨by (with_reducible repeat (first | apply Kd.S_alloc | apply Kd.S_drewN | apply Kd.S_drew));exact HO274.out⟩,⟨by (with_reducible repeat (first | refine blk_drewN ?_ _ | refine blk_drew ?_ | refine blk_alloc ?_ _));exact BK271.out⟩,⟨by repeat (first | (with_reducible first | exact HB.out | apply below_alloc | apply pw_below_drewN | apply below_drew1 | refine below_set ?_ GE271.out) | exact HB.out)⟩⟩
 case rest =>
  clear HC4
  try clear c2
  try clear p2
  try clear c8
  try clear c9
  try clear c9b0
  try clear hcz6_0
  try clear hfz6_0
  obtain ⟨kq,x27_3,rfl,HA,HJ3,HO_6,BK271,HB⟩:=hcut
  cases kq with
  | zero => exact absurd HA.out (by simp [spec_EntriesOf.j0])
  | succ kj3 =>
   have H:=HA.out
   clear HA
   simp only [spec_EntriesOf.j0] at H
   by_cases c11 : x27_3 = true
   ·subst c11
    have H1 : (some (([] : List Int),false)) = some (r1,r2):=by rw [if_pos rfl] at H;exact H
    clear H
    have H:=H1
    clear H1
    simp only [Option.some.injEq,Prod.mk.injEq] at H
    obtain ⟨rfl,rfl⟩:=H
    go_wp2
    repeat (go_quiet (fail);try go_wp2)
    go_ret2
    exact ⟨_,by first | rfl | (simp [errW_none,errW_some] <;> rfl) | (simp [*,errW_none,errW_some] <;> rfl),by first | exact Kd.R_nil _ _ _ _ _ | exact Kd.N_nil _ _ _ _ _ | exact Kd.V_nil _ _ _ _ _ | exact Kd.Q_nil _ _ _ _ _ | exact Kd.S_nil _ _ _ _ _,by repeat (first | (with_reducible first | exact HB.out | apply below_alloc | apply pw_below_drewN | apply below_drew1 | refine below_set ?_ GE271.out) | exact HB.out)⟩
   ·replace c11:=Bool.eq_false_iff.mpr c11
    subst c11
    have H1 : ((spec_l7Without.f kj3 l0_0 (-1)).bind fun t276 => (spec_EntriesOf.l0 kj3 a1 t272 ([] : List Int) t276 (t276.length : Int) 0 l0_0)) = some (r1,r2):=by rw [if_neg (show ¬ (false = true) by decide)] at H;exact H
    clear H
    have H:=H1
    clear H1
    replace H:=Option.bind_eq_some_iff.mp H
    obtain ⟨t276,A120,H⟩:=H
    replace H : (spec_EntriesOf.l0 kj3 a1 t272 ([] : List Int) t276 (t276.length : Int) 0 l0_0) = some (r1,r2):=H
    have A12:=Aside0.mk A120
    clear A120
    have H':=Aside0.mk H
    clear H
    have hcz13_0 : wc.cell? ⟨gb271,0,none⟩ = some (.slice A0_0 l0_0.length c0_0):=(blk_cell BK271.out 0).trans rfl
    have hfz13_0:=blk_frozen BK271.out 0
    go_wp2_with (first | (go_at_call 54;(with_reducible refine (spec_l7Without.calls kj3 _ _ l0_0 (-1) t276 _ ?side1 ?side2 A12.out).mono ?_);(case side1 => repeat (first | exact (Kd.C_below HR0_0.out HB.out) | (with_reducible refine Kd.C_alloc ?_ _) | (with_reducible refine Kd.C_drewN ?_ _) | (with_reducible refine Kd.C_drew ?_)));(case side2 => exact HC0_0.out);rintro e w14 ⟨v277,rfl,ho0,hb⟩;have n0_:=Aside0.mk (Kd.S_elder' (by (with_reducible repeat (first | apply Kd.S_alloc | apply Kd.S_drewN | apply Kd.S_drew));exact HO_6.out) (Kd.R_base ho0) hb);have n1_:=Aside0.mk (Kd.R_lower ho0 (below_size (by repeat (first | (with_reducible first | exact HB.out | apply below_alloc | apply pw_below_drewN | apply below_drew1 | refine below_set ?_ GE271.out) | exact HB.out))));have n2_:=Aside0.mk (blk_below (g:=gb271) (o:=.cells #[.slice A0_0 l0_0.length c0_0] 28 (0,0)) (by (with_reducible repeat (first | refine blk_drewN ?_ _ | refine blk_drew ?_ | refine blk_alloc ?_ _));exact BK271.out) hb);have n3_:=Aside0.mk (below_step (by repeat (first | (with_reducible first | exact HB.out | apply below_alloc | apply pw_below_drewN | apply below_drew1 | refine below_set ?_ GE271.out) | exact HB.out)) hb);clear HO_6;clear BK271;clear HB;have HO_6:=n0_;have HO278:=n1_;have BK271:=n2_;have HB:=n3_;clear n0_ n1_ n2_ n3_;(try clear hb);(try clear hb2);(try clear hk);(try clear hi);(try clear ho0);obtain ⟨Ao15,co15,eo15⟩:=Kd.R_slice HO278.out;subst eo15))
    repeat (go_quiet (first | (go_at_call 54;(with_reducible refine (spec_l7Without.calls kj3 _ _ l0_0 (-1) t276 _ ?side1 ?side2 A12.out).mono ?_);(case side1 => repeat (first | exact (Kd.C_below HR0_0.out HB.out) | (with_reducible refine Kd.C_alloc ?_ _) | (with_reducible refine Kd.C_drewN ?_ _) | (with_reducible refine Kd.C_drew ?_)));(case side2 => exact HC0_0.out);rintro e w14 ⟨v277,rfl,ho0,hb⟩;have n0_:=Aside0.mk (Kd.S_elder' (by (with_reducible repeat (first | apply Kd.S_alloc | apply Kd.S_drewN | apply Kd.S_drew));exact HO_6.out) (Kd.R_base ho0) hb);have n1_:=Aside0.mk (Kd.R_lower ho0 (below_size (by repeat (first | (with_reducible first | exact HB.out | apply below_alloc | apply pw_below_drewN | apply below_drew1 | refine below_set ?_ GE271.out) | exact HB.out))));have n2_:=Aside0.mk (blk_below (g:=gb271) (o:=.cells #[.slice A0_0 l0_0.length c0_0] 28 (0,0)) (by (with_reducible repeat (first | refine blk_drewN ?_ _ | refine blk_drew ?_ | refine blk_alloc ?_ _));exact BK271.out) hb);have n3_:=Aside0.mk (below_step (by repeat (first | (with_reducible first | exact HB.out | apply below_alloc | apply pw_below_drewN | apply below_drew1 | refine below_set ?_ GE271.out) | exact HB.out)) hb);clear HO_6;clear BK271;clear HB;have HO_6:=n0_;have HO278:=n1_;have BK271:=n2_;have HB:=n3_;clear n0_ n1_ n2_ n3_;(try clear hb);(try clear hb2);(try clear hk);(try clear hi);(try clear ho0);obtain ⟨Ao15,co15,eo15⟩:=Kd.R_slice HO278.out;subst eo15));try go_wp2_with (first | (go_at_call 54;(with_reducible refine (spec_l7Without.calls kj3 _ _ l0_0 (-1) t276 _ ?side1 ?side2 A12.out).mono ?_);(case side1 => repeat (first | exact (Kd.C_below HR0_0.out HB.out) | (with_reducible refine Kd.C_alloc ?_ _) | (with_reducible refine Kd.C_drewN ?_ _) | (with_reducible refine Kd.C_drew ?_)));(case side2 => exact HC0_0.out);rintro e w14 ⟨v277,rfl,ho0,hb⟩;have n0_:=Aside0.mk (Kd.S_elder' (by (with_reducible repeat (first | apply Kd.S_alloc | apply Kd.S_drewN | apply Kd.S_drew));exact HO_6.out) (Kd.R_base ho0) hb);have n1_:=Aside0.mk (Kd.R_lower ho0 (below_size (by repeat (first | (with_reducible first | exact HB.out | apply below_alloc | apply pw_below_drewN | apply below_drew1 | refine below_set ?_ GE271.out) | exact HB.out))));have n2_:=Aside0.mk (blk_below (g:=gb271) (o:=.cells #[.slice A0_0 l0_0.length c0_0] 28 (0,0)) (by (with_reducible repeat (first | refine blk_drewN ?_ _ | refine blk_drew ?_ | refine blk_alloc ?_ _));exact BK271.out) hb);have n3_:=Aside0.mk (below_step (by repeat (first | (with_reducible first | exact HB.out | apply below_alloc | apply pw_below_drewN | apply below_drew1 | refine below_set ?_ GE271.out) | exact HB.out)) hb);clear HO_6;clear BK271;clear HB;have HO_6:=n0_;have HO278:=n1_;have BK271:=n2_;have HB:=n3_;clear n0_ n1_ n2_ n3_;(try clear hb);(try clear hb2);(try clear hk);(try clear hi);(try clear ho0);obtain ⟨Ao15,co15,eo15⟩:=Kd.R_slice HO278.out;subst eo15)))
    go_loopg [8,31] kj3 (fun kq v8 v31 w' => ∃ (x8_2 : List Int) (x31_2 : Int),v31 = .int .i64 x31_2 ∧ Aside0 (spec_EntriesOf.l0 kq a1 t272 x8_2 t276 (t276.length : Int) x31_2 l0_0 = some (r1,r2)) ∧ Aside0 (kq ≤ kj3) ∧ Aside0 (Kd.S k58 58 w' w.heap.size (fun k_ => some k_ ≠ (v8 : Value).ownBlock ∧ some k_ ≠ ((.slice Ao15 t276.length co15) : Value).ownBlock) v273 t272) ∧ Aside0 (Kd.R (Kd.int .i64) 3 w' w.heap.size (fun k_ => some k_ ≠ ((.slice Ao15 t276.length co15) : Value).ownBlock) v8 x8_2) ∧ Aside0 (Kd.R (Kd.int .i64) 3 w' w.heap.size (fun k_ => some k_ ≠ (v8 : Value).ownBlock) (.slice Ao15 t276.length co15) t276) ∧ Aside0 (w'.heap[gb271]? = some (.cells #[(.slice A0_0 l0_0.length c0_0)] 28 (0,0))) ∧ Aside0 (Below w.heap.size w w'))
    case atStart => exact ⟨(([] : List Int)),(0),(by first | rfl | (simp;done) | (simp [*];done)),H',⟨Nat.le_refl _⟩,⟨by (with_reducible repeat (first | apply Kd.S_alloc | apply Kd.S_drewN | apply Kd.S_drew));exact Kd.S_mono HO_6.out (fun _ hk => ⟨(by simp [Value.ownBlock]),hk.2⟩)⟩,⟨by first | exact Kd.R_nil _ _ _ _ _ | exact Kd.N_nil _ _ _ _ _ | exact Kd.V_nil _ _ _ _ _ | exact Kd.Q_nil _ _ _ _ _ | exact Kd.S_nil _ _ _ _ _⟩,⟨by (with_reducible repeat (first | apply Kd.R_alloc | apply Kd.R_drewN | apply Kd.R_drew));exact Kd.R_mono HO278.out (fun _ hk => (by simp [Value.ownBlock]))⟩,⟨by (with_reducible repeat (first | refine blk_drewN ?_ _ | refine blk_drew ?_ | refine blk_alloc ?_ _));exact BK271.out⟩,⟨by repeat (first | (with_reducible first | exact HB.out | apply below_alloc | apply pw_below_drewN | apply below_drew1 | refine below_set ?_ GE271.out) | exact HB.out)⟩⟩
    case round =>
     clear H'
     try clear c1
     try clear c2
     try clear p2
     try clear c8
     try clear c9
     try clear c9b0
     try clear c11
     try clear hcz13_0
     try clear hcz6_0
     try clear hfz13_0
     try clear hfz6_0
     try clear p2
     obtain ⟨x8_2,x31_2,rfl,HA,HK2,HO_6,HO_8,HO_29,BK271,HB⟩:=hrel
     cases gk with
     | zero => exact absurd HA.out (by simp [spec_EntriesOf.l0])
     | succ k2 =>
      have H:=HA.out
      clear HA
      simp only [spec_EntriesOf.l0] at H
      by_cases c16 : x31_2 < (t276.length : Int)
      ·rw [if_pos c16] at H
       have c16b0 : decide (x31_2 < (t276.length : Int)) = true:=decide_eq_true c16
       clear c16
       by_cases c17 : 0 ≤ x31_2
       ·rw [if_pos c17] at H
        have c17b0 : decide (0 ≤ x31_2) = true:=decide_eq_true c17
        clear c17
        by_cases c18 : x31_2 < (t276.length : Int)
        ·rw [if_pos c18] at H
         have c18b0 : decide (x31_2 < (t276.length : Int)) = true:=decide_eq_true c18
         clear c18
         by_cases c19 : 0 ≤ a1
         ·rw [if_pos c19] at H
          have c19b0 : decide (0 ≤ a1) = true:=decide_eq_true c19
          clear c19
          by_cases c20 : a1 < (t272.length : Int)
          ·rw [if_pos c20] at H
           have c20b0 : decide (a1 < (t272.length : Int)) = true:=decide_eq_true c20
           clear c20
           replace H:=Option.bind_eq_some_iff.mp H
           obtain ⟨t281,A210,H⟩:=H
           replace H : (if t281 = true then (spec_EntriesOf.l0 k2 a1 t272 x8_2 t276 (t276.length : Int) (wrap64 (x31_2 + 1)) l0_0) else (if 0 ≤ (rd t276 x31_2) then (if (rd t276 x31_2) < (l0_0.length : Int) then ((spec_l1Has.f k2 (rd_L1 l0_0 (rd t276 x31_2)) ((rd_T58 t272 a1).f0)).bind fun t284 => (if t284 = true then ((spec_l1Put.f k2 x8_2 (rd t276 x31_2)).bind fun t285 => (spec_EntriesOf.l0 k2 a1 t272 t285 t276 (t276.length : Int) (wrap64 (x31_2 + 1)) l0_0)) else (spec_EntriesOf.l0 k2 a1 t272 x8_2 t276 (t276.length : Int) (wrap64 (x31_2 + 1)) l0_0))) else (none)) else (none))) = some (r1,r2):=H
           have A21:=Aside0.mk A210
           clear A210
           by_cases c22 : t281 = true
           ·subst c22
            have H1 : (spec_EntriesOf.l0 k2 a1 t272 x8_2 t276 (t276.length : Int) (wrap64 (x31_2 + 1)) l0_0) = some (r1,r2):=by rw [if_pos rfl] at H;exact H
            clear H
            have H:=H1
            clear H1
            have H':=Aside0.mk H
            clear H
            have p279 : 0 ≤ (x31_2 : Int):=of_decide_eq_true (by first | (with_reducible assumption) | assumption)
            have q279 : x31_2 < (t276.length : Int):=of_decide_eq_true (by first | (with_reducible assumption) | assumption)
            obtain ⟨ad279,e279,hx279_0⟩:=Kd.at_int (Kd.R_reads' HO_29.out).2.2 x31_2 p279 q279
            cases e279
            replace p279:=eq_true p279
            replace q279:=eq_true q279
            obtain ⟨Ao23,co23,eo23⟩:=Kd.S_slice HO_6.out
            subst eo23
            have p280 : 0 ≤ (a1 : Int):=of_decide_eq_true (by first | (with_reducible assumption) | assumption)
            have q280 : a1 < (t272.length : Int):=of_decide_eq_true (by first | (with_reducible assumption) | assumption)
            obtain ⟨ad280,A280_1,c280_1,e280,hx280_0,hx280_1,hx280_2,hl280_1,hi280_1⟩:=at_T58 (Kd.S_reads' HO_6.out).2.2 a1 p280 q280
            cases e280
            obtain ⟨ce280,hce280,hMe280,hcc280⟩:=Kd.S_get HO_6.out z58 a1 p280 (by first | exact q280 | exact of_decide_eq_true (by first | (with_reducible assumption) | assumption) | (have e_:=(Kd.S_reads' HO_6.out).1;omega))
            obtain ⟨ve280_1,rfl,ge280_1⟩:=k58_openM hMe280
            have hv280_1:=hcc280 1 _ rfl
            rw [add_field _ _ 1 (by omega)] at hv280_1
            replace hv280_1:=Option.some.inj (hv280_1.symm.trans hx280_1)
            rw [hv280_1] at ge280_1
            have HL280_1:=Aside0.mk (show Kd.R (Kd.int .i64) 3 _ _ _ _ ((rd_T58 t272 a1).f1) from ge280_1)
            clear hv280_1 ge280_1
            clear hcc280 hce280
            have HR280_1:=Aside0.mk hi280_1
            have HC280_1:=Aside0.mk hl280_1
            clear hi280_1 hl280_1
            replace p280:=eq_true p280
            replace q280:=eq_true q280
            go_wp2_with (first | (go_at_call 45;(with_reducible refine (spec_l1Has.calls k2 _ _ ((rd_T58 t272 a1).f1) (rd t276 x31_2) true _ ?side1 ?side2 A21.out).mono ?_);(case side1 => repeat (first | exact (by repeat (first | (with_reducible exact HR280_1.out) | (with_reducible refine Kd.C_alloc ?_ _) | (with_reducible refine Kd.C_drewN ?_ _) | (with_reducible refine Kd.C_drew ?_) | exact HR280_1.out)) | (with_reducible refine Kd.C_alloc ?_ _) | (with_reducible refine Kd.C_drewN ?_ _) | (with_reducible refine Kd.C_drew ?_)));(case side2 => exact HC280_1.out);rintro e w' ⟨rfl,⟨nd,rfl⟩⟩;(try first | exact ⟨rfl,_,World.drewN_drewN _ _ _⟩ | exact ⟨rfl,_,Eq.trans (World.drewN_drewN _ _ _) (congrArg (World.drewN _) (Nat.add_assoc _ _ _))⟩)))
            repeat (go_quiet (first | (go_at_call 45;(with_reducible refine (spec_l1Has.calls k2 _ _ ((rd_T58 t272 a1).f1) (rd t276 x31_2) true _ ?side1 ?side2 A21.out).mono ?_);(case side1 => repeat (first | exact (by repeat (first | (with_reducible exact HR280_1.out) | (with_reducible refine Kd.C_alloc ?_ _) | (with_reducible refine Kd.C_drewN ?_ _) | (with_reducible refine Kd.C_drew ?_) | exact HR280_1.out)) | (with_reducible refine Kd.C_alloc ?_ _) | (with_reducible refine Kd.C_drewN ?_ _) | (with_reducible refine Kd.C_drew ?_)));(case side2 => exact HC280_1.out);rintro e w' ⟨rfl,⟨nd,rfl⟩⟩;(try first | exact ⟨rfl,_,World.drewN_drewN _ _ _⟩ | exact ⟨rfl,_,Eq.trans (World.drewN_drewN _ _ _) (congrArg (World.drewN _) (Nat.add_assoc _ _ _))⟩)));try go_wp2_with (first | (go_at_call 45;(with_reducible refine (spec_l1Has.calls k2 _ _ ((rd_T58 t272 a1).f1) (rd t276 x31_2) true _ ?side1 ?side2 A21.out).mono ?_);(case side1 => repeat (first | exact (by repeat (first | (with_reducible exact HR280_1.out) | (with_reducible refine Kd.C_alloc ?_ _) | (with_reducible refine Kd.C_drewN ?_ _) | (with_reducible refine Kd.C_drew ?_) | exact HR280_1.out)) | (with_reducible refine Kd.C_alloc ?_ _) | (with_reducible refine Kd.C_drewN ?_ _) | (with_reducible refine Kd.C_drew ?_)));(case side2 => exact HC280_1.out);rintro e w' ⟨rfl,⟨nd,rfl⟩⟩;(try first | exact ⟨rfl,_,World.drewN_drewN _ _ _⟩ | exact ⟨rfl,_,Eq.trans (World.drewN_drewN _ _ _) (congrArg (World.drewN _) (Nat.add_assoc _ _ _))⟩))))
            go_roundg k2
            case measure => have:=HJ3.out;have:=HK2.out;omega
            case rel => exact ⟨(x8_2),(wrap64 (x31_2 + 1)),(by first | rfl | (simp;done) | (simp [*];done)),H',⟨by have:=HJ3.out;have:=HK2.out;omega⟩,⟨by (with_reducible repeat (first | apply Kd.S_alloc | apply Kd.S_drewN | apply Kd.S_drew));exact HO_6.out⟩,⟨by (with_reducible repeat (first | apply Kd.R_alloc | apply Kd.R_drewN | apply Kd.R_drew));exact HO_8.out⟩,⟨by (with_reducible repeat (first | apply Kd.R_alloc | apply Kd.R_drewN | apply Kd.R_drew));exact HO_29.out⟩,⟨by (with_reducible repeat (first | refine blk_drewN ?_ _ | refine blk_drew ?_ | refine blk_alloc ?_ _));exact BK271.out⟩,⟨by repeat (first | (with_reducible first | exact HB.out | apply below_alloc | apply pw_below_drewN | apply below_drew1 | refine below_set ?_ GE271.out) | exact HB.out)⟩⟩
           ·replace c22:=Bool.eq_false_iff.mpr c22
            subst c22
            have H1 : (if 0 ≤ (rd t276 x31_2) then (if (rd t276 x31_2) < (l0_0.length : Int) then ((spec_l1Has.f k2 (rd_L1 l0_0 (rd t276 x31_2)) ((rd_T58 t272 a1).f0)).bind fun t284 => (if t284 = true then ((spec_l1Put.f k2 x8_2 (rd t276 x31_2)).bind fun t285 => (spec_EntriesOf.l0 k2 a1 t272 t285 t276 (t276.length : Int) (wrap64 (x31_2 + 1)) l0_0)) else (spec_EntriesOf.l0 k2 a1 t272 x8_2 t276 (t276.length : Int) (wrap64 (x31_2 + 1)) l0_0))) else (none)) else (none)) = some (r1,r2):=by rw [if_neg (show ¬ (false = true) by decide)] at H;exact H
            clear H
            have H:=H1
            clear H1
            by_cases c24 : 0 ≤ (rd t276 x31_2)
            ·rw [if_pos c24] at H
             have c24b0 : decide (0 ≤ (rd t276 x31_2)) = true:=decide_eq_true c24
             clear c24
             by_cases c25 : (rd t276 x31_2) < (l0_0.length : Int)
             ·rw [if_pos c25] at H
              have c25b0 : decide ((rd t276 x31_2) < (l0_0.length : Int)) = true:=decide_eq_true c25
              clear c25
              replace H:=Option.bind_eq_some_iff.mp H
              obtain ⟨t284,A260,H⟩:=H
              replace H : (if t284 = true then ((spec_l1Put.f k2 x8_2 (rd t276 x31_2)).bind fun t285 => (spec_EntriesOf.l0 k2 a1 t272 t285 t276 (t276.length : Int) (wrap64 (x31_2 + 1)) l0_0)) else (spec_EntriesOf.l0 k2 a1 t272 x8_2 t276 (t276.length : Int) (wrap64 (x31_2 + 1)) l0_0)) = some (r1,r2):=H
              have A26:=Aside0.mk A260
              clear A260
              by_cases c27 : t284 = true
              ·subst c27
               have H1 : ((spec_l1Put.f k2 x8_2 (rd t276 x31_2)).bind fun t285 => (spec_EntriesOf.l0 k2 a1 t272 t285 t276 (t276.length : Int) (wrap64 (x31_2 + 1)) l0_0)) = some (r1,r2):=by rw [if_pos rfl] at H;exact H
               clear H
               have H:=H1
               clear H1
               replace H:=Option.bind_eq_some_iff.mp H
               obtain ⟨t285,A280,H⟩:=H
               replace H : (spec_EntriesOf.l0 k2 a1 t272 t285 t276 (t276.length : Int) (wrap64 (x31_2 + 1)) l0_0) = some (r1,r2):=H
               have A28:=Aside0.mk A280
               clear A280
               have H':=Aside0.mk H
               clear H
               have p279 : 0 ≤ (x31_2 : Int):=of_decide_eq_true (by first | (with_reducible assumption) | assumption)
               have q279 : x31_2 < (t276.length : Int):=of_decide_eq_true (by first | (with_reducible assumption) | assumption)
               obtain ⟨ad279,e279,hx279_0⟩:=Kd.at_int (Kd.R_reads' HO_29.out).2.2 x31_2 p279 q279
               cases e279
               replace p279:=eq_true p279
               replace q279:=eq_true q279
               obtain ⟨Ao29,co29,eo29⟩:=Kd.S_slice HO_6.out
               subst eo29
               have p280 : 0 ≤ (a1 : Int):=of_decide_eq_true (by first | (with_reducible assumption) | assumption)
               have q280 : a1 < (t272.length : Int):=of_decide_eq_true (by first | (with_reducible assumption) | assumption)
               obtain ⟨ad280,A280_1,c280_1,e280,hx280_0,hx280_1,hx280_2,hl280_1,hi280_1⟩:=at_T58 (Kd.S_reads' HO_6.out).2.2 a1 p280 q280
               cases e280
               obtain ⟨ce280,hce280,hMe280,hcc280⟩:=Kd.S_get HO_6.out z58 a1 p280 (by first | exact q280 | exact of_decide_eq_true (by first | (with_reducible assumption) | assumption) | (have e_:=(Kd.S_reads' HO_6.out).1;omega))
               obtain ⟨ve280_1,rfl,ge280_1⟩:=k58_openM hMe280
               have hv280_1:=hcc280 1 _ rfl
               rw [add_field _ _ 1 (by omega)] at hv280_1
               replace hv280_1:=Option.some.inj (hv280_1.symm.trans hx280_1)
               rw [hv280_1] at ge280_1
               have HL280_1:=Aside0.mk (show Kd.R (Kd.int .i64) 3 _ _ _ _ ((rd_T58 t272 a1).f1) from ge280_1)
               clear hv280_1 ge280_1
               clear hcc280 hce280
               have HR280_1:=Aside0.mk hi280_1
               have HC280_1:=Aside0.mk hl280_1
               clear hi280_1 hl280_1
               replace p280:=eq_true p280
               replace q280:=eq_true q280
               go_wp2_with (first | (go_at_call 45;(with_reducible refine (spec_l1Has.calls k2 _ _ ((rd_T58 t272 a1).f1) (rd t276 x31_2) false _ ?side1 ?side2 A21.out).mono ?_);(case side1 => repeat (first | exact (by repeat (first | (with_reducible exact HR280_1.out) | (with_reducible refine Kd.C_alloc ?_ _) | (with_reducible refine Kd.C_drewN ?_ _) | (with_reducible refine Kd.C_drew ?_) | exact HR280_1.out)) | (with_reducible refine Kd.C_alloc ?_ _) | (with_reducible refine Kd.C_drewN ?_ _) | (with_reducible refine Kd.C_drew ?_)));(case side2 => exact HC280_1.out);rintro e w' ⟨rfl,⟨nd,rfl⟩⟩;(try first | exact ⟨rfl,_,World.drewN_drewN _ _ _⟩ | exact ⟨rfl,_,Eq.trans (World.drewN_drewN _ _ _) (congrArg (World.drewN _) (Nat.add_assoc _ _ _))⟩);have hcz30_0 : wr.cell? ⟨gb271,0,none⟩ = some (.slice A0_0 l0_0.length c0_0):=(blk_cell BK271.out 0).trans rfl;have hfz30_0:=blk_frozen BK271.out 0;have p282 : 0 ≤ ((rd t276 x31_2) : Int):=of_decide_eq_true (by first | (with_reducible assumption) | assumption);have q282 : (rd t276 x31_2) < (l0_0.length : Int):=of_decide_eq_true (by first | (with_reducible assumption) | assumption);obtain ⟨ad282,A282_0,c282_0,e282,hx282_0,hl282_0,hi282_0⟩:=at_L1 HR0_0.out (rd t276 x31_2) p282 q282;cases e282;replace hx282_0:=(HB.out.cell (World.block_lt_of_cell? w _ hx282_0)).trans hx282_0;have HR282_0:=Aside0.mk hi282_0;have HC282_0:=Aside0.mk hl282_0;clear hi282_0 hl282_0;replace p282:=eq_true p282;replace q282:=eq_true q282;have p283 : 0 ≤ (a1 : Int):=of_decide_eq_true (by first | (with_reducible assumption) | assumption);have q283 : a1 < (t272.length : Int):=of_decide_eq_true (by first | (with_reducible assumption) | assumption);obtain ⟨ad283,A283_1,c283_1,e283,hx283_0,hx283_1,hx283_2,hl283_1,hi283_1⟩:=at_T58 (Kd.S_reads' HO_6.out).2.2 a1 p283 q283;obtain rfl : ad280 = ad283:=(by injection e283);obtain ⟨ce283,hce283,hMe283,hcc283⟩:=Kd.S_get HO_6.out z58 a1 p283 (by first | exact q283 | exact of_decide_eq_true (by first | (with_reducible assumption) | assumption) | (have e_:=(Kd.S_reads' HO_6.out).1;omega));obtain ⟨ve283_1,rfl,ge283_1⟩:=k58_openM hMe283;have hv283_1:=hcc283 1 _ rfl;rw [add_field _ _ 1 (by omega)] at hv283_1;replace hv283_1:=Option.some.inj (hv283_1.symm.trans hx283_1);rw [hv283_1] at ge283_1;have HL283_1:=Aside0.mk (show Kd.R (Kd.int .i64) 3 _ _ _ _ ((rd_T58 t272 a1).f1) from ge283_1);clear hv283_1 ge283_1;clear hcc283 hce283;have HR283_1:=Aside0.mk hi283_1;have HC283_1:=Aside0.mk hl283_1;clear hi283_1 hl283_1;replace p283:=eq_true p283;replace q283:=eq_true q283;have ea_:=Option.some.inj (hx280_1.symm.trans hx283_1);injection ea_ with ea_ en_ ec_;subst ea_;subst ec_;clear en_) | (go_at_call 45;(with_reducible refine (spec_l1Has.calls k2 _ _ (rd_L1 l0_0 (rd t276 x31_2)) ((rd_T58 t272 a1).f0) true _ ?side1 ?side2 A26.out).mono ?_);(case side1 => repeat (first | exact (Kd.C_below HR282_0.out (by repeat (first | (with_reducible first | exact HB.out | apply below_alloc | apply pw_below_drewN | apply below_drew1 | refine below_set ?_ GE271.out) | exact HB.out))) | (with_reducible refine Kd.C_alloc ?_ _) | (with_reducible refine Kd.C_drewN ?_ _) | (with_reducible refine Kd.C_drew ?_)));(case side2 => exact HC282_0.out);rintro e w' ⟨rfl,⟨nd,rfl⟩⟩;(try first | exact ⟨rfl,_,World.drewN_drewN _ _ _⟩ | exact ⟨rfl,_,Eq.trans (World.drewN_drewN _ _ _) (congrArg (World.drewN _) (Nat.add_assoc _ _ _))⟩);obtain ⟨Ao31,co31,eo31⟩:=Kd.R_slice HO_8.out;subst eo31) | (go_at_call 55;(with_reducible refine (spec_l1Put.calls k2 (fun k_ => some k_ = (.slice Ao31 x8_2.length co31 : Value).ownBlock) (.slice Ao31 x8_2.length co31) x8_2 (rd t276 x31_2) t285 w _ ?side1 ?side2 A28.out).mono ?_);(case side1 => repeat (first | (with_reducible first | exact HB.out | apply below_alloc | apply pw_below_drewN | apply below_drew1 | refine below_set ?_ GE271.out) | exact HB.out));(case side2 => exact Kd.R_tight rfl HO_8.out);rintro e w32 ⟨v286,rfl,ho0,hb,hkp⟩;have n0_:=Aside0.mk (Kd.S_mono (ok':=fun k_ => some k_ ≠ (.slice (some ad279) t276.length co15 : Value).ownBlock ∧ some k_ ≠ (v286 : Value).ownBlock) (Kd.S_keptB (HO_6.out) hkp (fun k_ hk_ hs_ => (hk_.1) hs_)) (fun k_ hk_ => ⟨hk_.1.2,fun e_ => Or.elim (ho0.1 k_ e_.symm) (fun hs_ => hk_.2.1 hs_) (fun hn_ => Nat.not_le.2 hk_.2.2 hn_)⟩));have n1_:=Aside0.mk (Kd.R_mono (ok':=fun k_ => some k_ ≠ (v286 : Value).ownBlock) (Kd.R_keptB (HO_29.out) hkp (fun k_ hk_ hs_ => (hk_) hs_)) (fun k_ hk_ => fun e_ => Or.elim (ho0.1 k_ e_.symm) (fun hs_ => hk_.2.1 hs_) (fun hn_ => Nat.not_le.2 hk_.2.2 hn_)));have n2_:=Aside0.mk (blk_kept (by (with_reducible repeat (first | refine blk_drewN ?_ _ | refine blk_drew ?_ | refine blk_alloc ?_ _));exact BK271.out) hkp (fun hs_ => (fun e_ => (Kd.R_ne HO_8.out BK271.out (by decide)) e_) hs_));have n3_:=Aside0.mk (Kd.R_mono (ok':=fun k_ => some k_ ≠ (.slice (some ad279) t276.length co15 : Value).ownBlock) ho0 (fun k_ hk_ => Or.elim hk_ (fun hs_ => fun e_ => (((HO_29.out).1 k_ e_.symm)) hs_) (fun hn_ => (Kd.fresh' (Kd.R_lt (by (with_reducible repeat (first | apply Kd.R_alloc | apply Kd.R_drewN | apply Kd.R_drew));exact HO_29.out)) k_ hn_))));have n4_:=Aside0.mk (hb);clear HO_6;clear HO_29;clear BK271;clear HB;clear HO_8;clear HL280_1;clear HL283_1;have HO_6:=n0_;have HO_29:=n1_;have BK271:=n2_;have HO287:=n3_;have HB:=n4_;clear n0_ n1_ n2_ n3_ n4_;(try clear hb);(try clear hkp);(try clear ho0)))
               repeat (go_quiet (first | (go_at_call 45;(with_reducible refine (spec_l1Has.calls k2 _ _ ((rd_T58 t272 a1).f1) (rd t276 x31_2) false _ ?side1 ?side2 A21.out).mono ?_);(case side1 => repeat (first | exact (by repeat (first | (with_reducible exact HR280_1.out) | (with_reducible refine Kd.C_alloc ?_ _) | (with_reducible refine Kd.C_drewN ?_ _) | (with_reducible refine Kd.C_drew ?_) | exact HR280_1.out)) | (with_reducible refine Kd.C_alloc ?_ _) | (with_reducible refine Kd.C_drewN ?_ _) | (with_reducible refine Kd.C_drew ?_)));(case side2 => exact HC280_1.out);rintro e w' ⟨rfl,⟨nd,rfl⟩⟩;(try first | exact ⟨rfl,_,World.drewN_drewN _ _ _⟩ | exact ⟨rfl,_,Eq.trans (World.drewN_drewN _ _ _) (congrArg (World.drewN _) (Nat.add_assoc _ _ _))⟩);have hcz30_0 : wr.cell? ⟨gb271,0,none⟩ = some (.slice A0_0 l0_0.length c0_0):=(blk_cell BK271.out 0).trans rfl;have hfz30_0:=blk_frozen BK271.out 0;have p282 : 0 ≤ ((rd t276 x31_2) : Int):=of_decide_eq_true (by first | (with_reducible assumption) | assumption);have q282 : (rd t276 x31_2) < (l0_0.length : Int):=of_decide_eq_true (by first | (with_reducible assumption) | assumption);obtain ⟨ad282,A282_0,c282_0,e282,hx282_0,hl282_0,hi282_0⟩:=at_L1 HR0_0.out (rd t276 x31_2) p282 q282;cases e282;replace hx282_0:=(HB.out.cell (World.block_lt_of_cell? w _ hx282_0)).trans hx282_0;have HR282_0:=Aside0.mk hi282_0;have HC282_0:=Aside0.mk hl282_0;clear hi282_0 hl282_0;replace p282:=eq_true p282;replace q282:=eq_true q282;have p283 : 0 ≤ (a1 : Int):=of_decide_eq_true (by first | (with_reducible assumption) | assumption);have q283 : a1 < (t272.length : Int):=of_decide_eq_true (by first | (with_reducible assumption) | assumption);obtain ⟨ad283,A283_1,c283_1,e283,hx283_0,hx283_1,hx283_2,hl283_1,hi283_1⟩:=at_T58 (Kd.S_reads' HO_6.out).2.2 a1 p283 q283;obtain rfl : ad280 = ad283:=(by injection e283);obtain ⟨ce283,hce283,hMe283,hcc283⟩:=Kd.S_get HO_6.out z58 a1 p283 (by first | exact q283 | exact of_decide_eq_true (by first | (with_reducible assumption) | assumption) | (have e_:=(Kd.S_reads' HO_6.out).1;omega));obtain ⟨ve283_1,rfl,ge283_1⟩:=k58_openM hMe283;have hv283_1:=hcc283 1 _ rfl;rw [add_field _ _ 1 (by omega)] at hv283_1;replace hv283_1:=Option.some.inj (hv283_1.symm.trans hx283_1);rw [hv283_1] at ge283_1;have HL283_1:=Aside0.mk (show Kd.R (Kd.int .i64) 3 _ _ _ _ ((rd_T58 t272 a1).f1) from ge283_1);clear hv283_1 ge283_1;clear hcc283 hce283;have HR283_1:=Aside0.mk hi283_1;have HC283_1:=Aside0.mk hl283_1;clear hi283_1 hl283_1;replace p283:=eq_true p283;replace q283:=eq_true q283;have ea_:=Option.some.inj (hx280_1.symm.trans hx283_1);injection ea_ with ea_ en_ ec_;subst ea_;subst ec_;clear en_) | (go_at_call 45;(with_reducible refine (spec_l1Has.calls k2 _ _ (rd_L1 l0_0 (rd t276 x31_2)) ((rd_T58 t272 a1).f0) true _ ?side1 ?side2 A26.out).mono ?_);(case side1 => repeat (first | exact (Kd.C_below HR282_0.out (by repeat (first | (with_reducible first | exact HB.out | apply below_alloc | apply pw_below_drewN | apply below_drew1 | refine below_set ?_ GE271.out) | exact HB.out))) | (with_reducible refine Kd.C_alloc ?_ _) | (with_reducible refine Kd.C_drewN ?_ _) | (with_reducible refine Kd.C_drew ?_)));(case side2 => exact HC282_0.out);rintro e w' ⟨rfl,⟨nd,rfl⟩⟩;(try first | exact ⟨rfl,_,World.drewN_drewN _ _ _⟩ | exact ⟨rfl,_,Eq.trans (World.drewN_drewN _ _ _) (congrArg (World.drewN _) (Nat.add_assoc _ _ _))⟩);obtain ⟨Ao31,co31,eo31⟩:=Kd.R_slice HO_8.out;subst eo31) | (go_at_call 55;(with_reducible refine (spec_l1Put.calls k2 (fun k_ => some k_ = (.slice Ao31 x8_2.length co31 : Value).ownBlock) (.slice Ao31 x8_2.length co31) x8_2 (rd t276 x31_2) t285 w _ ?side1 ?side2 A28.out).mono ?_);(case side1 => repeat (first | (with_reducible first | exact HB.out | apply below_alloc | apply pw_below_drewN | apply below_drew1 | refine below_set ?_ GE271.out) | exact HB.out));(case side2 => exact Kd.R_tight rfl HO_8.out);rintro e w32 ⟨v286,rfl,ho0,hb,hkp⟩;have n0_:=Aside0.mk (Kd.S_mono (ok':=fun k_ => some k_ ≠ (.slice (some ad279) t276.length co15 : Value).ownBlock ∧ some k_ ≠ (v286 : Value).ownBlock) (Kd.S_keptB (HO_6.out) hkp (fun k_ hk_ hs_ => (hk_.1) hs_)) (fun k_ hk_ => ⟨hk_.1.2,fun e_ => Or.elim (ho0.1 k_ e_.symm) (fun hs_ => hk_.2.1 hs_) (fun hn_ => Nat.not_le.2 hk_.2.2 hn_)⟩));have n1_:=Aside0.mk (Kd.R_mono (ok':=fun k_ => some k_ ≠ (v286 : Value).ownBlock) (Kd.R_keptB (HO_29.out) hkp (fun k_ hk_ hs_ => (hk_) hs_)) (fun k_ hk_ => fun e_ => Or.elim (ho0.1 k_ e_.symm) (fun hs_ => hk_.2.1 hs_) (fun hn_ => Nat.not_le.2 hk_.2.2 hn_)));have n2_:=Aside0.mk (blk_kept (by (with_reducible repeat (first | refine blk_drewN ?_ _ | refine blk_drew ?_ | refine blk_alloc ?_ _));exact BK271.out) hkp (fun hs_ => (fun e_ => (Kd.R_ne HO_8.out BK271.out (by decide)) e_) hs_));have n3_:=Aside0.mk (Kd.R_mono (ok':=fun k_ => some k_ ≠ (.slice (some ad279) t276.length co15 : Value).ownBlock) ho0 (fun k_ hk_ => Or.elim hk_ (fun hs_ => fun e_ => (((HO_29.out).1 k_ e_.symm)) hs_) (fun hn_ => (Kd.fresh' (Kd.R_lt (by (with_reducible repeat (first | apply Kd.R_alloc | apply Kd.R_drewN | apply Kd.R_drew));exact HO_29.out)) k_ hn_))));have n4_:=Aside0.mk (hb);clear HO_6;clear HO_29;clear BK271;clear HB;clear HO_8;clear HL280_1;clear HL283_1;have HO_6:=n0_;have HO_29:=n1_;have BK271:=n2_;have HO287:=n3_;have HB:=n4_;clear n0_ n1_ n2_ n3_ n4_;(try clear hb);(try clear hkp);(try clear ho0)));try go_wp2_with (first | (go_at_call 45;(with_reducible refine (spec_l1Has.calls k2 _ _ ((rd_T58 t272 a1).f1) (rd t276 x31_2) false _ ?side1 ?side2 A21.out).mono ?_);(case side1 => repeat (first | exact (by repeat (first | (with_reducible exact HR280_1.out) | (with_reducible refine Kd.C_alloc ?_ _) | (with_reducible refine Kd.C_drewN ?_ _) | (with_reducible refine Kd.C_drew ?_) | exact HR280_1.out)) | (with_reducible refine Kd.C_alloc ?_ _) | (with_reducible refine Kd.C_drewN ?_ _) | (with_reducible refine Kd.C_drew ?_)));(case side2 => exact HC280_1.out);rintro e w' ⟨rfl,⟨nd,rfl⟩⟩;(try first | exact ⟨rfl,_,World.drewN_drewN _ _ _⟩ | exact ⟨rfl,_,Eq.trans (World.drewN_drewN _ _ _) (congrArg (World.drewN _) (Nat.add_assoc _ _ _))⟩);have hcz30_0 : wr.cell? ⟨gb271,0,none⟩ = some (.slice A0_0 l0_0.length c0_0):=(blk_cell BK271.out 0).trans rfl;have hfz30_0:=blk_frozen BK271.out 0;have p282 : 0 ≤ ((rd t276 x31_2) : Int):=of_decide_eq_true (by first | (with_reducible assumption) | assumption);have q282 : (rd t276 x31_2) < (l0_0.length : Int):=of_decide_eq_true (by first | (with_reducible assumption) | assumption);obtain ⟨ad282,A282_0,c282_0,e282,hx282_0,hl282_0,hi282_0⟩:=at_L1 HR0_0.out (rd t276 x31_2) p282 q282;cases e282;replace hx282_0:=(HB.out.cell (World.block_lt_of_cell? w _ hx282_0)).trans hx282_0;have HR282_0:=Aside0.mk hi282_0;have HC282_0:=Aside0.mk hl282_0;clear hi282_0 hl282_0;replace p282:=eq_true p282;replace q282:=eq_true q282;have p283 : 0 ≤ (a1 : Int):=of_decide_eq_true (by first | (with_reducible assumption) | assumption);have q283 : a1 < (t272.length : Int):=of_decide_eq_true (by first | (with_reducible assumption) | assumption);obtain ⟨ad283,A283_1,c283_1,e283,hx283_0,hx283_1,hx283_2,hl283_1,hi283_1⟩:=at_T58 (Kd.S_reads' HO_6.out).2.2 a1 p283 q283;obtain rfl : ad280 = ad283:=(by injection e283);obtain ⟨ce283,hce283,hMe283,hcc283⟩:=Kd.S_get HO_6.out z58 a1 p283 (by first | exact q283 | exact of_decide_eq_true (by first | (with_reducible assumption) | assumption) | (have e_:=(Kd.S_reads' HO_6.out).1;omega));obtain ⟨ve283_1,rfl,ge283_1⟩:=k58_openM hMe283;have hv283_1:=hcc283 1 _ rfl;rw [add_field _ _ 1 (by omega)] at hv283_1;replace hv283_1:=Option.some.inj (hv283_1.symm.trans hx283_1);rw [hv283_1] at ge283_1;have HL283_1:=Aside0.mk (show Kd.R (Kd.int .i64) 3 _ _ _ _ ((rd_T58 t272 a1).f1) from ge283_1);clear hv283_1 ge283_1;clear hcc283 hce283;have HR283_1:=Aside0.mk hi283_1;have HC283_1:=Aside0.mk hl283_1;clear hi283_1 hl283_1;replace p283:=eq_true p283;replace q283:=eq_true q283;have ea_:=Option.some.inj (hx280_1.symm.trans hx283_1);injection ea_ with ea_ en_ ec_;subst ea_;subst ec_;clear en_) | (go_at_call 45;(with_reducible refine (spec_l1Has.calls k2 _ _ (rd_L1 l0_0 (rd t276 x31_2)) ((rd_T58 t272 a1).f0) true _ ?side1 ?side2 A26.out).mono ?_);(case side1 => repeat (first | exact (Kd.C_below HR282_0.out (by repeat (first | (with_reducible first | exact HB.out | apply below_alloc | apply pw_below_drewN | apply below_drew1 | refine below_set ?_ GE271.out) | exact HB.out))) | (with_reducible refine Kd.C_alloc ?_ _) | (with_reducible refine Kd.C_drewN ?_ _) | (with_reducible refine Kd.C_drew ?_)));(case side2 => exact HC282_0.out);rintro e w' ⟨rfl,⟨nd,rfl⟩⟩;(try first | exact ⟨rfl,_,World.drewN_drewN _ _ _⟩ | exact ⟨rfl,_,Eq.trans (World.drewN_drewN _ _ _) (congrArg (World.drewN _) (Nat.add_assoc _ _ _))⟩);obtain ⟨Ao31,co31,eo31⟩:=Kd.R_slice HO_8.out;subst eo31) | (go_at_call 55;(with_reducible refine (spec_l1Put.calls k2 (fun k_ => some k_ = (.slice Ao31 x8_2.length co31 : Value).ownBlock) (.slice Ao31 x8_2.length co31) x8_2 (rd t276 x31_2) t285 w _ ?side1 ?side2 A28.out).mono ?_);(case side1 => repeat (first | (with_reducible first | exact HB.out | apply below_alloc | apply pw_below_drewN | apply below_drew1 | refine below_set ?_ GE271.out) | exact HB.out));(case side2 => exact Kd.R_tight rfl HO_8.out);rintro e w32 ⟨v286,rfl,ho0,hb,hkp⟩;have n0_:=Aside0.mk (Kd.S_mono (ok':=fun k_ => some k_ ≠ (.slice (some ad279) t276.length co15 : Value).ownBlock ∧ some k_ ≠ (v286 : Value).ownBlock) (Kd.S_keptB (HO_6.out) hkp (fun k_ hk_ hs_ => (hk_.1) hs_)) (fun k_ hk_ => ⟨hk_.1.2,fun e_ => Or.elim (ho0.1 k_ e_.symm) (fun hs_ => hk_.2.1 hs_) (fun hn_ => Nat.not_le.2 hk_.2.2 hn_)⟩));have n1_:=Aside0.mk (Kd.R_mono (ok':=fun k_ => some k_ ≠ (v286 : Value).ownBlock) (Kd.R_keptB (HO_29.out) hkp (fun k_ hk_ hs_ => (hk_) hs_)) (fun k_ hk_ => fun e_ => Or.elim (ho0.1 k_ e_.symm) (fun hs_ => hk_.2.1 hs_) (fun hn_ => Nat.not_le.2 hk_.2.2 hn_)));have n2_:=Aside0.mk (blk_kept (by (with_reducible repeat (first | refine blk_drewN ?_ _ | refine blk_drew ?_ | refine blk_alloc ?_ _));exact BK271.out) hkp (fun hs_ => (fun e_ => (Kd.R_ne HO_8.out BK271.out (by decide)) e_) hs_));have n3_:=Aside0.mk (Kd.R_mono (ok':=fun k_ => some k_ ≠ (.slice (some ad279) t276.length co15 : Value).ownBlock) ho0 (fun k_ hk_ => Or.elim hk_ (fun hs_ => fun e_ => (((HO_29.out).1 k_ e_.symm)) hs_) (fun hn_ => (Kd.fresh' (Kd.R_lt (by (with_reducible repeat (first | apply Kd.R_alloc | apply Kd.R_drewN | apply Kd.R_drew));exact HO_29.out)) k_ hn_))));have n4_:=Aside0.mk (hb);clear HO_6;clear HO_29;clear BK271;clear HB;clear HO_8;clear HL280_1;clear HL283_1;have HO_6:=n0_;have HO_29:=n1_;have BK271:=n2_;have HO287:=n3_;have HB:=n4_;clear n0_ n1_ n2_ n3_ n4_;(try clear hb);(try clear hkp);(try clear ho0))))
               go_roundg k2
               case measure => have:=HJ3.out;have:=HK2.out;omega
               case rel => exact ⟨(t285),(wrap64 (x31_2 + 1)),(by first | rfl | (simp;done) | (simp [*];done)),H',⟨by have:=HJ3.out;have:=HK2.out;omega⟩,⟨by (with_reducible repeat (first | apply Kd.S_alloc | apply Kd.S_drewN | apply Kd.S_drew));exact Kd.S_mono HO_6.out (fun _ hk => ⟨hk.2,hk.1⟩)⟩,⟨by (with_reducible repeat (first | apply Kd.R_alloc | apply Kd.R_drewN | apply Kd.R_drew));exact HO287.out⟩,⟨by (with_reducible repeat (first | apply Kd.R_alloc | apply Kd.R_drewN | apply Kd.R_drew));exact HO_29.out⟩,⟨by (with_reducible repeat (first | refine blk_drewN ?_ _ | refine blk_drew ?_ | refine blk_alloc ?_ _));exact BK271.out⟩,⟨by repeat (first | (with_reducible first | exact HB.out | apply below_alloc | apply pw_below_drewN | apply below_drew1 | refine below_set ?_ GE271.out) | exact HB.out)⟩⟩
              ·replace c27:=Bool.eq_false_iff.mpr c27
               subst c27
               have H1 : (spec_EntriesOf.l0 k2 a1 t272 x8_2 t276 (t276.length : Int) (wrap64 (x31_2 + 1)) l0_0) = some (r1,r2):=by rw [if_neg (show ¬ (false = true) by decide)] at H;exact H
               clear H
               have H:=H1
               clear H1
               have H':=Aside0.mk H
               clear H
               have p279 : 0 ≤ (x31_2 : Int):=of_decide_eq_true (by first | (with_reducible assumption) | assumption)
               have q279 : x31_2 < (t276.length : Int):=of_decide_eq_true (by first | (with_reducible assumption) | assumption)
               obtain ⟨ad279,e279,hx279_0⟩:=Kd.at_int (Kd.R_reads' HO_29.out).2.2 x31_2 p279 q279
               cases e279
               replace p279:=eq_true p279
               replace q279:=eq_true q279
               obtain ⟨Ao33,co33,eo33⟩:=Kd.S_slice HO_6.out
               subst eo33
               have p280 : 0 ≤ (a1 : Int):=of_decide_eq_true (by first | (with_reducible assumption) | assumption)
               have q280 : a1 < (t272.length : Int):=of_decide_eq_true (by first | (with_reducible assumption) | assumption)
               obtain ⟨ad280,A280_1,c280_1,e280,hx280_0,hx280_1,hx280_2,hl280_1,hi280_1⟩:=at_T58 (Kd.S_reads' HO_6.out).2.2 a1 p280 q280
               cases e280
               obtain ⟨ce280,hce280,hMe280,hcc280⟩:=Kd.S_get HO_6.out z58 a1 p280 (by first | exact q280 | exact of_decide_eq_true (by first | (with_reducible assumption) | assumption) | (have e_:=(Kd.S_reads' HO_6.out).1;omega))
               obtain ⟨ve280_1,rfl,ge280_1⟩:=k58_openM hMe280
               have hv280_1:=hcc280 1 _ rfl
               rw [add_field _ _ 1 (by omega)] at hv280_1
               replace hv280_1:=Option.some.inj (hv280_1.symm.trans hx280_1)
               rw [hv280_1] at ge280_1
               have HL280_1:=Aside0.mk (show Kd.R (Kd.int .i64) 3 _ _ _ _ ((rd_T58 t272 a1).f1) from ge280_1)
               clear hv280_1 ge280_1
               clear hcc280 hce280
               have HR280_1:=Aside0.mk hi280_1
               have HC280_1:=Aside0.mk hl280_1
               clear hi280_1 hl280_1
               replace p280:=eq_true p280
               replace q280:=eq_true q280
               go_wp2_with (first | (go_at_call 45;(with_reducible refine (spec_l1Has.calls k2 _ _ ((rd_T58 t272 a1).f1) (rd t276 x31_2) false _ ?side1 ?side2 A21.out).mono ?_);(case side1 => repeat (first | exact (by repeat (first | (with_reducible exact HR280_1.out) | (with_reducible refine Kd.C_alloc ?_ _) | (with_reducible refine Kd.C_drewN ?_ _) | (with_reducible refine Kd.C_drew ?_) | exact HR280_1.out)) | (with_reducible refine Kd.C_alloc ?_ _) | (with_reducible refine Kd.C_drewN ?_ _) | (with_reducible refine Kd.C_drew ?_)));(case side2 => exact HC280_1.out);rintro e w' ⟨rfl,⟨nd,rfl⟩⟩;(try first | exact ⟨rfl,_,World.drewN_drewN _ _ _⟩ | exact ⟨rfl,_,Eq.trans (World.drewN_drewN _ _ _) (congrArg (World.drewN _) (Nat.add_assoc _ _ _))⟩);have hcz34_0 : wr.cell? ⟨gb271,0,none⟩ = some (.slice A0_0 l0_0.length c0_0):=(blk_cell BK271.out 0).trans rfl;have hfz34_0:=blk_frozen BK271.out 0;have p282 : 0 ≤ ((rd t276 x31_2) : Int):=of_decide_eq_true (by first | (with_reducible assumption) | assumption);have q282 : (rd t276 x31_2) < (l0_0.length : Int):=of_decide_eq_true (by first | (with_reducible assumption) | assumption);obtain ⟨ad282,A282_0,c282_0,e282,hx282_0,hl282_0,hi282_0⟩:=at_L1 HR0_0.out (rd t276 x31_2) p282 q282;cases e282;replace hx282_0:=(HB.out.cell (World.block_lt_of_cell? w _ hx282_0)).trans hx282_0;have HR282_0:=Aside0.mk hi282_0;have HC282_0:=Aside0.mk hl282_0;clear hi282_0 hl282_0;replace p282:=eq_true p282;replace q282:=eq_true q282;have p283 : 0 ≤ (a1 : Int):=of_decide_eq_true (by first | (with_reducible assumption) | assumption);have q283 : a1 < (t272.length : Int):=of_decide_eq_true (by first | (with_reducible assumption) | assumption);obtain ⟨ad283,A283_1,c283_1,e283,hx283_0,hx283_1,hx283_2,hl283_1,hi283_1⟩:=at_T58 (Kd.S_reads' HO_6.out).2.2 a1 p283 q283;obtain rfl : ad280 = ad283:=(by injection e283);obtain ⟨ce283,hce283,hMe283,hcc283⟩:=Kd.S_get HO_6.out z58 a1 p283 (by first | exact q283 | exact of_decide_eq_true (by first | (with_reducible assumption) | assumption) | (have e_:=(Kd.S_reads' HO_6.out).1;omega));obtain ⟨ve283_1,rfl,ge283_1⟩:=k58_openM hMe283;have hv283_1:=hcc283 1 _ rfl;rw [add_field _ _ 1 (by omega)] at hv283_1;replace hv283_1:=Option.some.inj (hv283_1.symm.trans hx283_1);rw [hv283_1] at ge283_1;have HL283_1:=Aside0.mk (show Kd.R (Kd.int .i64) 3 _ _ _ _ ((rd_T58 t272 a1).f1) from ge283_1);clear hv283_1 ge283_1;clear hcc283 hce283;have HR283_1:=Aside0.mk hi283_1;have HC283_1:=Aside0.mk hl283_1;clear hi283_1 hl283_1;replace p283:=eq_true p283;replace q283:=eq_true q283;have ea_:=Option.some.inj (hx280_1.symm.trans hx283_1);injection ea_ with ea_ en_ ec_;subst ea_;subst ec_;clear en_) | (go_at_call 45;(with_reducible refine (spec_l1Has.calls k2 _ _ (rd_L1 l0_0 (rd t276 x31_2)) ((rd_T58 t272 a1).f0) false _ ?side1 ?side2 A26.out).mono ?_);(case side1 => repeat (first | exact (Kd.C_below HR282_0.out (by repeat (first | (with_reducible first | exact HB.out | apply below_alloc | apply pw_below_drewN | apply below_drew1 | refine below_set ?_ GE271.out) | exact HB.out))) | (with_reducible refine Kd.C_alloc ?_ _) | (with_reducible refine Kd.C_drewN ?_ _) | (with_reducible refine Kd.C_drew ?_)));(case side2 => exact HC282_0.out);rintro e w' ⟨rfl,⟨nd,rfl⟩⟩;(try first | exact ⟨rfl,_,World.drewN_drewN _ _ _⟩ | exact ⟨rfl,_,Eq.trans (World.drewN_drewN _ _ _) (congrArg (World.drewN _) (Nat.add_assoc _ _ _))⟩)))
               repeat (go_quiet (first | (go_at_call 45;(with_reducible refine (spec_l1Has.calls k2 _ _ ((rd_T58 t272 a1).f1) (rd t276 x31_2) false _ ?side1 ?side2 A21.out).mono ?_);(case side1 => repeat (first | exact (by repeat (first | (with_reducible exact HR280_1.out) | (with_reducible refine Kd.C_alloc ?_ _) | (with_reducible refine Kd.C_drewN ?_ _) | (with_reducible refine Kd.C_drew ?_) | exact HR280_1.out)) | (with_reducible refine Kd.C_alloc ?_ _) | (with_reducible refine Kd.C_drewN ?_ _) | (with_reducible refine Kd.C_drew ?_)));(case side2 => exact HC280_1.out);rintro e w' ⟨rfl,⟨nd,rfl⟩⟩;(try first | exact ⟨rfl,_,World.drewN_drewN _ _ _⟩ | exact ⟨rfl,_,Eq.trans (World.drewN_drewN _ _ _) (congrArg (World.drewN _) (Nat.add_assoc _ _ _))⟩);have hcz34_0 : wr.cell? ⟨gb271,0,none⟩ = some (.slice A0_0 l0_0.length c0_0):=(blk_cell BK271.out 0).trans rfl;have hfz34_0:=blk_frozen BK271.out 0;have p282 : 0 ≤ ((rd t276 x31_2) : Int):=of_decide_eq_true (by first | (with_reducible assumption) | assumption);have q282 : (rd t276 x31_2) < (l0_0.length : Int):=of_decide_eq_true (by first | (with_reducible assumption) | assumption);obtain ⟨ad282,A282_0,c282_0,e282,hx282_0,hl282_0,hi282_0⟩:=at_L1 HR0_0.out (rd t276 x31_2) p282 q282;cases e282;replace hx282_0:=(HB.out.cell (World.block_lt_of_cell? w _ hx282_0)).trans hx282_0;have HR282_0:=Aside0.mk hi282_0;have HC282_0:=Aside0.mk hl282_0;clear hi282_0 hl282_0;replace p282:=eq_true p282;replace q282:=eq_true q282;have p283 : 0 ≤ (a1 : Int):=of_decide_eq_true (by first | (with_reducible assumption) | assumption);have q283 : a1 < (t272.length : Int):=of_decide_eq_true (by first | (with_reducible assumption) | assumption);obtain ⟨ad283,A283_1,c283_1,e283,hx283_0,hx283_1,hx283_2,hl283_1,hi283_1⟩:=at_T58 (Kd.S_reads' HO_6.out).2.2 a1 p283 q283;obtain rfl : ad280 = ad283:=(by injection e283);obtain ⟨ce283,hce283,hMe283,hcc283⟩:=Kd.S_get HO_6.out z58 a1 p283 (by first | exact q283 | exact of_decide_eq_true (by first | (with_reducible assumption) | assumption) | (have e_:=(Kd.S_reads' HO_6.out).1;omega));obtain ⟨ve283_1,rfl,ge283_1⟩:=k58_openM hMe283;have hv283_1:=hcc283 1 _ rfl;rw [add_field _ _ 1 (by omega)] at hv283_1;replace hv283_1:=Option.some.inj (hv283_1.symm.trans hx283_1);rw [hv283_1] at ge283_1;have HL283_1:=Aside0.mk (show Kd.R (Kd.int .i64) 3 _ _ _ _ ((rd_T58 t272 a1).f1) from ge283_1);clear hv283_1 ge283_1;clear hcc283 hce283;have HR283_1:=Aside0.mk hi283_1;have HC283_1:=Aside0.mk hl283_1;clear hi283_1 hl283_1;replace p283:=eq_true p283;replace q283:=eq_true q283;have ea_:=Option.some.inj (hx280_1.symm.trans hx283_1);injection ea_ with ea_ en_ ec_;subst ea_;subst ec_;clear en_) | (go_at_call 45;(with_reducible refine (spec_l1Has.calls k2 _ _ (rd_L1 l0_0 (rd t276 x31_2)) ((rd_T58 t272 a1).f0) false _ ?side1 ?side2 A26.out).mono ?_);(case side1 => repeat (first | exact (Kd.C_below HR282_0.out (by repeat (first | (with_reducible first | exact HB.out | apply below_alloc | apply pw_below_drewN | apply below_drew1 | refine below_set ?_ GE271.out) | exact HB.out))) | (with_reducible refine Kd.C_alloc ?_ _) | (with_reducible refine Kd.C_drewN ?_ _) | (with_reducible refine Kd.C_drew ?_)));(case side2 => exact HC282_0.out);rintro e w' ⟨rfl,⟨nd,rfl⟩⟩;(try first | exact ⟨rfl,_,World.drewN_drewN _ _ _⟩ | exact ⟨rfl,_,Eq.trans (World.drewN_drewN _ _ _) (congrArg (World.drewN _) (Nat.add_assoc _ _ _))⟩)));try go_wp2_with (first | (go_at_call 45;(with_reducible refine (spec_l1Has.calls k2 _ _ ((rd_T58 t272 a1).f1) (rd t276 x31_2) false _ ?side1 ?side2 A21.out).mono ?_);(case side1 => repeat (first | exact (by repeat (first | (with_reducible exact HR280_1.out) | (with_reducible refine Kd.C_alloc ?_ _) | (with_reducible refine Kd.C_drewN ?_ _) | (with_reducible refine Kd.C_drew ?_) | exact HR280_1.out)) | (with_reducible refine Kd.C_alloc ?_ _) | (with_reducible refine Kd.C_drewN ?_ _) | (with_reducible refine Kd.C_drew ?_)));(case side2 => exact HC280_1.out);rintro e w' ⟨rfl,⟨nd,rfl⟩⟩;(try first | exact ⟨rfl,_,World.drewN_drewN _ _ _⟩ | exact ⟨rfl,_,Eq.trans (World.drewN_drewN _ _ _) (congrArg (World.drewN _) (Nat.add_assoc _ _ _))⟩);have hcz34_0 : wr.cell? ⟨gb271,0,none⟩ = some (.slice A0_0 l0_0.length c0_0):=(blk_cell BK271.out 0).trans rfl;have hfz34_0:=blk_frozen BK271.out 0;have p282 : 0 ≤ ((rd t276 x31_2) : Int):=of_decide_eq_true (by first | (with_reducible assumption) | assumption);have q282 : (rd t276 x31_2) < (l0_0.length : Int):=of_decide_eq_true (by first | (with_reducible assumption) | assumption);obtain ⟨ad282,A282_0,c282_0,e282,hx282_0,hl282_0,hi282_0⟩:=at_L1 HR0_0.out (rd t276 x31_2) p282 q282;cases e282;replace hx282_0:=(HB.out.cell (World.block_lt_of_cell? w _ hx282_0)).trans hx282_0;have HR282_0:=Aside0.mk hi282_0;have HC282_0:=Aside0.mk hl282_0;clear hi282_0 hl282_0;replace p282:=eq_true p282;replace q282:=eq_true q282;have p283 : 0 ≤ (a1 : Int):=of_decide_eq_true (by first | (with_reducible assumption) | assumption);have q283 : a1 < (t272.length : Int):=of_decide_eq_true (by first | (with_reducible assumption) | assumption);obtain ⟨ad283,A283_1,c283_1,e283,hx283_0,hx283_1,hx283_2,hl283_1,hi283_1⟩:=at_T58 (Kd.S_reads' HO_6.out).2.2 a1 p283 q283;obtain rfl : ad280 = ad283:=(by injection e283);obtain ⟨ce283,hce283,hMe283,hcc283⟩:=Kd.S_get HO_6.out z58 a1 p283 (by first | exact q283 | exact of_decide_eq_true (by first | (with_reducible assumption) | assumption) | (have e_:=(Kd.S_reads' HO_6.out).1;omega));obtain ⟨ve283_1,rfl,ge283_1⟩:=k58_openM hMe283;have hv283_1:=hcc283 1 _ rfl;rw [add_field _ _ 1 (by omega)] at hv283_1;replace hv283_1:=Option.some.inj (hv283_1.symm.trans hx283_1);rw [hv283_1] at ge283_1;have HL283_1:=Aside0.mk (show Kd.R (Kd.int .i64) 3 _ _ _ _ ((rd_T58 t272 a1).f1) from ge283_1);clear hv283_1 ge283_1;clear hcc283 hce283;have HR283_1:=Aside0.mk hi283_1;have HC283_1:=Aside0.mk hl283_1;clear hi283_1 hl283_1;replace p283:=eq_true p283;replace q283:=eq_true q283;have ea_:=Option.some.inj (hx280_1.symm.trans hx283_1);injection ea_ with ea_ en_ ec_;subst ea_;subst ec_;clear en_) | (go_at_call 45;(with_reducible refine (spec_l1Has.calls k2 _ _ (rd_L1 l0_0 (rd t276 x31_2)) ((rd_T58 t272 a1).f0) false _ ?side1 ?side2 A26.out).mono ?_);(case side1 => repeat (first | exact (Kd.C_below HR282_0.out (by repeat (first | (with_reducible first | exact HB.out | apply below_alloc | apply pw_below_drewN | apply below_drew1 | refine below_set ?_ GE271.out) | exact HB.out))) | (with_reducible refine Kd.C_alloc ?_ _) | (with_reducible refine Kd.C_drewN ?_ _) | (with_reducible refine Kd.C_drew ?_)));(case side2 => exact HC282_0.out);rintro e w' ⟨rfl,⟨nd,rfl⟩⟩;(try first | exact ⟨rfl,_,World.drewN_drewN _ _ _⟩ | exact ⟨rfl,_,Eq.trans (World.drewN_drewN _ _ _) (congrArg (World.drewN _) (Nat.add_assoc _ _ _))⟩))))
               go_roundg k2
               case measure => have:=HJ3.out;have:=HK2.out;omega
               case rel => exact ⟨(x8_2),(wrap64 (x31_2 + 1)),(by first | rfl | (simp;done) | (simp [*];done)),H',⟨by have:=HJ3.out;have:=HK2.out;omega⟩,⟨by (with_reducible repeat (first | apply Kd.S_alloc | apply Kd.S_drewN | apply Kd.S_drew));exact HO_6.out⟩,⟨by (with_reducible repeat (first | apply Kd.R_alloc | apply Kd.R_drewN | apply Kd.R_drew));exact HO_8.out⟩,⟨by (with_reducible repeat (first | apply Kd.R_alloc | apply Kd.R_drewN | apply Kd.R_drew));exact HO_29.out⟩,⟨by (with_reducible repeat (first | refine blk_drewN ?_ _ | refine blk_drew ?_ | refine blk_alloc ?_ _));exact BK271.out⟩,⟨by repeat (first | (with_reducible first | exact HB.out | apply below_alloc | apply pw_below_drewN | apply below_drew1 | refine below_set ?_ GE271.out) | exact HB.out)⟩⟩
             ·rw [if_neg c25] at H
              exact absurd H (by simp)
            ·rw [if_neg c24] at H
             exact absurd H (by simp)
          ·rw [if_neg c20] at H
           exact absurd H (by simp)
         ·rw [if_neg c19] at H
          exact absurd H (by simp)
        ·rw [if_neg c18] at H
         exact absurd H (by simp)
       ·rw [if_neg c17] at H
        exact absurd H (by simp)
      ·rw [if_neg c16] at H
       have c16b0 : decide (x31_2 < (t276.length : Int)) = false:=decide_eq_false c16
       clear c16
       simp only [Option.some.injEq,Prod.mk.injEq] at H
       obtain ⟨rfl,rfl⟩:=H
       go_wp2
       repeat (go_quiet (fail);try go_wp2)
       go_ret2
       exact ⟨_,by first | rfl | (simp [errW_none,errW_some] <;> rfl) | (simp [*,errW_none,errW_some] <;> rfl),by (with_reducible repeat (first | apply Kd.R_alloc | apply Kd.R_drewN | apply Kd.R_drew));exact Kd.R_mono HO_8.out (fun _ hk => trivial),by repeat (first | (with_reducible first | exact HB.out | apply below_alloc | apply pw_below_drewN | apply below_drew1 | refine below_set ?_ GE271.out) | exact HB.out)⟩

/-! ### impl_loopAt: function 52 (by hand: a variable whose row a pointer's method hands on) -/
def impl_loopAt.f (k : Nat) (g : List (List Int)) (a1 : Int) : Option (Int × List Int × Int × Bool):=(impl_reducibleGraph.f k g).bind fun b => (if b = true then ((impl_Graph_loops.f k g).bind fun x => ((impl_within.f a1 0 (wrap64 ((x.length : Int) - 1))).bind fun t => (if t = true then (if 0 ≤ a1 then (if a1 < (x.length : Int) then some ((rd_T58 x a1).f0,(rd_T58 x a1).f1,(rd_T58 x a1).f2,true) else none) else none) else (some (0,[],0,false))))) else (some (0,[],0,false)))
theorem impl_loopAt.mono : ∀ a0 a1 k,LeO (impl_loopAt.f k a0 a1) (impl_loopAt.f (k + 1) a0 a1):=by
 intro a0 a1 k
 unfold impl_loopAt.f
 repeat' first
   | (with_reducible exact impl_reducibleGraph.mono _ _)
   | (with_reducible exact impl_Graph_loops.mono _ _)
   | (with_reducible exact LeO.refl _)
   | (with_reducible exact LeO.none _)
   | (with_reducible refine LeO.ite ?_ ?_)
   | (with_reducible refine LeO.bind ?_ (fun _ => ?_))
theorem loopAt_ct {P : Program} {fn : Func} {p u : Tmp} {ty : TypeId} (h : fn.results = #[.cell p ty,.tmp u]) (tmps : Array Value) (w : World) (g : Nat) (t : TypeId) (cs : Array Value) (fr : Nat × Nat) (d : TypeDesc)
  (hp : tmps.getD p undef = .pointer (some ⟨g,0,none⟩)) (hg : w.heap[g]? = some (.cells cs t fr))
  (hu : P.underlying ty = some d) (hd : (match d with | .struct _ | .array _ _ => true | _ => false) = true) (hi : (P.info? ty).map (·.size) = some cs.size) :
  (results fn tmps).run P w = .ok (.tuple #[.agg cs,tmps.getD u undef]) w:=by
 have hp' : tmps[p]?.getD undef = .pointer (some ⟨g,0,none⟩):=by simpa using hp
 simp [results,h,hp',asAddr,run_loadVar_row w g t ty cs fr d hg hu hd hi]
theorem loopAt_box {W : World} {g t : Nat} {a b c : Value} (h : W.heap[g]? = some (.cells #[a,b,c] t (0,0))) (x y z : Value) : (((W.setCell ⟨g,0,none⟩ x).setCell ⟨g,1,none⟩ y).setCell ⟨g,2,none⟩ z).heap[g]? = some (.cells #[x,y,z] t (0,0)):=blk_put (blk_put (blk_put h 0 x rfl) 1 y rfl) 2 z rfl
theorem loopAt_new1 (w : World) (o1 o2 : Obj) : ((w.alloc o1).alloc o2).heap[w.heap.size + 1]? = some o2:=by
 have h:=heap_alloc_new (w.alloc o1) o2
 rwa [show (w.alloc o1).heap.size = w.heap.size + 1 by simp] at h
set_option maxHeartbeats 8000000 in
set_option maxRecDepth 100000 in
theorem impl_loopAt.calls (k : Nat) (A0_0 : Option Addr) (c0_0 : Nat) (l0_0 : List (List Int)) (a1 : Int) (r0 : Int) (r1 : List Int) (r2 : Int) (r3 : Bool) (w : World) (hr0_0 : Kd.C (Kd.slice 3 (Kd.int .i64)) w A0_0 l0_0.length l0_0) (hc0_0 : l0_0.length ≤ c0_0) (h : impl_loopAt.f k l0_0 a1 = some (r0,r1,r2,r3)) :
  Calls Try.prog 52 #[.agg #[.slice A0_0 l0_0.length c0_0],.int .i64 a1] w fun e w' => ∃ v0_ : Value,e = .returned (.tuple #[.agg #[.int .i64 r0,v0_,.int .i64 r2],.bool r3]) ∧ Kd.R (Kd.int .i64) 3 w' w.heap.size (fun _ => True) v0_ r1 ∧ Below w.heap.size w w':=by
 have hu27:=Try.underlying28
 have hu58:=Try.underlying58
 have HR0:=Aside0.mk hr0_0
 have HC0:=Aside0.mk hc0_0
 clear hr0_0 hc0_0
 unfold impl_loopAt.f at h
 obtain ⟨b,A1,H⟩:=Option.bind_eq_some_iff.mp h
 have A:=Aside0.mk A1
 have HBX:=Aside0.mk (blk_alloc (heap_alloc_new w (.cells #[.slice A0_0 l0_0.length c0_0] 28)) (.cells #[.int .i64 0,.slice none 0 0,.int .i64 0] 58))
 have HBZ:=Aside0.mk (loopAt_new1 w (.cells #[.slice A0_0 l0_0.length c0_0] 28) (.cells #[.int .i64 0,.slice none 0 0,.int .i64 0] 58))
 have HB:=Aside0.mk (below_alloc (below_alloc (Below.refl w.heap.size w) (.cells #[.slice A0_0 l0_0.length c0_0] 28)) (.cells #[.int .i64 0,.slice none 0 0,.int .i64 0] 58))
 clear h A1
 cases b with
 | false =>
  rw [if_neg (by decide)] at H
  simp only [Option.some.injEq,Prod.mk.injEq] at H
  obtain ⟨rfl,rfl,rfl,rfl⟩:=H
  go_enter Try.func52,Try.ntmps52
  go_wp2_with (first | (go_at_call 47;(refine (impl_reducibleGraph.calls k _ _ l0_0 false _ (Kd.C_below HR0.out HB.out) HC0.out A.out).mono ?_);rintro e w2 ⟨rfl,hb⟩;have HB2:=Aside0.mk (below_step HB.out hb);have HBX2:=Aside0.mk (blk_below HBX.out hb);have HBZ2:=Aside0.mk (blk_below HBZ.out hb);have hb0:=(blk_cell HBZ2.out 0).trans rfl;have hb1:=(blk_cell HBZ2.out 1).trans rfl;have hb2:=(blk_cell HBZ2.out 2).trans rfl;have hz0:=blk_frozen HBZ2.out 0;have hz1:=blk_frozen HBZ2.out 1;have hz2:=blk_frozen HBZ2.out 2;clear hb))
  refine bodyPost_ret (loopAt_ct rfl _ _ (w.heap.size + 1) 58 #[.int .i64 0,.slice none 0 0,.int .i64 0] (0,0) _ rfl (loopAt_box HBZ2.out _ _ _) Try.underlying58 rfl (by kernel_rfl)) rfl ?_
  exact ⟨_,rfl,Kd.R_nil _ _ _ _ _,(((HB2.out.setCell (show w.heap.size ≤ (⟨w.heap.size + 1,0,none⟩ : Addr).block from Nat.le_succ _) _).setCell (show w.heap.size ≤ (⟨w.heap.size + 1,1,none⟩ : Addr).block from Nat.le_succ _) _).setCell (show w.heap.size ≤ (⟨w.heap.size + 1,2,none⟩ : Addr).block from Nat.le_succ _) _)⟩
 | true =>
  rw [if_pos rfl] at H
  obtain ⟨x,B1,H⟩:=Option.bind_eq_some_iff.mp H
  have B:=Aside0.mk B1
  obtain ⟨t,C1,H⟩:=Option.bind_eq_some_iff.mp H
  have C:=Aside0.mk C1
  clear B1 C1
  cases t with
  | false =>
   rw [if_neg (by decide)] at H
   simp only [Option.some.injEq,Prod.mk.injEq] at H
   obtain ⟨rfl,rfl,rfl,rfl⟩:=H
   go_enter Try.func52,Try.ntmps52
   go_wp2_with (first | (go_at_call 47;(refine (impl_reducibleGraph.calls k _ _ l0_0 true _ (Kd.C_below HR0.out HB.out) HC0.out A.out).mono ?_);rintro e w2 ⟨rfl,hb⟩;have HB2:=Aside0.mk (below_step HB.out hb);have HBX2:=Aside0.mk (blk_below HBX.out hb);have HBZ2:=Aside0.mk (blk_below HBZ.out hb);clear hb) | (go_at_call 49;(refine (impl_Graph_loops.calls k _ _ _ l0_0 x _ HBX2.out (Kd.C_below HR0.out HB2.out) HC0.out B.out).mono ?_);rintro e w3 ⟨v0,rfl,ho,hb⟩;have HO:=Aside0.mk (Kd.S_lower (Kd.S_bound ho) HB2.out.size);have HB3:=Aside0.mk (below_step HB2.out hb);have HBZ3:=Aside0.mk (blk_below HBZ2.out hb);have HZL:=Aside0.mk (blk_lt HBZ2.out);clear ho hb;obtain ⟨Av,cv,ev⟩:=Kd.S_slice HO.out;subst ev) | (go_at_call 48;(refine (impl_within.calls a1 0 (wrap64 ((x.length : Int) - 1)) false _ C.out).mono ?_);rintro e w4 ⟨rfl,⟨nd,hw4⟩⟩;have HB4:=Aside0.mk (show Below w.heap.size w w4 by rw [hw4];exact pw_below_drewN HB3.out nd);have HBZ4:=Aside0.mk (show w4.heap[w.heap.size + 1]? = some (.cells #[.int .i64 0,.slice none 0 0,.int .i64 0] 58 (0,0)) by rw [hw4];exact blk_drewN HBZ3.out nd);have HO4:=Aside0.mk (Kd.S_below HO.out (show Below w3.heap.size w3 w4 by rw [hw4];exact pw_below_drewN (Below.refl _ _) nd));clear hw4;have hb0:=(blk_cell HBZ4.out 0).trans rfl;have hb1:=(blk_cell HBZ4.out 1).trans rfl;have hb2:=(blk_cell HBZ4.out 2).trans rfl;have hz0:=blk_frozen HBZ4.out 0;have hz1:=blk_frozen HBZ4.out 1;have hz2:=blk_frozen HBZ4.out 2))
   refine bodyPost_ret (loopAt_ct rfl _ _ (w.heap.size + 1) 58 #[.int .i64 0,.slice none 0 0,.int .i64 0] (0,0) _ rfl (loopAt_box HBZ4.out _ _ _) Try.underlying58 rfl (by kernel_rfl)) rfl ?_
   exact ⟨_,rfl,Kd.R_nil _ _ _ _ _,(((HB4.out.setCell (show w.heap.size ≤ (⟨w.heap.size + 1,0,none⟩ : Addr).block from Nat.le_succ _) _).setCell (show w.heap.size ≤ (⟨w.heap.size + 1,1,none⟩ : Addr).block from Nat.le_succ _) _).setCell (show w.heap.size ≤ (⟨w.heap.size + 1,2,none⟩ : Addr).block from Nat.le_succ _) _)⟩
  | true =>
   rw [if_pos rfl] at H
   by_cases c1 : 0 ≤ a1
   rotate_left
   ·rw [if_neg c1] at H;exact absurd H (by simp)
   rw [if_pos c1] at H
   by_cases c2 : a1 < (x.length : Int)
   rotate_left
   ·rw [if_neg c2] at H;exact absurd H (by simp)
   rw [if_pos c2] at H
   simp only [Option.some.injEq,Prod.mk.injEq] at H
   obtain ⟨rfl,rfl,rfl,rfl⟩:=H
   obtain ⟨xi,hxi⟩ : ∃ xi,xi = rd_T58 x a1:=⟨_,rfl⟩
   rw [← hxi]
   have HXI:=Aside0.mk hxi
   have q1 : decide (0 ≤ a1) = true:=decide_eq_true c1
   have q2 : decide (a1 < (x.length : Int)) = true:=decide_eq_true c2
   have p1:=eq_true c1
   have p2:=eq_true c2
   clear hxi c1 c2
   go_enter Try.func52,Try.ntmps52
   go_wp2_with (first | (go_at_call 47;(refine (impl_reducibleGraph.calls k _ _ l0_0 true _ (Kd.C_below HR0.out HB.out) HC0.out A.out).mono ?_);rintro e w2 ⟨rfl,hb⟩;have HB2:=Aside0.mk (below_step HB.out hb);have HBX2:=Aside0.mk (blk_below HBX.out hb);have HBZ2:=Aside0.mk (blk_below HBZ.out hb);clear hb) | (go_at_call 49;(refine (impl_Graph_loops.calls k _ _ _ l0_0 x _ HBX2.out (Kd.C_below HR0.out HB2.out) HC0.out B.out).mono ?_);rintro e w3 ⟨v0,rfl,ho,hb⟩;have HO:=Aside0.mk (Kd.S_lower (Kd.S_bound ho) HB2.out.size);have HB3:=Aside0.mk (below_step HB2.out hb);have HBZ3:=Aside0.mk (blk_below HBZ2.out hb);have HZL:=Aside0.mk (blk_lt HBZ2.out);clear ho hb;obtain ⟨Av,cv,ev⟩:=Kd.S_slice HO.out;subst ev) | (go_at_call 48;(refine (impl_within.calls a1 0 (wrap64 ((x.length : Int) - 1)) true _ C.out).mono ?_);rintro e w4 ⟨rfl,⟨nd,hw4⟩⟩;have HB4:=Aside0.mk (show Below w.heap.size w w4 by rw [hw4];exact pw_below_drewN HB3.out nd);have HBZ4:=Aside0.mk (show w4.heap[w.heap.size + 1]? = some (.cells #[.int .i64 0,.slice none 0 0,.int .i64 0] 58 (0,0)) by rw [hw4];exact blk_drewN HBZ3.out nd);have HO4:=Aside0.mk (Kd.S_below HO.out (show Below w3.heap.size w3 w4 by rw [hw4];exact pw_below_drewN (Below.refl _ _) nd));clear hw4;obtain ⟨ad,A5,c5,e5,hx0,hx1,hx2,hl5,hi5⟩:=at_T58 (Kd.S_reads' HO4.out).2.2 a1 (of_eq_true p1) (of_eq_true p2);cases e5;obtain ⟨ce,hce,hMe,hcc⟩:=Kd.S_get HO4.out z58 a1 (of_eq_true p1) (of_eq_true p2);obtain ⟨ve,rfl,ge⟩:=k58_openM hMe;have hv:=hcc 1 _ rfl;rw [add_field _ _ 1 (by omega)] at hv;replace hv:=Option.some.inj (hv.symm.trans hx1);rw [hv] at ge;have HG:=Aside0.mk (show Kd.R (Kd.int .i64) 3 w4 w.heap.size _ _ (rd_T58 x a1).f1 from ge);rw [← HXI.out] at HG hx0 hx1 hx2;clear hv ge hcc hce hl5 hi5;have hb0:=(blk_cell HBZ4.out 0).trans rfl;have hb1:=(blk_cell HBZ4.out 1).trans rfl;have hb2:=(blk_cell HBZ4.out 2).trans rfl;have hz0:=blk_frozen HBZ4.out 0;have hz1:=blk_frozen HBZ4.out 1;have hz2:=blk_frozen HBZ4.out 2))
   refine bodyPost_ret (loopAt_ct rfl _ _ (w.heap.size + 1) 58 #[.int .i64 xi.f0,.slice A5 xi.f1.length c5,.int .i64 xi.f2] (0,0) _ rfl (loopAt_box HBZ4.out _ _ _) Try.underlying58 rfl (by kernel_rfl)) rfl ?_
   have HG2:=Kd.R_mono (ok':=fun k => k ≠ w.heap.size + 1) HG.out (fun k hk => by have h1:=hk.1.2.1;have h2:=HZL.out;omega)
   exact ⟨_,rfl,Kd.R_mono (Kd.R_far (p:=⟨w.heap.size + 1,2,none⟩) (Kd.R_far (p:=⟨w.heap.size + 1,1,none⟩) (Kd.R_far (p:=⟨w.heap.size + 1,0,none⟩) HG2 (fun k hk => hk) _) (fun k hk => hk) _) (fun k hk => hk) _) (fun _ _ => trivial),(((HB4.out.setCell (show w.heap.size ≤ (⟨w.heap.size + 1,0,none⟩ : Addr).block from Nat.le_succ _) _).setCell (show w.heap.size ≤ (⟨w.heap.size + 1,1,none⟩ : Addr).block from Nat.le_succ _) _).setCell (show w.heap.size ≤ (⟨w.heap.size + 1,2,none⟩ : Addr).block from Nat.le_succ _) _)⟩

-- NOT PRINTED: function 82 (slices_DeleteFunc_int_int)

end Go.Proofs.Ytbmnoenbhlfjaaa.Q
