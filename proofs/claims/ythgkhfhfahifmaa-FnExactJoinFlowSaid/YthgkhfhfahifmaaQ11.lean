-- WRITTEN BY A PROGRAM OF THIS SESSION
import Derived.Test.YthgkhfhfahifmaaQ0
import Derived.Test.YthgkhfhfahifmaaQ10
namespace Go.Proofs.Ythgkhfhfahifmaa.Q
open Go.RowKit Go.Proofs.YthgkhfhfahifmaaW.PrintWords Go.Proofs.YthgkhfhfahifmaaW.PrintLast Go.Proofs.YthgkhfhfahifmaaW.PrintMore
attribute [local go_sem] max2_int min2_int max_two min_two max_three min_three max_four min_four   -- for this text's walks alone
set_option linter.unusedVariables false
set_option linter.unusedSimpArgs false

/-! ### impl_fieldsOf: function 86 -/
def impl_fieldsOf.j0 : Nat → Int → Bool → Option (Bool × Bool × Bool × Bool × Bool × Bool)
 | 0,_,_ => none
 | k + 1,x4,x8 => if x8 = true then (some (true,true,false,false,false,true)) else (if x4 = 3 then (some (true,true,true,false,true,true)) else (if x4 = 5 then (some (false,true,true,false,false,true)) else (if x4 = 6 then (some (false,true,false,false,false,true)) else (some (false,false,false,false,false,false)))))
def impl_fieldsOf.f (k : Nat) (a0 : Int) : Option (Bool × Bool × Bool × Bool × Bool × Bool):=if a0 = 1 then (some (true,false,false,true,false,true)) else (if a0 = 2 then (impl_fieldsOf.j0 k a0 (a0 == 2)) else (impl_fieldsOf.j0 k a0 (a0 == 4)))
theorem impl_fieldsOf.mono_l : ∀ k,(∀ y0 y1,LeO (impl_fieldsOf.j0 k y0 y1) (impl_fieldsOf.j0 (k + 1) y0 y1))
 | 0 => fun _ _ r h => by simp [impl_fieldsOf.j0] at h
 | k + 1 => by
  have ih0:=impl_fieldsOf.mono_l k
  ·intro y0 y1
   unfold impl_fieldsOf.j0
   repeat' first
   | (with_reducible exact ih0 _ _)
   | (with_reducible exact LeO.refl _)
   | (with_reducible exact LeO.none _)
   | (with_reducible refine LeO.ite ?_ ?_)
   | (with_reducible refine LeO.bind ?_ (fun _ => ?_))
theorem impl_fieldsOf.mono : ∀ a0 k,LeO (impl_fieldsOf.f k a0) (impl_fieldsOf.f (k + 1) a0):=by
 intro a0 k
 have ih0:=impl_fieldsOf.mono_l k
 unfold impl_fieldsOf.f
 repeat' first
   | (with_reducible exact ih0 _ _)
   | (with_reducible exact LeO.refl _)
   | (with_reducible exact LeO.none _)
   | (with_reducible refine LeO.ite ?_ ?_)
   | (with_reducible refine LeO.bind ?_ (fun _ => ?_))
set_option maxHeartbeats 8000000 in
set_option maxRecDepth 100000 in
theorem impl_fieldsOf.calls (k : Nat) (a0 : Int) (r1 : Bool) (r2 : Bool) (r3 : Bool) (r4 : Bool) (r5 : Bool) (r6 : Bool) (w : World) (h : impl_fieldsOf.f k a0 = some (r1,r2,r3,r4,r5,r6)) :
  Calls Try.prog 86 #[.int .i64 a0] w fun e w' => e = .returned (.tuple #[.agg #[.bool r1,.bool r2,.bool r3,.bool r4,.bool r5],.bool r6]) ∧ Below w.heap.size w w':=by
 have hu100:=Try.underlying100
 have HB:=Aside0.mk (Below.refl w.heap.size w)
 have H : (if a0 = 1 then (some (true,false,false,true,false,true)) else (if a0 = 2 then (impl_fieldsOf.j0 k a0 (a0 == 2)) else (impl_fieldsOf.j0 k a0 (a0 == 4)))) = some (r1,r2,r3,r4,r5,r6):=h
 clear h
 by_cases c2 : a0 = 1
 ·rw [if_pos c2] at H
  have c2b0 : (a0 == 1) = true:=beq_iff_eq.mpr c2
  have c2b1 : (a0 != 1) = false:=bne_eq_false_iff_eq.mpr c2
  clear c2
  simp only [Option.some.injEq,Prod.mk.injEq] at H
  obtain ⟨rfl,rfl,rfl,rfl,rfl,rfl⟩:=H
  go_enter Try.func86,Try.ntmps86
  go_wp2_with (first | ((with_reducible refine gate_dst (N:=2) rfl ?_);refine box_event ?hg (N:=2) ?hd (cs:=#[.bool false,.bool false,.bool false,.bool false,.bool false]) (t:=100) ?hr ?_;(case hd => rfl);(case hg => rfl);(case hr => first | (go_simp;done) | (go_simp;rfl));intro gb276 hg w3 hbox hb;have n0_:=Aside0.mk (below_step (by repeat (with_reducible first | exact HB.out | apply below_alloc | apply pw_below_drewN | apply below_drew1)) hb);have n1_:=Aside0.mk (hbox);have n2_:=Aside0.mk ((by rw [hg];exact (below_size (by repeat (with_reducible first | exact HB.out | apply below_alloc | apply pw_below_drewN | apply below_drew1))) : w.heap.size ≤ gb276));have n3_:=Aside0.mk ((by rw [hg];exact (below_size (by repeat (with_reducible first | exact HB.out | apply below_alloc | apply pw_below_drewN | apply below_drew1))) : w.heap.size ≤ gb276));clear HB;have HB:=n0_;have BK276:=n1_;have GW276:=n2_;have GE276:=n3_;clear n0_ n1_ n2_ n3_;clear hb hbox hg;have hcz4_0 : w3.cell? ⟨gb276,0,none⟩ = some (.bool false):=(blk_cell BK276.out 0).trans rfl;have hcz4_1 : w3.cell? ⟨gb276,1,none⟩ = some (.bool false):=(blk_cell BK276.out 1).trans rfl;have hcz4_2 : w3.cell? ⟨gb276,2,none⟩ = some (.bool false):=(blk_cell BK276.out 2).trans rfl;have hcz4_3 : w3.cell? ⟨gb276,3,none⟩ = some (.bool false):=(blk_cell BK276.out 3).trans rfl;have hcz4_4 : w3.cell? ⟨gb276,4,none⟩ = some (.bool false):=(blk_cell BK276.out 4).trans rfl;have hfz4_0:=blk_frozen BK276.out 0;have hfz4_1:=blk_frozen BK276.out 1;have hfz4_2:=blk_frozen BK276.out 2;have hfz4_3:=blk_frozen BK276.out 3;have hfz4_4:=blk_frozen BK276.out 4))
  refine bodyPost_ret (results_ct rfl _ _ gb276 100 #[.bool true,.bool false,.bool false,.bool true,.bool false] (0,0) _ rfl (by (with_reducible repeat (first | refine blk_drewN ?_ _ | refine blk_drew ?_ | refine blk_alloc ?_ _));refine blk_put (cs:=#[.bool true,.bool false,.bool false,.bool true,.bool false]) ?_ 4 _ rfl;(with_reducible repeat (first | refine blk_drewN ?_ _ | refine blk_drew ?_ | refine blk_alloc ?_ _));refine blk_put (cs:=#[.bool true,.bool false,.bool false,.bool false,.bool false]) ?_ 3 _ rfl;(with_reducible repeat (first | refine blk_drewN ?_ _ | refine blk_drew ?_ | refine blk_alloc ?_ _));refine blk_put (cs:=#[.bool true,.bool false,.bool false,.bool false,.bool false]) ?_ 2 _ rfl;(with_reducible repeat (first | refine blk_drewN ?_ _ | refine blk_drew ?_ | refine blk_alloc ?_ _));refine blk_put (cs:=#[.bool true,.bool false,.bool false,.bool false,.bool false]) ?_ 1 _ rfl;(with_reducible repeat (first | refine blk_drewN ?_ _ | refine blk_drew ?_ | refine blk_alloc ?_ _));refine blk_put (cs:=#[.bool false,.bool false,.bool false,.bool false,.bool false]) ?_ 0 _ rfl;(with_reducible repeat (first | refine blk_drewN ?_ _ | refine blk_drew ?_ | refine blk_alloc ?_ _));exact BK276.out) Try.underlying100 rfl (by kernel_rfl)) rfl ?_
  exact ⟨by first | rfl | (simp [*,errW_none,errW_some] <;> rfl),by repeat (with_reducible first | exact HB.out | apply below_alloc | apply pw_below_drewN | apply below_drew1 | refine below_set ?_ GE276.out)⟩
 rw [if_neg c2] at H
 have c2b0 : (a0 == 1) = false:=beq_eq_false_iff_ne.mpr c2
 have c2b1 : (a0 != 1) = true:=bne_iff_ne.mpr c2
 have HC5:=Aside0.mk H
 clear H
 go_enter Try.func86,Try.ntmps86
 go_upto_if 8 with (first | ((with_reducible refine gate_dst (N:=2) rfl ?_);refine box_event ?hg (N:=2) ?hd (cs:=#[.bool false,.bool false,.bool false,.bool false,.bool false]) (t:=100) ?hr ?_;(case hd => rfl);(case hg => rfl);(case hr => first | (go_simp;done) | (go_simp;rfl));intro gb276 hg w6 hbox hb;have n0_:=Aside0.mk (below_step (by repeat (with_reducible first | exact HB.out | apply below_alloc | apply pw_below_drewN | apply below_drew1)) hb);have n1_:=Aside0.mk (hbox);have n2_:=Aside0.mk ((by rw [hg];exact (below_size (by repeat (with_reducible first | exact HB.out | apply below_alloc | apply pw_below_drewN | apply below_drew1))) : w.heap.size ≤ gb276));have n3_:=Aside0.mk ((by rw [hg];exact (below_size (by repeat (with_reducible first | exact HB.out | apply below_alloc | apply pw_below_drewN | apply below_drew1))) : w.heap.size ≤ gb276));clear HB;have HB:=n0_;have BK276:=n1_;have GW276:=n2_;have GE276:=n3_;clear n0_ n1_ n2_ n3_;clear hb hbox hg))
 (try simp only [Act.put,List.setIfInBounds_toArray,List.set_cons_zero,List.set_cons_succ])
 go_cut [8] (fun v8 wc => ∃ (kq : Nat) (x8_4 : Bool),v8 = .bool x8_4 ∧ Aside0 (impl_fieldsOf.j0 kq a0 x8_4 = some (r1,r2,r3,r4,r5,r6)) ∧ Aside0 (kq ≤ k) ∧ Aside0 (wc.heap[gb276]? = some (.cells #[.bool false,.bool false,.bool false,.bool false,.bool false] 100 (0,0))) ∧ Aside0 (Below w.heap.size w wc))
 case first =>
  have H:=HC5.out
  clear HC5
  by_cases c7 : a0 = 2
  rotate_left
  ·rw [if_neg c7] at H
   have c7b0 : (a0 == 2) = false:=beq_eq_false_iff_ne.mpr c7
   have c7b1 : (a0 != 2) = true:=bne_iff_ne.mpr c7
   (first | rw [c7b0] | (simp only [i64_w,i32_w];rw [c7b0]) | skip)
   have H':=Aside0.mk H
   clear H
   go_wp2
   go_meet
   case rel => exact ⟨_,((a0 == 4)),(by first | rfl | (simp;done) | (simp [*];done)),H',⟨by first | omega | exact Nat.le_refl _⟩,⟨by (with_reducible repeat (first | refine blk_drewN ?_ _ | refine blk_drew ?_ | refine blk_alloc ?_ _));exact BK276.out⟩,⟨by repeat (with_reducible first | exact HB.out | apply below_alloc | apply pw_below_drewN | apply below_drew1 | refine below_set ?_ GE276.out)⟩⟩
  rw [if_pos c7] at H
  have c7b0 : (a0 == 2) = true:=beq_iff_eq.mpr c7
  have c7b1 : (a0 != 2) = false:=bne_eq_false_iff_eq.mpr c7
  clear c7
  (first | rw [c7b0] | (simp only [i64_w,i32_w];rw [c7b0]) | skip)
  have H':=Aside0.mk H
  clear H
  go_wp2
  go_meet
  case rel => exact ⟨_,((a0 == 2)),(by first | rfl | (simp;done) | (simp [*];done)),H',⟨by first | omega | exact Nat.le_refl _⟩,⟨by (with_reducible repeat (first | refine blk_drewN ?_ _ | refine blk_drew ?_ | refine blk_alloc ?_ _));exact BK276.out⟩,⟨by repeat (with_reducible first | exact HB.out | apply below_alloc | apply pw_below_drewN | apply below_drew1 | refine below_set ?_ GE276.out)⟩⟩
 case rest =>
  clear HC5
  try clear c2
  try clear c2b0
  try clear c2b1
  try clear p2
  try clear c7
  try clear c7b0
  try clear c7b1
  try clear hcz4_0
  try clear hcz4_1
  try clear hcz4_2
  try clear hcz4_3
  try clear hcz4_4
  try clear hfz4_0
  try clear hfz4_1
  try clear hfz4_2
  try clear hfz4_3
  try clear hfz4_4
  obtain ⟨kq,x8_4,rfl,HA,HJ4,BK276,HB⟩:=hcut
  cases kq with
  | zero => exact absurd HA.out (by simp [impl_fieldsOf.j0])
  | succ kj4 =>
   have H:=HA.out
   clear HA
   simp only [impl_fieldsOf.j0] at H
   by_cases c8 : x8_4 = true
   ·subst c8
    have H1 : (some (true,true,false,false,false,true)) = some (r1,r2,r3,r4,r5,r6):=by rw [if_pos rfl] at H;exact H
    clear H
    have H:=H1
    clear H1
    simp only [Option.some.injEq,Prod.mk.injEq] at H
    obtain ⟨rfl,rfl,rfl,rfl,rfl,rfl⟩:=H
    have hcz9_0 : wc.cell? ⟨gb276,0,none⟩ = some (.bool false):=(blk_cell BK276.out 0).trans rfl
    have hcz9_1 : wc.cell? ⟨gb276,1,none⟩ = some (.bool false):=(blk_cell BK276.out 1).trans rfl
    have hcz9_2 : wc.cell? ⟨gb276,2,none⟩ = some (.bool false):=(blk_cell BK276.out 2).trans rfl
    have hcz9_3 : wc.cell? ⟨gb276,3,none⟩ = some (.bool false):=(blk_cell BK276.out 3).trans rfl
    have hcz9_4 : wc.cell? ⟨gb276,4,none⟩ = some (.bool false):=(blk_cell BK276.out 4).trans rfl
    have hfz9_0:=blk_frozen BK276.out 0
    have hfz9_1:=blk_frozen BK276.out 1
    have hfz9_2:=blk_frozen BK276.out 2
    have hfz9_3:=blk_frozen BK276.out 3
    have hfz9_4:=blk_frozen BK276.out 4
    go_wp2
    refine bodyPost_ret (results_ct rfl _ _ gb276 100 #[.bool true,.bool true,.bool false,.bool false,.bool false] (0,0) _ rfl (by (with_reducible repeat (first | refine blk_drewN ?_ _ | refine blk_drew ?_ | refine blk_alloc ?_ _));refine blk_put (cs:=#[.bool true,.bool true,.bool false,.bool false,.bool false]) ?_ 4 _ rfl;(with_reducible repeat (first | refine blk_drewN ?_ _ | refine blk_drew ?_ | refine blk_alloc ?_ _));refine blk_put (cs:=#[.bool true,.bool true,.bool false,.bool false,.bool false]) ?_ 3 _ rfl;(with_reducible repeat (first | refine blk_drewN ?_ _ | refine blk_drew ?_ | refine blk_alloc ?_ _));refine blk_put (cs:=#[.bool true,.bool true,.bool false,.bool false,.bool false]) ?_ 2 _ rfl;(with_reducible repeat (first | refine blk_drewN ?_ _ | refine blk_drew ?_ | refine blk_alloc ?_ _));refine blk_put (cs:=#[.bool true,.bool false,.bool false,.bool false,.bool false]) ?_ 1 _ rfl;(with_reducible repeat (first | refine blk_drewN ?_ _ | refine blk_drew ?_ | refine blk_alloc ?_ _));refine blk_put (cs:=#[.bool false,.bool false,.bool false,.bool false,.bool false]) ?_ 0 _ rfl;(with_reducible repeat (first | refine blk_drewN ?_ _ | refine blk_drew ?_ | refine blk_alloc ?_ _));exact BK276.out) Try.underlying100 rfl (by kernel_rfl)) rfl ?_
    exact ⟨by first | rfl | (simp [*,errW_none,errW_some] <;> rfl),by repeat (with_reducible first | exact HB.out | apply below_alloc | apply pw_below_drewN | apply below_drew1 | refine below_set ?_ GE276.out)⟩
   replace c8:=Bool.eq_false_iff.mpr c8
   subst c8
   have H1 : (if a0 = 3 then (some (true,true,true,false,true,true)) else (if a0 = 5 then (some (false,true,true,false,false,true)) else (if a0 = 6 then (some (false,true,false,false,false,true)) else (some (false,false,false,false,false,false))))) = some (r1,r2,r3,r4,r5,r6):=by rw [if_neg (show ¬ (false = true) by decide)] at H;exact H
   clear H
   have H:=H1
   clear H1
   by_cases c10 : a0 = 3
   ·rw [if_pos c10] at H
    have c10b0 : (a0 == 3) = true:=beq_iff_eq.mpr c10
    have c10b1 : (a0 != 3) = false:=bne_eq_false_iff_eq.mpr c10
    clear c10
    simp only [Option.some.injEq,Prod.mk.injEq] at H
    obtain ⟨rfl,rfl,rfl,rfl,rfl,rfl⟩:=H
    have hcz11_0 : wc.cell? ⟨gb276,0,none⟩ = some (.bool false):=(blk_cell BK276.out 0).trans rfl
    have hcz11_1 : wc.cell? ⟨gb276,1,none⟩ = some (.bool false):=(blk_cell BK276.out 1).trans rfl
    have hcz11_2 : wc.cell? ⟨gb276,2,none⟩ = some (.bool false):=(blk_cell BK276.out 2).trans rfl
    have hcz11_3 : wc.cell? ⟨gb276,3,none⟩ = some (.bool false):=(blk_cell BK276.out 3).trans rfl
    have hcz11_4 : wc.cell? ⟨gb276,4,none⟩ = some (.bool false):=(blk_cell BK276.out 4).trans rfl
    have hfz11_0:=blk_frozen BK276.out 0
    have hfz11_1:=blk_frozen BK276.out 1
    have hfz11_2:=blk_frozen BK276.out 2
    have hfz11_3:=blk_frozen BK276.out 3
    have hfz11_4:=blk_frozen BK276.out 4
    go_wp2
    refine bodyPost_ret (results_ct rfl _ _ gb276 100 #[.bool true,.bool true,.bool true,.bool false,.bool true] (0,0) _ rfl (by (with_reducible repeat (first | refine blk_drewN ?_ _ | refine blk_drew ?_ | refine blk_alloc ?_ _));refine blk_put (cs:=#[.bool true,.bool true,.bool true,.bool false,.bool false]) ?_ 4 _ rfl;(with_reducible repeat (first | refine blk_drewN ?_ _ | refine blk_drew ?_ | refine blk_alloc ?_ _));refine blk_put (cs:=#[.bool true,.bool true,.bool true,.bool false,.bool false]) ?_ 3 _ rfl;(with_reducible repeat (first | refine blk_drewN ?_ _ | refine blk_drew ?_ | refine blk_alloc ?_ _));refine blk_put (cs:=#[.bool true,.bool true,.bool false,.bool false,.bool false]) ?_ 2 _ rfl;(with_reducible repeat (first | refine blk_drewN ?_ _ | refine blk_drew ?_ | refine blk_alloc ?_ _));refine blk_put (cs:=#[.bool true,.bool false,.bool false,.bool false,.bool false]) ?_ 1 _ rfl;(with_reducible repeat (first | refine blk_drewN ?_ _ | refine blk_drew ?_ | refine blk_alloc ?_ _));refine blk_put (cs:=#[.bool false,.bool false,.bool false,.bool false,.bool false]) ?_ 0 _ rfl;(with_reducible repeat (first | refine blk_drewN ?_ _ | refine blk_drew ?_ | refine blk_alloc ?_ _));exact BK276.out) Try.underlying100 rfl (by kernel_rfl)) rfl ?_
    exact ⟨by first | rfl | (simp [*,errW_none,errW_some] <;> rfl),by repeat (with_reducible first | exact HB.out | apply below_alloc | apply pw_below_drewN | apply below_drew1 | refine below_set ?_ GE276.out)⟩
   rw [if_neg c10] at H
   have c10b0 : (a0 == 3) = false:=beq_eq_false_iff_ne.mpr c10
   have c10b1 : (a0 != 3) = true:=bne_iff_ne.mpr c10
   by_cases c12 : a0 = 5
   ·rw [if_pos c12] at H
    have c12b0 : (a0 == 5) = true:=beq_iff_eq.mpr c12
    have c12b1 : (a0 != 5) = false:=bne_eq_false_iff_eq.mpr c12
    clear c12
    simp only [Option.some.injEq,Prod.mk.injEq] at H
    obtain ⟨rfl,rfl,rfl,rfl,rfl,rfl⟩:=H
    have hcz13_0 : wc.cell? ⟨gb276,0,none⟩ = some (.bool false):=(blk_cell BK276.out 0).trans rfl
    have hcz13_1 : wc.cell? ⟨gb276,1,none⟩ = some (.bool false):=(blk_cell BK276.out 1).trans rfl
    have hcz13_2 : wc.cell? ⟨gb276,2,none⟩ = some (.bool false):=(blk_cell BK276.out 2).trans rfl
    have hcz13_3 : wc.cell? ⟨gb276,3,none⟩ = some (.bool false):=(blk_cell BK276.out 3).trans rfl
    have hcz13_4 : wc.cell? ⟨gb276,4,none⟩ = some (.bool false):=(blk_cell BK276.out 4).trans rfl
    have hfz13_0:=blk_frozen BK276.out 0
    have hfz13_1:=blk_frozen BK276.out 1
    have hfz13_2:=blk_frozen BK276.out 2
    have hfz13_3:=blk_frozen BK276.out 3
    have hfz13_4:=blk_frozen BK276.out 4
    go_wp2
    refine bodyPost_ret (results_ct rfl _ _ gb276 100 #[.bool false,.bool true,.bool true,.bool false,.bool false] (0,0) _ rfl (by (with_reducible repeat (first | refine blk_drewN ?_ _ | refine blk_drew ?_ | refine blk_alloc ?_ _));refine blk_put (cs:=#[.bool false,.bool true,.bool true,.bool false,.bool false]) ?_ 4 _ rfl;(with_reducible repeat (first | refine blk_drewN ?_ _ | refine blk_drew ?_ | refine blk_alloc ?_ _));refine blk_put (cs:=#[.bool false,.bool true,.bool true,.bool false,.bool false]) ?_ 3 _ rfl;(with_reducible repeat (first | refine blk_drewN ?_ _ | refine blk_drew ?_ | refine blk_alloc ?_ _));refine blk_put (cs:=#[.bool false,.bool true,.bool false,.bool false,.bool false]) ?_ 2 _ rfl;(with_reducible repeat (first | refine blk_drewN ?_ _ | refine blk_drew ?_ | refine blk_alloc ?_ _));refine blk_put (cs:=#[.bool false,.bool false,.bool false,.bool false,.bool false]) ?_ 1 _ rfl;(with_reducible repeat (first | refine blk_drewN ?_ _ | refine blk_drew ?_ | refine blk_alloc ?_ _));refine blk_put (cs:=#[.bool false,.bool false,.bool false,.bool false,.bool false]) ?_ 0 _ rfl;(with_reducible repeat (first | refine blk_drewN ?_ _ | refine blk_drew ?_ | refine blk_alloc ?_ _));exact BK276.out) Try.underlying100 rfl (by kernel_rfl)) rfl ?_
    exact ⟨by first | rfl | (simp [*,errW_none,errW_some] <;> rfl),by repeat (with_reducible first | exact HB.out | apply below_alloc | apply pw_below_drewN | apply below_drew1 | refine below_set ?_ GE276.out)⟩
   rw [if_neg c12] at H
   have c12b0 : (a0 == 5) = false:=beq_eq_false_iff_ne.mpr c12
   have c12b1 : (a0 != 5) = true:=bne_iff_ne.mpr c12
   by_cases c14 : a0 = 6
   rotate_left
   ·rw [if_neg c14] at H
    have c14b0 : (a0 == 6) = false:=beq_eq_false_iff_ne.mpr c14
    have c14b1 : (a0 != 6) = true:=bne_iff_ne.mpr c14
    simp only [Option.some.injEq,Prod.mk.injEq] at H
    obtain ⟨rfl,rfl,rfl,rfl,rfl,rfl⟩:=H
    have hcz16_0 : wc.cell? ⟨gb276,0,none⟩ = some (.bool false):=(blk_cell BK276.out 0).trans rfl
    have hcz16_1 : wc.cell? ⟨gb276,1,none⟩ = some (.bool false):=(blk_cell BK276.out 1).trans rfl
    have hcz16_2 : wc.cell? ⟨gb276,2,none⟩ = some (.bool false):=(blk_cell BK276.out 2).trans rfl
    have hcz16_3 : wc.cell? ⟨gb276,3,none⟩ = some (.bool false):=(blk_cell BK276.out 3).trans rfl
    have hcz16_4 : wc.cell? ⟨gb276,4,none⟩ = some (.bool false):=(blk_cell BK276.out 4).trans rfl
    have hfz16_0:=blk_frozen BK276.out 0
    have hfz16_1:=blk_frozen BK276.out 1
    have hfz16_2:=blk_frozen BK276.out 2
    have hfz16_3:=blk_frozen BK276.out 3
    have hfz16_4:=blk_frozen BK276.out 4
    go_wp2
    refine bodyPost_ret (results_ct rfl _ _ gb276 100 #[.bool false,.bool false,.bool false,.bool false,.bool false] (0,0) _ rfl (by (with_reducible repeat (first | refine blk_drewN ?_ _ | refine blk_drew ?_ | refine blk_alloc ?_ _));refine blk_put (cs:=#[.bool false,.bool false,.bool false,.bool false,.bool false]) ?_ 4 _ rfl;(with_reducible repeat (first | refine blk_drewN ?_ _ | refine blk_drew ?_ | refine blk_alloc ?_ _));refine blk_put (cs:=#[.bool false,.bool false,.bool false,.bool false,.bool false]) ?_ 3 _ rfl;(with_reducible repeat (first | refine blk_drewN ?_ _ | refine blk_drew ?_ | refine blk_alloc ?_ _));refine blk_put (cs:=#[.bool false,.bool false,.bool false,.bool false,.bool false]) ?_ 2 _ rfl;(with_reducible repeat (first | refine blk_drewN ?_ _ | refine blk_drew ?_ | refine blk_alloc ?_ _));refine blk_put (cs:=#[.bool false,.bool false,.bool false,.bool false,.bool false]) ?_ 1 _ rfl;(with_reducible repeat (first | refine blk_drewN ?_ _ | refine blk_drew ?_ | refine blk_alloc ?_ _));refine blk_put (cs:=#[.bool false,.bool false,.bool false,.bool false,.bool false]) ?_ 0 _ rfl;(with_reducible repeat (first | refine blk_drewN ?_ _ | refine blk_drew ?_ | refine blk_alloc ?_ _));exact BK276.out) Try.underlying100 rfl (by kernel_rfl)) rfl ?_
    exact ⟨by first | rfl | (simp [*,errW_none,errW_some] <;> rfl),by repeat (with_reducible first | exact HB.out | apply below_alloc | apply pw_below_drewN | apply below_drew1 | refine below_set ?_ GE276.out)⟩
   rw [if_pos c14] at H
   have c14b0 : (a0 == 6) = true:=beq_iff_eq.mpr c14
   have c14b1 : (a0 != 6) = false:=bne_eq_false_iff_eq.mpr c14
   clear c14
   simp only [Option.some.injEq,Prod.mk.injEq] at H
   obtain ⟨rfl,rfl,rfl,rfl,rfl,rfl⟩:=H
   have hcz15_0 : wc.cell? ⟨gb276,0,none⟩ = some (.bool false):=(blk_cell BK276.out 0).trans rfl
   have hcz15_1 : wc.cell? ⟨gb276,1,none⟩ = some (.bool false):=(blk_cell BK276.out 1).trans rfl
   have hcz15_2 : wc.cell? ⟨gb276,2,none⟩ = some (.bool false):=(blk_cell BK276.out 2).trans rfl
   have hcz15_3 : wc.cell? ⟨gb276,3,none⟩ = some (.bool false):=(blk_cell BK276.out 3).trans rfl
   have hcz15_4 : wc.cell? ⟨gb276,4,none⟩ = some (.bool false):=(blk_cell BK276.out 4).trans rfl
   have hfz15_0:=blk_frozen BK276.out 0
   have hfz15_1:=blk_frozen BK276.out 1
   have hfz15_2:=blk_frozen BK276.out 2
   have hfz15_3:=blk_frozen BK276.out 3
   have hfz15_4:=blk_frozen BK276.out 4
   go_wp2
   refine bodyPost_ret (results_ct rfl _ _ gb276 100 #[.bool false,.bool true,.bool false,.bool false,.bool false] (0,0) _ rfl (by (with_reducible repeat (first | refine blk_drewN ?_ _ | refine blk_drew ?_ | refine blk_alloc ?_ _));refine blk_put (cs:=#[.bool false,.bool true,.bool false,.bool false,.bool false]) ?_ 4 _ rfl;(with_reducible repeat (first | refine blk_drewN ?_ _ | refine blk_drew ?_ | refine blk_alloc ?_ _));refine blk_put (cs:=#[.bool false,.bool true,.bool false,.bool false,.bool false]) ?_ 3 _ rfl;(with_reducible repeat (first | refine blk_drewN ?_ _ | refine blk_drew ?_ | refine blk_alloc ?_ _));refine blk_put (cs:=#[.bool false,.bool true,.bool false,.bool false,.bool false]) ?_ 2 _ rfl;(with_reducible repeat (first | refine blk_drewN ?_ _ | refine blk_drew ?_ | refine blk_alloc ?_ _));refine blk_put (cs:=#[.bool false,.bool false,.bool false,.bool false,.bool false]) ?_ 1 _ rfl;(with_reducible repeat (first | refine blk_drewN ?_ _ | refine blk_drew ?_ | refine blk_alloc ?_ _));refine blk_put (cs:=#[.bool false,.bool false,.bool false,.bool false,.bool false]) ?_ 0 _ rfl;(with_reducible repeat (first | refine blk_drewN ?_ _ | refine blk_drew ?_ | refine blk_alloc ?_ _));exact BK276.out) Try.underlying100 rfl (by kernel_rfl)) rfl ?_
   exact ⟨by first | rfl | (simp [*,errW_none,errW_some] <;> rfl),by repeat (with_reducible first | exact HB.out | apply below_alloc | apply pw_below_drewN | apply below_drew1 | refine below_set ?_ GE276.out)⟩

-- NOT PRINTED: function 87 (impl_flatOK_1)

/-! ### impl_isWord: function 88 -/
def impl_isWord.f (a0 : Int) : Option (Bool):=(impl_within.f a0 0 65535).bind fun t277 => (some t277)
set_option maxHeartbeats 8000000 in
set_option maxRecDepth 100000 in
theorem impl_isWord.calls (a0 : Int) (r : Bool) (w : World) (h : impl_isWord.f a0 = some r) :
  Calls Try.prog 88 #[.int .i64 a0] w fun e w' => e = .returned (.bool r) ∧ Drawn0 w w':=by
 have H : ((impl_within.f a0 0 65535).bind fun t277 => (some t277)) = some r:=h
 clear h
 replace H:=Option.bind_eq_some_iff.mp H
 obtain ⟨t277,A20,H⟩:=H
 replace H : (some t277) = some r:=H
 have A2:=Aside0.mk A20
 clear A20
 obtain rfl:=Option.some.inj H
 go_enter Try.func88,Try.ntmps88
 go_wp2_with (first | ((with_reducible refine gate_callee (f:=39) rfl ?_);refine goesL_ (some 4) rfl rfl Try.func39 (by kernel_rfl) rfl #[.int .i64 a0,.int .i64 0,.int .i64 65535] rfl (by (try simp only [List.map_toArray,List.map_cons,List.map_nil]);first | done | rfl | (simp only [List.length_drop,List.length_take];rfl)) ?_;(with_reducible refine (impl_within.calls a0 0 65535 t277 _ A2.out).mono ?_);rintro e w' ⟨rfl,⟨nd,rfl⟩⟩;refine ⟨_,rfl,?_⟩))
 go_ret
 exact ⟨by first | rfl | (simp;done) | (simp [*];done),by repeat (first | exact Drawn0.refl _ | apply Drawn0.step)⟩

/-! ### impl_isTwo: function 89 -/
def impl_isTwo.f (a0 : Int) : Option (Bool):=(impl_within.f a0 4 9).bind fun t278 => (some t278)
set_option maxHeartbeats 8000000 in
set_option maxRecDepth 100000 in
theorem impl_isTwo.calls (a0 : Int) (r : Bool) (w : World) (h : impl_isTwo.f a0 = some r) :
  Calls Try.prog 89 #[.int .i64 a0] w fun e w' => e = .returned (.bool r) ∧ Drawn0 w w':=by
 have H : ((impl_within.f a0 4 9).bind fun t278 => (some t278)) = some r:=h
 clear h
 replace H:=Option.bind_eq_some_iff.mp H
 obtain ⟨t278,A20,H⟩:=H
 replace H : (some t278) = some r:=H
 have A2:=Aside0.mk A20
 clear A20
 obtain rfl:=Option.some.inj H
 go_enter Try.func89,Try.ntmps89
 go_wp2_with (first | ((with_reducible refine gate_callee (f:=39) rfl ?_);refine goesL_ (some 4) rfl rfl Try.func39 (by kernel_rfl) rfl #[.int .i64 a0,.int .i64 4,.int .i64 9] rfl (by (try simp only [List.map_toArray,List.map_cons,List.map_nil]);first | done | rfl | (simp only [List.length_drop,List.length_take];rfl)) ?_;(with_reducible refine (impl_within.calls a0 4 9 t278 _ A2.out).mono ?_);rintro e w' ⟨rfl,⟨nd,rfl⟩⟩;refine ⟨_,rfl,?_⟩))
 go_ret
 exact ⟨by first | rfl | (simp;done) | (simp [*];done),by repeat (first | exact Drawn0.refl _ | apply Drawn0.step)⟩

/-! ### impl_flatOK: function 69 (by hand: a literal that captures how many names there are) -/
theorem flatOK_new1 (w : World) (o1 o2 : Obj) : ((w.alloc o1).alloc o2).heap[w.heap.size + 1]? = some o2:=by
 have h:=heap_alloc_new (w.alloc o1) o2
 rwa [show (w.alloc o1).heap.size = w.heap.size + 1 by simp] at h
/-- The literal: whether a name is right that is there, or nought that is not. -/
def impl_flatOK_1.f (has : Bool) (n many : Int) : Option Bool:=if has = true then impl_within.f n 0 (wrap64 (many - 1)) else (if n = 0 then some true else some false)
set_option maxHeartbeats 8000000 in
set_option maxRecDepth 100000 in
theorem impl_flatOK_1.calls (b : Nat) (has : Bool) (n many : Int) (r : Bool) (w : World) (hbox : w.heap[b]? = some (.cells #[.int .i64 many] 3 (0,0))) (h : impl_flatOK_1.f has n many = some r) :
  Calls Try.prog 87 #[.bool has,.int .i64 n,.pointer (some ⟨b,0,none⟩)] w fun e w' => e = .returned (.bool r) ∧ Drawn0 w w':=by
 unfold impl_flatOK_1.f at h
 have hcz : w.cell? ⟨b,0,none⟩ = some (.int .i64 many):=(blk_cell hbox 0).trans rfl
 have hfz:=blk_frozen hbox 0
 clear hbox
 cases has with
 | true =>
  rw [if_pos rfl] at h
  have A:=Aside0.mk h
  clear h
  go_enter Try.func87,Try.ntmps87
  go_wp2_with (first | (go_at_call 39;(with_reducible refine (impl_within.calls n 0 (wrap64 (many - 1)) r w A.out).mono ?_);rintro e w' ⟨rfl,⟨nd,rfl⟩⟩))
  go_ret
  exact ⟨rfl,⟨nd,rfl⟩⟩
 | false =>
  rw [if_neg (by decide)] at h
  by_cases c : n = 0
  rotate_left
  ·rw [if_neg c] at h
   obtain rfl:=Option.some.inj h
   have e1 : (n == 0) = false:=beq_eq_false_iff_ne.mpr c
   clear c
   go_enter Try.func87,Try.ntmps87
   go_wp2
   go_ret
   exact ⟨rfl,Drawn0.refl _⟩
  rw [if_pos c] at h
  obtain rfl:=Option.some.inj h
  have e1 : (n == 0) = true:=beq_iff_eq.mpr c
  clear c
  go_enter Try.func87,Try.ntmps87
  go_wp2
  go_ret
  exact ⟨rfl,Drawn0.refl _⟩
def impl_flatOK.r (hn hd : Bool) (n d : Int) : Option Bool:=(if hn = true then impl_isWord.f n else (if n = 0 then some true else some false)).bind fun p => (if p = true then (if hd = true then impl_isTwo.f d else (if d = 0 then some true else some false)) else some false)
def impl_flatOK.f (k : Nat) (a0 a1 a2 a3 a4 a5 many : Int) : Option Bool:=(impl_fieldsOf.f k a0).bind fun t => (if t.2.2.2.2.2 = true then ((impl_flatOK_1.f t.1 a2 many).bind fun b1 => (if b1 = true then ((impl_flatOK_1.f t.2.1 a3 many).bind fun b2 => (if b2 = true then ((impl_flatOK_1.f t.2.2.1 a4 many).bind fun b3 => (if b3 = true then (impl_flatOK.r t.2.2.2.1 t.2.2.2.2.1 a5 a1) else (some false))) else (some false))) else (some false))) else (some false))
theorem impl_flatOK.mono : ∀ a0 a1 a2 a3 a4 a5 a6 k,LeO (impl_flatOK.f k a0 a1 a2 a3 a4 a5 a6) (impl_flatOK.f (k + 1) a0 a1 a2 a3 a4 a5 a6):=by
 intro a0 a1 a2 a3 a4 a5 a6 k
 unfold impl_flatOK.f
 repeat' first
   | (with_reducible exact impl_fieldsOf.mono _ _)
   | (with_reducible exact LeO.refl _)
   | (with_reducible exact LeO.none _)
   | (with_reducible refine LeO.ite ?_ ?_)
   | (with_reducible refine LeO.bind ?_ (fun _ => ?_))
/-- The blocks behind the callee and the new one. -/
theorem flat_box {w w1 w2 : World} {a0 a1 a2 a3 a4 a5 : Int} {o : Obj} (HB : Aside0 (Below w.heap.size w w1)) (HX : Aside0 (w1.heap[w.heap.size]? = some (.cells #[.int .i64 a0,.int .i64 a1,.int .i64 a2,.int .i64 a3,.int .i64 a4,.int .i64 a5] 79 (0,0)))) (HM : Aside0 (w1.heap[w.heap.size + 1]? = some o)) (hb : Below w1.heap.size w1 w2) (c : Obj) :
  Aside0 (Below w.heap.size w (w2.alloc c)) ∧ Aside0 ((w2.alloc c).heap[w.heap.size]? = some (.cells #[.int .i64 a0,.int .i64 a1,.int .i64 a2,.int .i64 a3,.int .i64 a4,.int .i64 a5] 79 (0,0))) ∧ Aside0 ((w2.alloc c).heap[w.heap.size + 1]? = some o) ∧ Aside0 ((w2.alloc c).heap[w2.heap.size]? = some c) ∧ (w2.alloc c).cell? ⟨w.heap.size,1,none⟩ = some (.int .i64 a1) ∧ (w2.alloc c).cell? ⟨w.heap.size,2,none⟩ = some (.int .i64 a2) ∧ (w2.alloc c).cell? ⟨w.heap.size,3,none⟩ = some (.int .i64 a3) ∧ (w2.alloc c).cell? ⟨w.heap.size,4,none⟩ = some (.int .i64 a4) ∧ (w2.alloc c).cell? ⟨w.heap.size,5,none⟩ = some (.int .i64 a5):=by
 have h:=blk_alloc (blk_below HX.out hb) c
 exact ⟨⟨below_alloc (below_step HB.out hb) _⟩,⟨h⟩,⟨blk_alloc (blk_below HM.out hb) _⟩,⟨heap_alloc_new w2 c⟩,(blk_cell h 1).trans rfl,(blk_cell h 2).trans rfl,(blk_cell h 3).trans rfl,(blk_cell h 4).trans rfl,(blk_cell h 5).trans rfl⟩
set_option maxHeartbeats 8000000 in
set_option maxRecDepth 100000 in
theorem impl_flatOK.calls (k : Nat) (a0_0 a0_1 a0_2 a0_3 a0_4 a0_5 : Int) (a1 : Int) (r : Bool) (w : World) (h : impl_flatOK.f k a0_0 a0_1 a0_2 a0_3 a0_4 a0_5 a1 = some r) :
  Calls Try.prog 69 #[.agg #[.int .i64 a0_0,.int .i64 a0_1,.int .i64 a0_2,.int .i64 a0_3,.int .i64 a0_4,.int .i64 a0_5],.int .i64 a1] w fun e w' => e = .returned (.bool r) ∧ Below w.heap.size w w':=by
 have hu79:=Try.underlying79
 have hu100:=Try.underlying100
 have HX:=Aside0.mk (blk_alloc (heap_alloc_new w (.cells #[.int .i64 a0_0,.int .i64 a0_1,.int .i64 a0_2,.int .i64 a0_3,.int .i64 a0_4,.int .i64 a0_5] 79)) (.cells #[.int .i64 a1] 3))
 have HM:=Aside0.mk (flatOK_new1 w (.cells #[.int .i64 a0_0,.int .i64 a0_1,.int .i64 a0_2,.int .i64 a0_3,.int .i64 a0_4,.int .i64 a0_5] 79) (.cells #[.int .i64 a1] 3))
 have HB:=Aside0.mk (below_alloc (below_alloc (Below.refl w.heap.size w) (.cells #[.int .i64 a0_0,.int .i64 a0_1,.int .i64 a0_2,.int .i64 a0_3,.int .i64 a0_4,.int .i64 a0_5] 79)) (.cells #[.int .i64 a1] 3))
 have hx0 : ((w.alloc (.cells #[.int .i64 a0_0,.int .i64 a0_1,.int .i64 a0_2,.int .i64 a0_3,.int .i64 a0_4,.int .i64 a0_5] 79)).alloc (.cells #[.int .i64 a1] 3)).cell? ⟨w.heap.size,0,none⟩ = some (.int .i64 a0_0):=(blk_cell HX.out 0).trans rfl
 unfold impl_flatOK.f at h
 obtain ⟨⟨t0,t1,t2,t3,t4,t5⟩,A1,H⟩:=Option.bind_eq_some_iff.mp h
 have A:=Aside0.mk A1
 dsimp only at H
 clear h A1
 cases t5 with
 | false =>
  rw [if_neg (by decide)] at H
  obtain rfl:=Option.some.inj H
  go_enter Try.func69,Try.ntmps69
  go_wp2_with (first | (go_at_call 86;(refine (impl_fieldsOf.calls k a0_0 t0 t1 t2 t3 t4 false _ A.out).mono ?_);rintro e w2 ⟨rfl,hb⟩;obtain ⟨HB2,HX2,HM2,HF2,hx1,hx2,hx3,hx4,hx5⟩:=flat_box HB HX HM hb (.cells #[.bool t0,.bool t1,.bool t2,.bool t3,.bool t4] 100);clear hb))
  go_ret
  exact ⟨rfl,by repeat (first | (with_reducible first | exact HB2.out | apply below_alloc | apply pw_below_drewN | apply below_drew1) | exact HB2.out)⟩
 | true =>
  rw [if_pos rfl] at H
  obtain ⟨b1,B,H⟩:=Option.bind_eq_some_iff.mp H
  have B1:=Aside0.mk B
  clear B
  cases b1 with
  | false =>
   rw [if_neg (by decide)] at H
   obtain rfl:=Option.some.inj H
   go_enter Try.func69,Try.ntmps69
   go_wp2_with (first | (go_at_call 86;(refine (impl_fieldsOf.calls k a0_0 t0 t1 t2 t3 t4 true _ A.out).mono ?_);rintro e w2 ⟨rfl,hb⟩;obtain ⟨HB2,HX2,HM2,HF2,hx1,hx2,hx3,hx4,hx5⟩:=flat_box HB HX HM hb (.cells #[.bool t0,.bool t1,.bool t2,.bool t3,.bool t4] 100);clear hb) | (go_at_call 87;(with_reducible refine (impl_flatOK_1.calls (w.heap.size + 1) t0 a0_2 a1 false _ HM2.out B1.out).mono ?_);rintro e w3 ⟨rfl,⟨n1,rfl⟩⟩))
   go_ret
   exact ⟨rfl,by repeat (first | (with_reducible first | exact HB2.out | apply below_alloc | apply pw_below_drewN | apply below_drew1) | exact HB2.out)⟩
  | true =>
   rw [if_pos rfl] at H
   obtain ⟨b2,B,H⟩:=Option.bind_eq_some_iff.mp H
   have B2:=Aside0.mk B
   clear B
   cases b2 with
   | false =>
    rw [if_neg (by decide)] at H
    obtain rfl:=Option.some.inj H
    go_enter Try.func69,Try.ntmps69
    go_wp2_with (first | (go_at_call 86;(refine (impl_fieldsOf.calls k a0_0 t0 t1 t2 t3 t4 true _ A.out).mono ?_);rintro e w2 ⟨rfl,hb⟩;obtain ⟨HB2,HX2,HM2,HF2,hx1,hx2,hx3,hx4,hx5⟩:=flat_box HB HX HM hb (.cells #[.bool t0,.bool t1,.bool t2,.bool t3,.bool t4] 100);clear hb) | (go_at_call 87;(with_reducible refine (impl_flatOK_1.calls (w.heap.size + 1) t0 a0_2 a1 true _ HM2.out B1.out).mono ?_);rintro e w3 ⟨rfl,⟨n1,rfl⟩⟩) | (go_at_call 87;(with_reducible refine (impl_flatOK_1.calls (w.heap.size + 1) t1 a0_3 a1 false _ (blk_drewN HM2.out _) B2.out).mono ?_);rintro e w4 ⟨rfl,⟨n2,rfl⟩⟩))
    go_ret
    exact ⟨rfl,by repeat (first | (with_reducible first | exact HB2.out | apply below_alloc | apply pw_below_drewN | apply below_drew1) | exact HB2.out)⟩
   | true =>
    rw [if_pos rfl] at H
    obtain ⟨b3,B,H⟩:=Option.bind_eq_some_iff.mp H
    have B3:=Aside0.mk B
    clear B
    cases b3 with
    | false =>
     rw [if_neg (by decide)] at H
     obtain rfl:=Option.some.inj H
     go_enter Try.func69,Try.ntmps69
     go_wp2_with (first | (go_at_call 86;(refine (impl_fieldsOf.calls k a0_0 t0 t1 t2 t3 t4 true _ A.out).mono ?_);rintro e w2 ⟨rfl,hb⟩;obtain ⟨HB2,HX2,HM2,HF2,hx1,hx2,hx3,hx4,hx5⟩:=flat_box HB HX HM hb (.cells #[.bool t0,.bool t1,.bool t2,.bool t3,.bool t4] 100);clear hb) | (go_at_call 87;(with_reducible refine (impl_flatOK_1.calls (w.heap.size + 1) t0 a0_2 a1 true _ HM2.out B1.out).mono ?_);rintro e w3 ⟨rfl,⟨n1,rfl⟩⟩) | (go_at_call 87;(with_reducible refine (impl_flatOK_1.calls (w.heap.size + 1) t1 a0_3 a1 true _ (blk_drewN HM2.out _) B2.out).mono ?_);rintro e w4 ⟨rfl,⟨n2,rfl⟩⟩) | (go_at_call 87;(with_reducible refine (impl_flatOK_1.calls (w.heap.size + 1) t2 a0_4 a1 false _ (blk_drewN HM2.out _) B3.out).mono ?_);rintro e w5 ⟨rfl,⟨n3,rfl⟩⟩))
     go_ret
     exact ⟨rfl,by repeat (first | (with_reducible first | exact HB2.out | apply below_alloc | apply pw_below_drewN | apply below_drew1) | exact HB2.out)⟩
    | true =>
     rw [if_pos rfl] at H
     unfold impl_flatOK.r at H
     obtain ⟨p,P,H⟩:=Option.bind_eq_some_iff.mp H
     cases t3 with
     | true =>
      rw [if_pos rfl] at P
      have PW:=Aside0.mk P
      clear P
      cases p with
      | false =>
       rw [if_neg (by decide)] at H
       obtain rfl:=Option.some.inj H
       clear H
       go_enter Try.func69,Try.ntmps69
       go_wp2_with (first | (go_at_call 86;(refine (impl_fieldsOf.calls k a0_0 t0 t1 t2 true t4 true _ A.out).mono ?_);rintro e w2 ⟨rfl,hb⟩;obtain ⟨HB2,HX2,HM2,HF2,hx1,hx2,hx3,hx4,hx5⟩:=flat_box HB HX HM hb (.cells #[.bool t0,.bool t1,.bool t2,.bool true,.bool t4] 100);clear hb) | (go_at_call 87;(with_reducible refine (impl_flatOK_1.calls (w.heap.size + 1) t0 a0_2 a1 true _ HM2.out B1.out).mono ?_);rintro e w3 ⟨rfl,⟨n1,rfl⟩⟩) | (go_at_call 87;(with_reducible refine (impl_flatOK_1.calls (w.heap.size + 1) t1 a0_3 a1 true _ (blk_drewN HM2.out _) B2.out).mono ?_);rintro e w4 ⟨rfl,⟨n2,rfl⟩⟩) | (go_at_call 87;(with_reducible refine (impl_flatOK_1.calls (w.heap.size + 1) t2 a0_4 a1 true _ (blk_drewN HM2.out _) B3.out).mono ?_);rintro e w5 ⟨rfl,⟨n3,rfl⟩⟩) | (go_at_call 88;(with_reducible refine (impl_isWord.calls a0_5 false _ PW.out).mono ?_);rintro e w6 ⟨rfl,⟨n6,rfl⟩⟩))
       go_ret
       exact ⟨rfl,by repeat (first | (with_reducible first | exact HB2.out | apply below_alloc | apply pw_below_drewN | apply below_drew1) | exact HB2.out)⟩
      | true =>
       rw [if_pos rfl] at H
       cases t4 with
       | true =>
        rw [if_pos rfl] at H
        have PT:=Aside0.mk H
        clear H
        cases r with
        | true =>
         go_enter Try.func69,Try.ntmps69
         go_wp2_with (first | (go_at_call 86;(refine (impl_fieldsOf.calls k a0_0 t0 t1 t2 true true true _ A.out).mono ?_);rintro e w2 ⟨rfl,hb⟩;obtain ⟨HB2,HX2,HM2,HF2,hx1,hx2,hx3,hx4,hx5⟩:=flat_box HB HX HM hb (.cells #[.bool t0,.bool t1,.bool t2,.bool true,.bool true] 100);clear hb) | (go_at_call 87;(with_reducible refine (impl_flatOK_1.calls (w.heap.size + 1) t0 a0_2 a1 true _ HM2.out B1.out).mono ?_);rintro e w3 ⟨rfl,⟨n1,rfl⟩⟩) | (go_at_call 87;(with_reducible refine (impl_flatOK_1.calls (w.heap.size + 1) t1 a0_3 a1 true _ (blk_drewN HM2.out _) B2.out).mono ?_);rintro e w4 ⟨rfl,⟨n2,rfl⟩⟩) | (go_at_call 87;(with_reducible refine (impl_flatOK_1.calls (w.heap.size + 1) t2 a0_4 a1 true _ (blk_drewN HM2.out _) B3.out).mono ?_);rintro e w5 ⟨rfl,⟨n3,rfl⟩⟩) | (go_at_call 88;(with_reducible refine (impl_isWord.calls a0_5 true _ PW.out).mono ?_);rintro e w6 ⟨rfl,⟨n6,rfl⟩⟩) | (go_at_call 89;(with_reducible refine (impl_isTwo.calls a0_1 true _ PT.out).mono ?_);rintro e w7 ⟨rfl,⟨n7,rfl⟩⟩))
         go_ret
         exact ⟨rfl,by repeat (first | (with_reducible first | exact HB2.out | apply below_alloc | apply pw_below_drewN | apply below_drew1) | exact HB2.out)⟩
        | false =>
         go_enter Try.func69,Try.ntmps69
         go_wp2_with (first | (go_at_call 86;(refine (impl_fieldsOf.calls k a0_0 t0 t1 t2 true true true _ A.out).mono ?_);rintro e w2 ⟨rfl,hb⟩;obtain ⟨HB2,HX2,HM2,HF2,hx1,hx2,hx3,hx4,hx5⟩:=flat_box HB HX HM hb (.cells #[.bool t0,.bool t1,.bool t2,.bool true,.bool true] 100);clear hb) | (go_at_call 87;(with_reducible refine (impl_flatOK_1.calls (w.heap.size + 1) t0 a0_2 a1 true _ HM2.out B1.out).mono ?_);rintro e w3 ⟨rfl,⟨n1,rfl⟩⟩) | (go_at_call 87;(with_reducible refine (impl_flatOK_1.calls (w.heap.size + 1) t1 a0_3 a1 true _ (blk_drewN HM2.out _) B2.out).mono ?_);rintro e w4 ⟨rfl,⟨n2,rfl⟩⟩) | (go_at_call 87;(with_reducible refine (impl_flatOK_1.calls (w.heap.size + 1) t2 a0_4 a1 true _ (blk_drewN HM2.out _) B3.out).mono ?_);rintro e w5 ⟨rfl,⟨n3,rfl⟩⟩) | (go_at_call 88;(with_reducible refine (impl_isWord.calls a0_5 true _ PW.out).mono ?_);rintro e w6 ⟨rfl,⟨n6,rfl⟩⟩) | (go_at_call 89;(with_reducible refine (impl_isTwo.calls a0_1 false _ PT.out).mono ?_);rintro e w7 ⟨rfl,⟨n7,rfl⟩⟩))
         go_ret
         exact ⟨rfl,by repeat (first | (with_reducible first | exact HB2.out | apply below_alloc | apply pw_below_drewN | apply below_drew1) | exact HB2.out)⟩
       | false =>
        rw [if_neg (by decide)] at H
        by_cases cq : a0_1 = 0
        rotate_left
        ·rw [if_neg cq] at H
         obtain rfl:=Option.some.inj H
         have eq1 : (a0_1 == 0) = false:=beq_eq_false_iff_ne.mpr cq
         clear cq H
         go_enter Try.func69,Try.ntmps69
         go_wp2_with (first | (go_at_call 86;(refine (impl_fieldsOf.calls k a0_0 t0 t1 t2 true false true _ A.out).mono ?_);rintro e w2 ⟨rfl,hb⟩;obtain ⟨HB2,HX2,HM2,HF2,hx1,hx2,hx3,hx4,hx5⟩:=flat_box HB HX HM hb (.cells #[.bool t0,.bool t1,.bool t2,.bool true,.bool false] 100);clear hb) | (go_at_call 87;(with_reducible refine (impl_flatOK_1.calls (w.heap.size + 1) t0 a0_2 a1 true _ HM2.out B1.out).mono ?_);rintro e w3 ⟨rfl,⟨n1,rfl⟩⟩) | (go_at_call 87;(with_reducible refine (impl_flatOK_1.calls (w.heap.size + 1) t1 a0_3 a1 true _ (blk_drewN HM2.out _) B2.out).mono ?_);rintro e w4 ⟨rfl,⟨n2,rfl⟩⟩) | (go_at_call 87;(with_reducible refine (impl_flatOK_1.calls (w.heap.size + 1) t2 a0_4 a1 true _ (blk_drewN HM2.out _) B3.out).mono ?_);rintro e w5 ⟨rfl,⟨n3,rfl⟩⟩) | (go_at_call 88;(with_reducible refine (impl_isWord.calls a0_5 true _ PW.out).mono ?_);rintro e w6 ⟨rfl,⟨n6,rfl⟩⟩))
         go_ret
         exact ⟨rfl,by repeat (first | (with_reducible first | exact HB2.out | apply below_alloc | apply pw_below_drewN | apply below_drew1) | exact HB2.out)⟩
        rw [if_pos cq] at H
        obtain rfl:=Option.some.inj H
        have eq1 : (a0_1 == 0) = true:=beq_iff_eq.mpr cq
        clear cq H
        go_enter Try.func69,Try.ntmps69
        go_wp2_with (first | (go_at_call 86;(refine (impl_fieldsOf.calls k a0_0 t0 t1 t2 true false true _ A.out).mono ?_);rintro e w2 ⟨rfl,hb⟩;obtain ⟨HB2,HX2,HM2,HF2,hx1,hx2,hx3,hx4,hx5⟩:=flat_box HB HX HM hb (.cells #[.bool t0,.bool t1,.bool t2,.bool true,.bool false] 100);clear hb) | (go_at_call 87;(with_reducible refine (impl_flatOK_1.calls (w.heap.size + 1) t0 a0_2 a1 true _ HM2.out B1.out).mono ?_);rintro e w3 ⟨rfl,⟨n1,rfl⟩⟩) | (go_at_call 87;(with_reducible refine (impl_flatOK_1.calls (w.heap.size + 1) t1 a0_3 a1 true _ (blk_drewN HM2.out _) B2.out).mono ?_);rintro e w4 ⟨rfl,⟨n2,rfl⟩⟩) | (go_at_call 87;(with_reducible refine (impl_flatOK_1.calls (w.heap.size + 1) t2 a0_4 a1 true _ (blk_drewN HM2.out _) B3.out).mono ?_);rintro e w5 ⟨rfl,⟨n3,rfl⟩⟩) | (go_at_call 88;(with_reducible refine (impl_isWord.calls a0_5 true _ PW.out).mono ?_);rintro e w6 ⟨rfl,⟨n6,rfl⟩⟩))
        go_ret
        exact ⟨rfl,by repeat (first | (with_reducible first | exact HB2.out | apply below_alloc | apply pw_below_drewN | apply below_drew1) | exact HB2.out)⟩
     | false =>
      rw [if_neg (by decide)] at P
      by_cases cn : a0_5 = 0
      rotate_left
      ·rw [if_neg cn] at P
       obtain rfl:=Option.some.inj P
       have en1 : (a0_5 == 0) = false:=beq_eq_false_iff_ne.mpr cn
       clear cn P
       rw [if_neg (by decide)] at H
       obtain rfl:=Option.some.inj H
       clear H
       go_enter Try.func69,Try.ntmps69
       go_wp2_with (first | (go_at_call 86;(refine (impl_fieldsOf.calls k a0_0 t0 t1 t2 false t4 true _ A.out).mono ?_);rintro e w2 ⟨rfl,hb⟩;obtain ⟨HB2,HX2,HM2,HF2,hx1,hx2,hx3,hx4,hx5⟩:=flat_box HB HX HM hb (.cells #[.bool t0,.bool t1,.bool t2,.bool false,.bool t4] 100);clear hb) | (go_at_call 87;(with_reducible refine (impl_flatOK_1.calls (w.heap.size + 1) t0 a0_2 a1 true _ HM2.out B1.out).mono ?_);rintro e w3 ⟨rfl,⟨n1,rfl⟩⟩) | (go_at_call 87;(with_reducible refine (impl_flatOK_1.calls (w.heap.size + 1) t1 a0_3 a1 true _ (blk_drewN HM2.out _) B2.out).mono ?_);rintro e w4 ⟨rfl,⟨n2,rfl⟩⟩) | (go_at_call 87;(with_reducible refine (impl_flatOK_1.calls (w.heap.size + 1) t2 a0_4 a1 true _ (blk_drewN HM2.out _) B3.out).mono ?_);rintro e w5 ⟨rfl,⟨n3,rfl⟩⟩))
       go_ret
       exact ⟨rfl,by repeat (first | (with_reducible first | exact HB2.out | apply below_alloc | apply pw_below_drewN | apply below_drew1) | exact HB2.out)⟩
      rw [if_pos cn] at P
      obtain rfl:=Option.some.inj P
      have en1 : (a0_5 == 0) = true:=beq_iff_eq.mpr cn
      clear cn P
      rw [if_pos rfl] at H
      cases t4 with
      | true =>
       rw [if_pos rfl] at H
       have PT:=Aside0.mk H
       clear H
       cases r with
       | true =>
        go_enter Try.func69,Try.ntmps69
        go_wp2_with (first | (go_at_call 86;(refine (impl_fieldsOf.calls k a0_0 t0 t1 t2 false true true _ A.out).mono ?_);rintro e w2 ⟨rfl,hb⟩;obtain ⟨HB2,HX2,HM2,HF2,hx1,hx2,hx3,hx4,hx5⟩:=flat_box HB HX HM hb (.cells #[.bool t0,.bool t1,.bool t2,.bool false,.bool true] 100);clear hb) | (go_at_call 87;(with_reducible refine (impl_flatOK_1.calls (w.heap.size + 1) t0 a0_2 a1 true _ HM2.out B1.out).mono ?_);rintro e w3 ⟨rfl,⟨n1,rfl⟩⟩) | (go_at_call 87;(with_reducible refine (impl_flatOK_1.calls (w.heap.size + 1) t1 a0_3 a1 true _ (blk_drewN HM2.out _) B2.out).mono ?_);rintro e w4 ⟨rfl,⟨n2,rfl⟩⟩) | (go_at_call 87;(with_reducible refine (impl_flatOK_1.calls (w.heap.size + 1) t2 a0_4 a1 true _ (blk_drewN HM2.out _) B3.out).mono ?_);rintro e w5 ⟨rfl,⟨n3,rfl⟩⟩) | (go_at_call 89;(with_reducible refine (impl_isTwo.calls a0_1 true _ PT.out).mono ?_);rintro e w7 ⟨rfl,⟨n7,rfl⟩⟩))
        go_ret
        exact ⟨rfl,by repeat (first | (with_reducible first | exact HB2.out | apply below_alloc | apply pw_below_drewN | apply below_drew1) | exact HB2.out)⟩
       | false =>
        go_enter Try.func69,Try.ntmps69
        go_wp2_with (first | (go_at_call 86;(refine (impl_fieldsOf.calls k a0_0 t0 t1 t2 false true true _ A.out).mono ?_);rintro e w2 ⟨rfl,hb⟩;obtain ⟨HB2,HX2,HM2,HF2,hx1,hx2,hx3,hx4,hx5⟩:=flat_box HB HX HM hb (.cells #[.bool t0,.bool t1,.bool t2,.bool false,.bool true] 100);clear hb) | (go_at_call 87;(with_reducible refine (impl_flatOK_1.calls (w.heap.size + 1) t0 a0_2 a1 true _ HM2.out B1.out).mono ?_);rintro e w3 ⟨rfl,⟨n1,rfl⟩⟩) | (go_at_call 87;(with_reducible refine (impl_flatOK_1.calls (w.heap.size + 1) t1 a0_3 a1 true _ (blk_drewN HM2.out _) B2.out).mono ?_);rintro e w4 ⟨rfl,⟨n2,rfl⟩⟩) | (go_at_call 87;(with_reducible refine (impl_flatOK_1.calls (w.heap.size + 1) t2 a0_4 a1 true _ (blk_drewN HM2.out _) B3.out).mono ?_);rintro e w5 ⟨rfl,⟨n3,rfl⟩⟩) | (go_at_call 89;(with_reducible refine (impl_isTwo.calls a0_1 false _ PT.out).mono ?_);rintro e w7 ⟨rfl,⟨n7,rfl⟩⟩))
        go_ret
        exact ⟨rfl,by repeat (first | (with_reducible first | exact HB2.out | apply below_alloc | apply pw_below_drewN | apply below_drew1) | exact HB2.out)⟩
      | false =>
       rw [if_neg (by decide)] at H
       by_cases cq : a0_1 = 0
       rotate_left
       ·rw [if_neg cq] at H
        obtain rfl:=Option.some.inj H
        have eq1 : (a0_1 == 0) = false:=beq_eq_false_iff_ne.mpr cq
        clear cq H
        go_enter Try.func69,Try.ntmps69
        go_wp2_with (first | (go_at_call 86;(refine (impl_fieldsOf.calls k a0_0 t0 t1 t2 false false true _ A.out).mono ?_);rintro e w2 ⟨rfl,hb⟩;obtain ⟨HB2,HX2,HM2,HF2,hx1,hx2,hx3,hx4,hx5⟩:=flat_box HB HX HM hb (.cells #[.bool t0,.bool t1,.bool t2,.bool false,.bool false] 100);clear hb) | (go_at_call 87;(with_reducible refine (impl_flatOK_1.calls (w.heap.size + 1) t0 a0_2 a1 true _ HM2.out B1.out).mono ?_);rintro e w3 ⟨rfl,⟨n1,rfl⟩⟩) | (go_at_call 87;(with_reducible refine (impl_flatOK_1.calls (w.heap.size + 1) t1 a0_3 a1 true _ (blk_drewN HM2.out _) B2.out).mono ?_);rintro e w4 ⟨rfl,⟨n2,rfl⟩⟩) | (go_at_call 87;(with_reducible refine (impl_flatOK_1.calls (w.heap.size + 1) t2 a0_4 a1 true _ (blk_drewN HM2.out _) B3.out).mono ?_);rintro e w5 ⟨rfl,⟨n3,rfl⟩⟩))
        go_ret
        exact ⟨rfl,by repeat (first | (with_reducible first | exact HB2.out | apply below_alloc | apply pw_below_drewN | apply below_drew1) | exact HB2.out)⟩
       rw [if_pos cq] at H
       obtain rfl:=Option.some.inj H
       have eq1 : (a0_1 == 0) = true:=beq_iff_eq.mpr cq
       clear cq H
       go_enter Try.func69,Try.ntmps69
       go_wp2_with (first | (go_at_call 86;(refine (impl_fieldsOf.calls k a0_0 t0 t1 t2 false false true _ A.out).mono ?_);rintro e w2 ⟨rfl,hb⟩;obtain ⟨HB2,HX2,HM2,HF2,hx1,hx2,hx3,hx4,hx5⟩:=flat_box HB HX HM hb (.cells #[.bool t0,.bool t1,.bool t2,.bool false,.bool false] 100);clear hb) | (go_at_call 87;(with_reducible refine (impl_flatOK_1.calls (w.heap.size + 1) t0 a0_2 a1 true _ HM2.out B1.out).mono ?_);rintro e w3 ⟨rfl,⟨n1,rfl⟩⟩) | (go_at_call 87;(with_reducible refine (impl_flatOK_1.calls (w.heap.size + 1) t1 a0_3 a1 true _ (blk_drewN HM2.out _) B2.out).mono ?_);rintro e w4 ⟨rfl,⟨n2,rfl⟩⟩) | (go_at_call 87;(with_reducible refine (impl_flatOK_1.calls (w.heap.size + 1) t2 a0_4 a1 true _ (blk_drewN HM2.out _) B3.out).mono ?_);rintro e w5 ⟨rfl,⟨n3,rfl⟩⟩))
       go_ret
       exact ⟨rfl,by repeat (first | (with_reducible first | exact HB2.out | apply below_alloc | apply pw_below_drewN | apply below_drew1) | exact HB2.out)⟩

-- NOT PRINTED: function 68 (impl_codeOK_1)

/-! ### impl_codeOK: function 42 (by hand: a literal that captures how many names there are) -/
/-- The literal: whether a step is not right. -/
def impl_codeOK_1.f (k : Nat) (many : Int) (x : S79) : Option Bool:=(impl_flatOK.f k x.f0 x.f1 x.f2 x.f3 x.f4 x.f5 many).bind fun t => some (!t)
theorem impl_codeOK_1.mono : ∀ a0 a1 k,LeO (impl_codeOK_1.f k a0 a1) (impl_codeOK_1.f (k + 1) a0 a1):=fun _ _ _ => LeO.bind (impl_flatOK.mono _ _ _ _ _ _ _ _) (fun _ => LeO.refl _)
set_option maxHeartbeats 8000000 in
set_option maxRecDepth 100000 in
theorem impl_codeOK_1.calls (k : Nat) (b : Nat) (many : Int) (x : S79) (r : Bool) (w : World) (hbox : w.heap[b]? = some (.cells #[.int .i64 many] 3 (0,0))) (h : impl_codeOK_1.f k many x = some r) :
  Calls Try.prog 68 #[.agg #[.int .i64 x.f0,.int .i64 x.f1,.int .i64 x.f2,.int .i64 x.f3,.int .i64 x.f4,.int .i64 x.f5],.pointer (some ⟨b,0,none⟩)] w fun e w' => e = .returned (.bool r) ∧ Below w.heap.size w w':=by
 have hu79:=Try.underlying79
 obtain ⟨t,A1_,H⟩:=Option.bind_eq_some_iff.mp h
 obtain rfl:=Option.some.inj H
 have A:=Aside0.mk A1_
 clear h H A1_
 have hcz : (w.alloc (.cells #[.int .i64 x.f0,.int .i64 x.f1,.int .i64 x.f2,.int .i64 x.f3,.int .i64 x.f4,.int .i64 x.f5] 79)).cell? ⟨b,0,none⟩ = some (.int .i64 many):=(blk_cell (blk_alloc hbox (.cells #[.int .i64 x.f0,.int .i64 x.f1,.int .i64 x.f2,.int .i64 x.f3,.int .i64 x.f4,.int .i64 x.f5] 79)) 0).trans rfl
 have HB:=Aside0.mk (below_alloc (Below.refl w.heap.size w) (.cells #[.int .i64 x.f0,.int .i64 x.f1,.int .i64 x.f2,.int .i64 x.f3,.int .i64 x.f4,.int .i64 x.f5] 79))
 clear hbox
 go_enter Try.func68,Try.ntmps68
 go_wp2_with (first | (go_at_call 69;(refine (impl_flatOK.calls k x.f0 x.f1 x.f2 x.f3 x.f4 x.f5 many t _ A.out).mono ?_);rintro e w6 ⟨rfl,hb⟩;have HB6:=Aside0.mk (below_step HB.out hb);clear hb))
 go_ret
 exact ⟨rfl,HB6.out⟩
/-- slices.IndexFunc with that literal. -/
def impl_codeOK_1_ix.l0 : Nat → Int → List S79 → Int → Option Int
 | 0,_,_,_ => none
 | k + 1,n,xs,i => if i < (xs.length : Int) then (if 0 ≤ i then ((impl_codeOK_1.f k n (rd_T79 xs i)).bind fun t => (if t = true then (some i) else (impl_codeOK_1_ix.l0 k n xs (wrap64 (i + 1))))) else none) else some (-1)
theorem impl_codeOK_1_ix.mono_l : ∀ k,∀ y0 y1 y2,LeO (impl_codeOK_1_ix.l0 k y0 y1 y2) (impl_codeOK_1_ix.l0 (k + 1) y0 y1 y2)
 | 0 => fun _ _ _ r h => by simp [impl_codeOK_1_ix.l0] at h
 | k + 1 => by
  have ih0:=impl_codeOK_1_ix.mono_l k
  intro y0 y1 y2
  unfold impl_codeOK_1_ix.l0
  repeat' first
   | (with_reducible exact ih0 _ _ _)
   | (with_reducible exact impl_codeOK_1.mono _ _ _)
   | (with_reducible exact LeO.refl _)
   | (with_reducible exact LeO.none _)
   | (with_reducible refine LeO.ite ?_ ?_)
   | (with_reducible refine LeO.bind ?_ (fun _ => ?_))
theorem impl_codeOK_1_ix.mono : ∀ y0 y1 y2 k,LeO (impl_codeOK_1_ix.l0 k y0 y1 y2) (impl_codeOK_1_ix.l0 (k + 1) y0 y1 y2):=fun y0 y1 y2 k => impl_codeOK_1_ix.mono_l k y0 y1 y2
set_option maxHeartbeats 8000000 in
set_option maxRecDepth 100000 in
theorem impl_codeOK_1_ix.calls (k : Nat) (b : Nat) (many : Int) (A1 : Option Addr) (c1 : Nat) (xs : List S79) (r : Int) (w : World) (hbox : w.heap[b]? = some (.cells #[.int .i64 many] 3 (0,0))) (hr1 : Kd.C k79 w A1 xs.length xs) (h : impl_codeOK_1_ix.l0 k many xs 0 = some r) :
  Calls Try.prog 85 #[.slice A1 xs.length c1,.func (.func 68) #[] #[.pointer (some ⟨b,0,none⟩)]] w fun e w' => e = .returned (.int .i64 r) ∧ Below w.heap.size w w':=by
 have huT:=Try.underlying79
 have HR0:=Aside0.mk hr1
 have HB0:=Aside0.mk hbox
 have H':=Aside0.mk h
 clear hr1 hbox h
 go_enter Try.func85,Try.ntmps85
 go_wp2
 go_loopg [8] k (fun kq v8 w' => ∃ (x8_1 : Int),v8 = .int .i64 x8_1 ∧ Aside0 (impl_codeOK_1_ix.l0 kq many xs x8_1 = some r) ∧ Aside0 (kq ≤ k) ∧ Aside0 (Below w.heap.size w w'))
 case atStart => exact ⟨0,rfl,H',⟨Nat.le_refl _⟩,⟨Below.refl _ _⟩⟩
 case round =>
  clear H'
  obtain ⟨x8_1,rfl,HA,HK1,HB⟩:=hrel
  cases gk with
  | zero => exact absurd HA.out (by simp [impl_codeOK_1_ix.l0])
  | succ k1 =>
   have H:=HA.out
   clear HA
   simp only [impl_codeOK_1_ix.l0] at H
   by_cases c3 : x8_1 < (xs.length : Int)
   rotate_left
   ·rw [if_neg c3] at H
    have c3b0 : decide (x8_1 < (xs.length : Int)) = false:=decide_eq_false c3
    clear c3
    obtain rfl:=Option.some.inj H
    go_wp2
    go_ret
    exact ⟨rfl,HB.out⟩
   rw [if_pos c3] at H
   have c3b0 : decide (x8_1 < (xs.length : Int)) = true:=decide_eq_true c3
   by_cases c4 : 0 ≤ x8_1
   rotate_left
   ·rw [if_neg c4] at H
    exact absurd H (by simp)
   rw [if_pos c4] at H
   have c4b0 : decide (0 ≤ x8_1) = true:=decide_eq_true c4
   obtain ⟨t,A60,H⟩:=Option.bind_eq_some_iff.mp H
   obtain ⟨ad,eA,hx0,hx1,hx2,hx3,hx4,hx5⟩:=at_T79 (Kd.C_below HR0.out HB.out) x8_1 c4 c3
   cases eA
   obtain ⟨y,hy⟩ : ∃ y,y = rd_T79 xs x8_1:=⟨_,rfl⟩
   rw [← hy] at hx0 hx1 hx2 hx3 hx4 hx5 A60
   have A6:=Aside0.mk A60
   skip
   clear A60 hy
   have p3:=eq_true c3
   have p4:=eq_true c4
   clear c3 c4
   cases t with
   | true =>
    rw [if_pos rfl] at H
    obtain rfl:=Option.some.inj H
    go_wp2_with (first | (go_at_call 68;(refine (impl_codeOK_1.calls k1 b many y true _ (blk_below HB0.out HB.out)  A6.out).mono ?_);rintro e w6 ⟨rfl,hb⟩;have HB6:=Aside0.mk (below_step HB.out hb);clear hb))
    go_ret
    exact ⟨rfl,HB6.out⟩
   | false =>
    rw [if_neg (by decide)] at H
    have H':=Aside0.mk H
    clear H
    go_wp2_with (first | (go_at_call 68;(refine (impl_codeOK_1.calls k1 b many y false _ (blk_below HB0.out HB.out)  A6.out).mono ?_);rintro e w6 ⟨rfl,hb⟩;have HB6:=Aside0.mk (below_step HB.out hb);clear hb))
    go_roundg k1
    case measure => have:=HK1.out;omega
    case rel => exact ⟨(wrap64 (x8_1 + 1)),rfl,H',⟨by have:=HK1.out;omega⟩,HB6⟩
set_option maxHeartbeats 8000000 in
set_option maxRecDepth 100000 in
theorem impl_codeOK_1_cf.calls (k : Nat) (b : Nat) (many : Int) (A1 : Option Addr) (c1 : Nat) (xs : List S79) (r : Int) (w : World) (hbox : w.heap[b]? = some (.cells #[.int .i64 many] 3 (0,0))) (hr1 : Kd.C k79 w A1 xs.length xs) (h : impl_codeOK_1_ix.l0 k many xs 0 = some r) :
  Calls Try.prog 67 #[.slice A1 xs.length c1,.func (.func 68) #[] #[.pointer (some ⟨b,0,none⟩)]] w fun e w' => e = .returned (.bool (decide (r ≥ 0))) ∧ Below w.heap.size w w':=by
 have HR0:=Aside0.mk hr1
 have HB0:=Aside0.mk hbox
 have H':=Aside0.mk h
 clear hr1 hbox h
 go_enter Try.func67,Try.ntmps67
 go_wp2_with (first | (go_at_call 85;(refine (impl_codeOK_1_ix.calls k b many A1 c1 xs r _ HB0.out HR0.out H'.out).mono ?_);rintro e w6 ⟨rfl,hb⟩;have HB6:=Aside0.mk hb;clear hb))
 go_ret
 exact ⟨rfl,HB6.out⟩
def impl_codeOK.f (k : Nat) (l : List S79) (many : Int) : Option Bool:=if (l.length : Int) ≤ 60 then ((impl_codeOK_1_ix.l0 k many l 0).bind fun i => (some (!decide (i ≥ 0)))) else some false
theorem impl_codeOK.mono : ∀ a0 a1 k,LeO (impl_codeOK.f k a0 a1) (impl_codeOK.f (k + 1) a0 a1):=by
 intro a0 a1 k
 unfold impl_codeOK.f
 repeat' first
   | (with_reducible exact impl_codeOK_1_ix.mono _ _ _ _)
   | (with_reducible exact LeO.refl _)
   | (with_reducible exact LeO.none _)
   | (with_reducible refine LeO.ite ?_ ?_)
   | (with_reducible refine LeO.bind ?_ (fun _ => ?_))
set_option maxHeartbeats 8000000 in
set_option maxRecDepth 100000 in
theorem impl_codeOK.calls (k : Nat) (A0 : Option Addr) (c0 : Nat) (l0 : List S79) (a1 : Int) (r : Bool) (w : World) (hr0 : Kd.C k79 w A0 l0.length l0) (hc0 : l0.length ≤ c0) (h : impl_codeOK.f k l0 a1 = some r) :
  Calls Try.prog 42 #[.slice A0 l0.length c0,.int .i64 a1] w fun e w' => e = .returned (.bool r) ∧ Below w.heap.size w w':=by
 have HR0:=Aside0.mk hr0
 have HBX:=Aside0.mk (heap_alloc_new w (.cells #[.int .i64 a1] 3))
 have HB:=Aside0.mk (below_alloc (Below.refl w.heap.size w) (.cells #[.int .i64 a1] 3))
 clear hr0 hc0
 unfold impl_codeOK.f at h
 by_cases c : (l0.length : Int) ≤ 60
 rotate_left
 ·rw [if_neg c] at h
  obtain rfl:=Option.some.inj h
  have cb : decide ((l0.length : Int) ≤ 60) = false:=decide_eq_false c
  clear h c
  go_enter Try.func42,Try.ntmps42
  go_wp2
  go_ret
  exact ⟨rfl,HB.out⟩
 rw [if_pos c] at h
 obtain ⟨i,B1,H⟩:=Option.bind_eq_some_iff.mp h
 obtain rfl:=Option.some.inj H
 have B:=Aside0.mk B1
 have cb : decide ((l0.length : Int) ≤ 60) = true:=decide_eq_true c
 have p3:=eq_true c
 clear B1 H h c
 go_enter Try.func42,Try.ntmps42
 go_wp2_with (first | (go_at_call 67;(refine (impl_codeOK_1_cf.calls k w.heap.size a1 A0 c0 l0 i _ HBX.out (Kd.C_below HR0.out HB.out) B.out).mono ?_);rintro e w6 ⟨rfl,hb⟩;have HB6:=Aside0.mk (below_step HB.out hb);clear hb))
 go_ret
 exact ⟨rfl,HB6.out⟩


/-! ### impl_tests: function 70 -/
def impl_tests.f (a0 : Int) : Option (Bool):=if a0 = 2 then (some true) else (some (a0 == 5))
set_option maxHeartbeats 8000000 in
set_option maxRecDepth 100000 in
theorem impl_tests.calls (a0 : Int) (r : Bool) (w : World) (h : impl_tests.f a0 = some r) :
  Calls Try.prog 70 #[.int .i64 a0] w fun e w' => e = .returned (.bool r) ∧ Drawn0 w w':=by
 have H : (if a0 = 2 then (some true) else (some (a0 == 5))) = some r:=h
 clear h
 by_cases c2 : a0 = 2
 rotate_left
 ·rw [if_neg c2] at H
  have c2b0 : (a0 == 2) = false:=beq_eq_false_iff_ne.mpr c2
  have c2b1 : (a0 != 2) = true:=bne_iff_ne.mpr c2
  obtain rfl:=Option.some.inj H
  go_enter Try.func70,Try.ntmps70
  go_wp2
  go_ret
  exact ⟨by first | rfl | (simp;done) | (simp [*];done),by repeat (first | exact Drawn0.refl _ | apply Drawn0.step)⟩
 rw [if_pos c2] at H
 have c2b0 : (a0 == 2) = true:=beq_iff_eq.mpr c2
 have c2b1 : (a0 != 2) = false:=bne_eq_false_iff_eq.mpr c2
 clear c2
 obtain rfl:=Option.some.inj H
 go_enter Try.func70,Try.ntmps70
 go_wp2
 go_ret
 exact ⟨by first | rfl | (simp;done) | (simp [*];done),by repeat (first | exact Drawn0.refl _ | apply Drawn0.step)⟩

-- NOT PRINTED: function 90 (slices_IndexFunc_int_int)

-- NOT PRINTED: function 71 (slices_ContainsFunc_int_int)

-- NOT PRINTED: function 72 (impl_goOK_1)

end Go.Proofs.Ythgkhfhfahifmaa.Q
