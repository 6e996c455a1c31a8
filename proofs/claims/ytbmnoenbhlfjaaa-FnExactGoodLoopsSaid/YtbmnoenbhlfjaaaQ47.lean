-- WRITTEN BY A PROGRAM OF THIS SESSION
import Derived.Test.YtbmnoenbhlfjaaaQ0
import Derived.Test.YtbmnoenbhlfjaaaQ6
import Derived.Test.YtbmnoenbhlfjaaaQ9
import Derived.Test.YtbmnoenbhlfjaaaQ12
import Derived.Test.YtbmnoenbhlfjaaaQ40
namespace Go.Proofs.Ytbmnoenbhlfjaaa.Q
open Go.RowKit Go.Proofs.YtbmnoenbhlfjaaaW.PrintWords Go.Proofs.YtbmnoenbhlfjaaaW.PrintLast Go.Proofs.YtbmnoenbhlfjaaaW.PrintMore
attribute [local go_sem] max2_int min2_int max_two min_two max_three min_three max_four min_four   -- for this text's walks alone
set_option linter.unusedVariables false
set_option linter.unusedSimpArgs false
/-! ### laws_toLoop: function 59 -/
def laws_toLoop.f (k : Nat) (a0_0 : Int) (l0_1 : List Int) (a0_2 : Int) : Option (Int × List Int × Int):=(laws_toIntS.f k l0_1).bind fun t285 => (some (a0_0,t285,a0_2))
theorem laws_toLoop.mono : ∀ a0 a1 a2 k,LeO (laws_toLoop.f k a0 a1 a2) (laws_toLoop.f (k + 1) a0 a1 a2):=by
 intro a0 a1 a2 k
 unfold laws_toLoop.f
 repeat' first
   | (with_reducible exact laws_toIntS.mono _ _)
   | (with_reducible exact LeO.refl _)
   | (with_reducible exact LeO.none _)
   | (with_reducible refine LeO.ite ?_ ?_)
   | (with_reducible refine LeO.bind ?_ (fun _ => ?_))
   | exact laws_toIntS.mono _ _
   | exact LeO.none _
   | refine LeO.ite ?_ ?_
   | refine LeO.bind ?_ (fun _ => ?_)
set_option maxHeartbeats 8000000 in
set_option maxRecDepth 100000 in
theorem laws_toLoop.calls (k : Nat) (a0_0 : Int) (A0_1 : Option Addr) (c0_1 : Nat) (l0_1 : List Int) (a0_2 : Int) (r1 : Int) (r2 : List Int) (r3 : Int) (w : World) (hr0_1 : Kd.C (Kd.int .i64) w A0_1 l0_1.length l0_1) (hc0_1 : l0_1.length ≤ c0_1) (h : laws_toLoop.f k a0_0 l0_1 a0_2 = some (r1,r2,r3)) :
  Calls Try.prog 59 #[.agg #[.int .i64 a0_0,.slice A0_1 l0_1.length c0_1,.int .i64 a0_2]] w fun e w' => ∃ v1_ : Value,e = .returned (.agg #[.int .i64 r1,v1_,.int .i64 r3]) ∧ Kd.R (Kd.int .i64) 3 w' w.heap.size (fun _ => True) v1_ r2 ∧ Below w.heap.size w w':=by
 have hu75:=Try.underlying75
 have hu58:=Try.underlying58
 have HR0_1:=Aside0.mk hr0_1
 have HC0_1:=Aside0.mk hc0_1
 clear hr0_1 hc0_1
 have HB:=Aside0.mk (Below.refl w.heap.size w)
 have H : ((laws_toIntS.f k l0_1).bind fun t285 => (some (a0_0,t285,a0_2))) = some (r1,r2,r3):=h
 clear h
 replace H:=Option.bind_eq_some_iff.mp H
 obtain ⟨t285,A20,H⟩:=H
 replace H : (some (a0_0,t285,a0_2)) = some (r1,r2,r3):=H
 have A2:=Aside0.mk A20
 clear A20
 simp only [Option.some.injEq,Prod.mk.injEq] at H
 obtain ⟨rfl,rfl,rfl⟩:=H
 go_enter Try.func59,Try.ntmps59
 go_wp2_with (first | ((with_reducible refine gate_dst (N:=1) rfl ?_);refine box_event ?hg (N:=1) ?hd (cs:=#[.int .i64 a0_0,.slice A0_1 l0_1.length c0_1,.int .i64 a0_2]) (t:=75) ?hr ?_;(case hd => rfl);(case hg => rfl);(case hr => first | (go_simp;done) | (go_simp;rfl));intro gb282 hg w3 hbox hb;have n0_:=Aside0.mk (below_step (by repeat (first | (with_reducible first | exact HB.out | apply below_alloc | apply pw_below_drewN | apply below_drew1) | exact HB.out)) hb);have n1_:=Aside0.mk (hbox);have n2_:=Aside0.mk ((by rw [hg];exact (below_size (by repeat (first | (with_reducible first | exact HB.out | apply below_alloc | apply pw_below_drewN | apply below_drew1) | exact HB.out))) : w.heap.size ≤ gb282));have n3_:=Aside0.mk ((by rw [hg];exact (below_size (by repeat (first | (with_reducible first | exact HB.out | apply below_alloc | apply pw_below_drewN | apply below_drew1) | exact HB.out))) : w.heap.size ≤ gb282));clear HB;have HB:=n0_;have BK282:=n1_;have GW282:=n2_;have GE282:=n3_;clear n0_ n1_ n2_ n3_;clear hb hbox hg) | ((with_reducible refine gate_dst (N:=2) rfl ?_);refine box_event ?hg (N:=2) ?hd (cs:=#[.int .i64 0,.slice none 0 0,.int .i64 0]) (t:=58) ?hr ?_;(case hd => rfl);(case hg => rfl);(case hr => first | (go_simp;done) | (go_simp;rfl));intro gb283 hg w4 hbox hb;have n0_:=Aside0.mk (blk_below (g:=gb282) (o:=.cells #[.int .i64 a0_0,.slice A0_1 l0_1.length c0_1,.int .i64 a0_2] 75 (0,0)) (by (with_reducible repeat (first | refine blk_drewN ?_ _ | refine blk_drew ?_ | refine blk_alloc ?_ _));exact BK282.out) hb);have n1_:=Aside0.mk (below_step (by repeat (first | (with_reducible first | exact HB.out | apply below_alloc | apply pw_below_drewN | apply below_drew1 | refine below_set ?_ GE282.out) | exact HB.out)) hb);have n2_:=Aside0.mk (hbox);have n3_:=Aside0.mk ((by rw [hg];exact (below_size (by repeat (first | (with_reducible first | exact HB.out | apply below_alloc | apply pw_below_drewN | apply below_drew1 | refine below_set ?_ GE282.out) | exact HB.out))) : w.heap.size ≤ gb283));have n4_:=Aside0.mk ((by rw [hg];exact (below_size (by repeat (first | (with_reducible first | exact HB.out | apply below_alloc | apply pw_below_drewN | apply below_drew1 | refine below_set ?_ GE282.out) | exact HB.out))) : w.heap.size ≤ gb283));have n5_:=Aside0.mk ((by rw [hg];exact Nat.ne_of_lt (blk_lt (g:=gb282) (o:=.cells #[.int .i64 a0_0,.slice A0_1 l0_1.length c0_1,.int .i64 a0_2] 75 (0,0)) (by (with_reducible repeat (first | refine blk_drewN ?_ _ | refine blk_drew ?_ | refine blk_alloc ?_ _));exact BK282.out)) : gb282 ≠ gb283));have n6_:=Aside0.mk ((by rw [hg];exact Nat.ne_of_gt (blk_lt (g:=gb282) (o:=.cells #[.int .i64 a0_0,.slice A0_1 l0_1.length c0_1,.int .i64 a0_2] 75 (0,0)) (by (with_reducible repeat (first | refine blk_drewN ?_ _ | refine blk_drew ?_ | refine blk_alloc ?_ _));exact BK282.out)) : gb283 ≠ gb282));clear BK282;clear HB;have BK282:=n0_;have HB:=n1_;have BK283:=n2_;have GW283:=n3_;have GE283:=n4_;have NB282_283:=n5_;have NB283_282:=n6_;clear n0_ n1_ n2_ n3_ n4_ n5_ n6_;clear hb hbox hg) | ((with_reducible refine gate_dst (N:=3) rfl ?_);refine box_event ?hg (N:=3) ?hd (cs:=#[.int .i64 0,.slice none 0 0,.int .i64 0]) (t:=58) ?hr ?_;(case hd => rfl);(case hg => rfl);(case hr => first | (go_simp;done) | (go_simp;rfl));intro gb284 hg w5 hbox hb;have n0_:=Aside0.mk (blk_below (g:=gb282) (o:=.cells #[.int .i64 a0_0,.slice A0_1 l0_1.length c0_1,.int .i64 a0_2] 75 (0,0)) (by (with_reducible repeat (first | refine blk_drewN ?_ _ | refine blk_drew ?_ | refine blk_alloc ?_ _));exact BK282.out) hb);have n1_:=Aside0.mk (blk_below (g:=gb283) (o:=.cells #[.int .i64 0,.slice none 0 0,.int .i64 0] 58 (0,0)) (by (with_reducible repeat (first | refine blk_drewN ?_ _ | refine blk_drew ?_ | refine blk_alloc ?_ _));exact BK283.out) hb);have n2_:=Aside0.mk (below_step (by repeat (first | (with_reducible first | exact HB.out | apply below_alloc | apply pw_below_drewN | apply below_drew1 | refine below_set ?_ GE282.out | refine below_set ?_ GE283.out) | exact HB.out)) hb);have n3_:=Aside0.mk (hbox);have n4_:=Aside0.mk ((by rw [hg];exact (below_size (by repeat (first | (with_reducible first | exact HB.out | apply below_alloc | apply pw_below_drewN | apply below_drew1 | refine below_set ?_ GE282.out | refine below_set ?_ GE283.out) | exact HB.out))) : w.heap.size ≤ gb284));have n5_:=Aside0.mk ((by rw [hg];exact (below_size (by repeat (first | (with_reducible first | exact HB.out | apply below_alloc | apply pw_below_drewN | apply below_drew1 | refine below_set ?_ GE282.out | refine below_set ?_ GE283.out) | exact HB.out))) : w.heap.size ≤ gb284));have n6_:=Aside0.mk ((by rw [hg];exact Nat.ne_of_lt (blk_lt (g:=gb282) (o:=.cells #[.int .i64 a0_0,.slice A0_1 l0_1.length c0_1,.int .i64 a0_2] 75 (0,0)) (by (with_reducible repeat (first | refine blk_drewN ?_ _ | refine blk_drew ?_ | refine blk_alloc ?_ _));exact BK282.out)) : gb282 ≠ gb284));have n7_:=Aside0.mk ((by rw [hg];exact Nat.ne_of_gt (blk_lt (g:=gb282) (o:=.cells #[.int .i64 a0_0,.slice A0_1 l0_1.length c0_1,.int .i64 a0_2] 75 (0,0)) (by (with_reducible repeat (first | refine blk_drewN ?_ _ | refine blk_drew ?_ | refine blk_alloc ?_ _));exact BK282.out)) : gb284 ≠ gb282));have n8_:=Aside0.mk ((by rw [hg];exact Nat.ne_of_lt (blk_lt (g:=gb283) (o:=.cells #[.int .i64 0,.slice none 0 0,.int .i64 0] 58 (0,0)) (by (with_reducible repeat (first | refine blk_drewN ?_ _ | refine blk_drew ?_ | refine blk_alloc ?_ _));exact BK283.out)) : gb283 ≠ gb284));have n9_:=Aside0.mk ((by rw [hg];exact Nat.ne_of_gt (blk_lt (g:=gb283) (o:=.cells #[.int .i64 0,.slice none 0 0,.int .i64 0] 58 (0,0)) (by (with_reducible repeat (first | refine blk_drewN ?_ _ | refine blk_drew ?_ | refine blk_alloc ?_ _));exact BK283.out)) : gb284 ≠ gb283));clear BK282;clear BK283;clear HB;have BK282:=n0_;have BK283:=n1_;have HB:=n2_;have BK284:=n3_;have GW284:=n4_;have GE284:=n5_;have NB282_284:=n6_;have NB284_282:=n7_;have NB283_284:=n8_;have NB284_283:=n9_;clear n0_ n1_ n2_ n3_ n4_ n5_ n6_ n7_ n8_ n9_;clear hb hbox hg;have hnb6:=NB282_283.out;have hnc6:=NB283_282.out;have hnb7:=NB282_284.out;have hnc7:=NB284_282.out;have hcz8_0 : w5.cell? ⟨gb282,0,none⟩ = some (.int .i64 a0_0):=(blk_cell BK282.out 0).trans rfl;have hcz8_1 : w5.cell? ⟨gb282,1,none⟩ = some (.slice A0_1 l0_1.length c0_1):=(blk_cell BK282.out 1).trans rfl;have hcz8_2 : w5.cell? ⟨gb282,2,none⟩ = some (.int .i64 a0_2):=(blk_cell BK282.out 2).trans rfl;have hfz8_0:=blk_frozen BK282.out 0;have hfz8_1:=blk_frozen BK282.out 1;have hfz8_2:=blk_frozen BK282.out 2;have hnb9:=NB284_283.out;have hnc9:=NB283_284.out;have hcz10_0 : w5.cell? ⟨gb284,0,none⟩ = some (.int .i64 0):=(blk_cell BK284.out 0).trans rfl;have hcz10_1 : w5.cell? ⟨gb284,1,none⟩ = some (.slice none 0 0):=(blk_cell BK284.out 1).trans rfl;have hcz10_2 : w5.cell? ⟨gb284,2,none⟩ = some (.int .i64 0):=(blk_cell BK284.out 2).trans rfl;have hfz10_0:=blk_frozen BK284.out 0;have hfz10_1:=blk_frozen BK284.out 1;have hfz10_2:=blk_frozen BK284.out 2) | ((with_reducible refine gate_callee (f:=76) rfl ?_);refine goesL_ (some 9) rfl rfl Try.func76 (by kernel_rfl) rfl #[.slice A0_1 l0_1.length c0_1] rfl (by (try simp only [List.map_toArray,List.map_cons,List.map_nil]);first | done | rfl | (simp only [List.length_drop,List.length_take];rfl)) ?_;(with_reducible refine (laws_toIntS.calls k _ _ l0_1 t285 _ ?side1 ?side2 A2.out).mono ?_);(case side1 => exact Kd.C_below HR0_1.out (by repeat (first | (with_reducible first | exact HB.out | apply below_alloc | apply pw_below_drewN | apply below_drew1 | refine below_set ?_ GE282.out | refine below_set ?_ GE283.out | refine below_set ?_ GE284.out) | exact HB.out)));(case side2 => exact HC0_1.out);rintro e w11 ⟨v286,rfl,ho0,hb⟩;refine ⟨_,rfl,?_⟩;have n0_:=Aside0.mk (Kd.R_lower ho0 (below_size (by repeat (first | (with_reducible first | exact HB.out | apply below_alloc | apply pw_below_drewN | apply below_drew1 | refine below_set ?_ GE282.out | refine below_set ?_ GE283.out | refine below_set ?_ GE284.out) | exact HB.out))));have n1_:=Aside0.mk (blk_below (g:=gb282) (o:=.cells #[.int .i64 a0_0,.slice A0_1 l0_1.length c0_1,.int .i64 a0_2] 75 (0,0)) (by (with_reducible repeat (first | refine blk_drewN ?_ _ | refine blk_drew ?_ | refine blk_alloc ?_ _));refine blk_far ?_ NB282_284.out _;(with_reducible repeat (first | refine blk_drewN ?_ _ | refine blk_drew ?_ | refine blk_alloc ?_ _));exact BK282.out) hb);have n2_:=Aside0.mk (blk_below (g:=gb283) (o:=.cells #[.int .i64 0,.slice none 0 0,.int .i64 0] 58 (0,0)) (by (with_reducible repeat (first | refine blk_drewN ?_ _ | refine blk_drew ?_ | refine blk_alloc ?_ _));refine blk_far ?_ NB283_284.out _;(with_reducible repeat (first | refine blk_drewN ?_ _ | refine blk_drew ?_ | refine blk_alloc ?_ _));exact BK283.out) hb);have n3_:=Aside0.mk (blk_below (g:=gb284) (o:=.cells #[.int .i64 a0_0,.slice none 0 0,.int .i64 0] 58 (0,0)) (by (with_reducible repeat (first | refine blk_drewN ?_ _ | refine blk_drew ?_ | refine blk_alloc ?_ _));refine blk_put (cs:=#[.int .i64 0,.slice none 0 0,.int .i64 0]) ?_ 0 _ rfl;(with_reducible repeat (first | refine blk_drewN ?_ _ | refine blk_drew ?_ | refine blk_alloc ?_ _));exact BK284.out) hb);have n4_:=Aside0.mk (below_step (by repeat (first | (with_reducible first | exact HB.out | apply below_alloc | apply pw_below_drewN | apply below_drew1 | refine below_set ?_ GE282.out | refine below_set ?_ GE283.out | refine below_set ?_ GE284.out) | exact HB.out)) hb);clear BK282;clear BK283;clear BK284;clear HB;have HO287:=n0_;have BK282:=n1_;have BK283:=n2_;have BK284:=n3_;have HB:=n4_;clear n0_ n1_ n2_ n3_ n4_;(try clear hb);(try clear hb2);(try clear hk);(try clear hi);(try clear ho0);obtain ⟨Ao12,co12,eo12⟩:=Kd.R_slice HO287.out;subst eo12;have hcz13_0 : w11.cell? ⟨gb284,0,none⟩ = some (.int .i64 a0_0):=(blk_cell BK284.out 0).trans rfl;have hcz13_1 : w11.cell? ⟨gb284,1,none⟩ = some (.slice none 0 0):=(blk_cell BK284.out 1).trans rfl;have hcz13_2 : w11.cell? ⟨gb284,2,none⟩ = some (.int .i64 0):=(blk_cell BK284.out 2).trans rfl;have hfz13_0:=blk_frozen BK284.out 0;have hfz13_1:=blk_frozen BK284.out 1;have hfz13_2:=blk_frozen BK284.out 2;have hcz14_0 : w11.cell? ⟨gb282,0,none⟩ = some (.int .i64 a0_0):=(blk_cell BK282.out 0).trans rfl;have hcz14_1 : w11.cell? ⟨gb282,1,none⟩ = some (.slice A0_1 l0_1.length c0_1):=(blk_cell BK282.out 1).trans rfl;have hcz14_2 : w11.cell? ⟨gb282,2,none⟩ = some (.int .i64 a0_2):=(blk_cell BK282.out 2).trans rfl;have hfz14_0:=blk_frozen BK282.out 0;have hfz14_1:=blk_frozen BK282.out 1;have hfz14_2:=blk_frozen BK282.out 2;have hcz15_0 : w11.cell? ⟨gb283,0,none⟩ = some (.int .i64 0):=(blk_cell BK283.out 0).trans rfl;have hcz15_1 : w11.cell? ⟨gb283,1,none⟩ = some (.slice none 0 0):=(blk_cell BK283.out 1).trans rfl;have hcz15_2 : w11.cell? ⟨gb283,2,none⟩ = some (.int .i64 0):=(blk_cell BK283.out 2).trans rfl;have hfz15_0:=blk_frozen BK283.out 0;have hfz15_1:=blk_frozen BK283.out 1;have hfz15_2:=blk_frozen BK283.out 2))
 refine bodyPost_ret (results_cell_row rfl _ _ gb283 58 #[.int .i64 a0_0,.slice Ao12 t285.length co12,.int .i64 a0_2] (0,0) _ rfl (by (with_reducible repeat (first | refine blk_drewN ?_ _ | refine blk_drew ?_ | refine blk_alloc ?_ _));refine blk_put (cs:=#[.int .i64 a0_0,.slice Ao12 t285.length co12,.int .i64 0]) ?_ 2 _ rfl;(with_reducible repeat (first | refine blk_drewN ?_ _ | refine blk_drew ?_ | refine blk_alloc ?_ _));refine blk_put (cs:=#[.int .i64 a0_0,.slice none 0 0,.int .i64 0]) ?_ 1 _ rfl;(with_reducible repeat (first | refine blk_drewN ?_ _ | refine blk_drew ?_ | refine blk_alloc ?_ _));refine blk_put (cs:=#[.int .i64 0,.slice none 0 0,.int .i64 0]) ?_ 0 _ rfl;(with_reducible repeat (first | refine blk_drewN ?_ _ | refine blk_drew ?_ | refine blk_alloc ?_ _));refine blk_far ?_ NB283_284.out _;(with_reducible repeat (first | refine blk_drewN ?_ _ | refine blk_drew ?_ | refine blk_alloc ?_ _));refine blk_far ?_ NB283_284.out _;(with_reducible repeat (first | refine blk_drewN ?_ _ | refine blk_drew ?_ | refine blk_alloc ?_ _));exact BK283.out) Try.underlying58 rfl (by kernel_rfl)) rfl ?_
 exact ⟨_,by first | rfl | (simp [errW_none,errW_some] <;> rfl) | (simp [*,errW_none,errW_some] <;> rfl),by (with_reducible repeat (first | apply Kd.R_alloc | apply Kd.R_drewN | apply Kd.R_drew));exact Kd.R_mono (Kd.R_far (p:=⟨gb283,2,none⟩) (Kd.R_far (p:=⟨gb283,1,none⟩) (Kd.R_far (p:=⟨gb283,0,none⟩) (Kd.R_far (p:=⟨gb284,2,none⟩) (Kd.R_far (p:=⟨gb284,1,none⟩) (Kd.R_types (Kd.R_types HO287.out BK284.out (by decide)) BK283.out (by decide)) (fun _ hk => hk.1.2) (.slice Ao12 t285.length co12)) (fun _ hk => hk.1.2) (.int .i64 a0_2)) (fun _ hk => hk.2) (.int .i64 a0_0)) (fun _ hk => hk.2) (.slice Ao12 t285.length co12)) (fun _ hk => hk.2) (.int .i64 a0_2)) (fun _ hk => trivial),by repeat (first | (with_reducible first | exact HB.out | apply below_alloc | apply pw_below_drewN | apply below_drew1 | refine below_set ?_ GE282.out | refine below_set ?_ GE283.out | refine below_set ?_ GE284.out) | exact HB.out)⟩
/-! ### laws_toLoopS: function 35 -/
def laws_toLoopS.l0 : Nat → List (S75) → List (S58) → Int → Option ((List (S58)))
 | 0,_,_,_ => none
 | k + 1,x0,x3,x4 => if x4 < (x0.length : Int) then (if 0 ≤ x4 then ((laws_toLoop.f k ((rd_T75 x0 x4).f0) ((rd_T75 x0 x4).f1) ((rd_T75 x0 x4).f2)).bind fun bt292 => (if x4 < (x3.length : Int) then (laws_toLoopS.l0 k x0 (x3.set (x4 : Int).toNat (⟨bt292.1,bt292.2.1,bt292.2.2⟩ : S58)) (wrap64 (x4 + 1))) else (none))) else (none)) else (some x3)
def laws_toLoopS.f (k : Nat) (l0 : List (S75)) : Option ((List (S58))):=if 0 ≤ (l0.length : Int) then (if ((l0.length : Int) : Int).toNat ≤ 7036874417766 then (laws_toLoopS.l0 k l0 (List.replicate ((l0.length : Int) : Int).toNat z58) 0) else (none)) else (none)
theorem laws_toLoopS.mono_l : ∀ k,(∀ y0 y1 y2,LeO (laws_toLoopS.l0 k y0 y1 y2) (laws_toLoopS.l0 (k + 1) y0 y1 y2))
 | 0 => fun _ _ _ r h => by simp [laws_toLoopS.l0] at h
 | k + 1 => by
  have ih0:=laws_toLoopS.mono_l k
  ·intro y0 y1 y2
   unfold laws_toLoopS.l0
   repeat' first
   | (with_reducible exact ih0 _ _ _)
   | (with_reducible exact laws_toLoop.mono _ _ _ _)
   | (with_reducible exact LeO.refl _)
   | (with_reducible exact LeO.none _)
   | (with_reducible refine LeO.ite ?_ ?_)
   | (with_reducible refine LeO.bind ?_ (fun _ => ?_))
   | exact ih0 _ _ _
   | exact laws_toLoop.mono _ _ _ _
   | exact LeO.none _
   | refine LeO.ite ?_ ?_
   | refine LeO.bind ?_ (fun _ => ?_)
theorem laws_toLoopS.mono : ∀ a0 k,LeO (laws_toLoopS.f k a0) (laws_toLoopS.f (k + 1) a0):=by
 intro a0 k
 have ih0:=laws_toLoopS.mono_l k
 unfold laws_toLoopS.f
 repeat' first
   | (with_reducible exact ih0 _ _ _)
   | (with_reducible exact laws_toLoop.mono _ _ _ _)
   | (with_reducible exact LeO.refl _)
   | (with_reducible exact LeO.none _)
   | (with_reducible refine LeO.ite ?_ ?_)
   | (with_reducible refine LeO.bind ?_ (fun _ => ?_))
   | exact ih0 _ _ _
   | exact laws_toLoop.mono _ _ _ _
   | exact LeO.none _
   | refine LeO.ite ?_ ?_
   | refine LeO.bind ?_ (fun _ => ?_)
set_option maxHeartbeats 8000000 in
set_option maxRecDepth 100000 in
theorem laws_toLoopS.calls (k : Nat) (A0 : Option Addr) (c0 : Nat) (l0 : List (S75)) (r : List (S58)) (w : World) (hr0 : Kd.C k75 w A0 l0.length l0) (hc0 : l0.length ≤ c0) (h : laws_toLoopS.f k l0 = some r) :
  Calls Try.prog 35 #[.slice A0 l0.length c0] w fun e w' => ∃ v0_ : Value,e = .returned (v0_) ∧ Kd.S k58 58 w' w.heap.size (fun _ => True) v0_ r ∧ Below w.heap.size w w':=by
 have hu75:=Try.underlying75
 have hu58:=Try.underlying58
 have HR0:=Aside0.mk hr0
 have HC0:=Aside0.mk hc0
 clear hr0 hc0
 have HB:=Aside0.mk (Below.refl w.heap.size w)
 have H : (if 0 ≤ (l0.length : Int) then (if ((l0.length : Int) : Int).toNat ≤ 7036874417766 then (laws_toLoopS.l0 k l0 (List.replicate ((l0.length : Int) : Int).toNat z58) 0) else (none)) else (none)) = some r:=h
 clear h
 by_cases c2 : 0 ≤ (l0.length : Int)
 ·rw [if_pos c2] at H
  have c2b0:=eq_true c2
  have c2b1 : decide (0 ≤ (l0.length : Int)) = true:=decide_eq_true c2
  clear c2
  by_cases c3 : ((l0.length : Int) : Int).toNat ≤ 7036874417766
  ·rw [if_pos c3] at H
   have c3b0:=eq_true c3
   have c3b1 : decide (((l0.length : Int) : Int).toNat ≤ 7036874417766) = true:=decide_eq_true c3
   clear c3
   obtain ⟨y288,hy288⟩ : ∃ y_ : List (S58),y_ = (List.replicate ((l0.length : Int) : Int).toNat z58):=⟨_,rfl⟩
   replace H : (laws_toLoopS.l0 k l0 y288 0) = some r:=by first | (rw [hy288];with_reducible exact H) | (have H2_:=(Option.bind_some _ _).symm.trans H;rw [hy288];with_reducible exact H2_) | (have H2_:=(Option.bind_some _ _).symm.trans H;with_reducible exact H2_) | with_reducible exact H | (rw [hy288];exact H) | exact H
   have Ny288:=Aside0.mk hy288
   clear hy288
   have H':=Aside0.mk H
   clear H
   go_enter Try.func35,Try.ntmps35
   go_wp2_with (first | ((with_reducible refine gate_dst (N:=7) rfl ?_);refine Kd.S_make k58 _ 58 rfl (N:=7) rfl 37 _ _ rfl (l0.length : Int) rfl rfl Try.underlying37 (.agg #[(.int .i64 0),(.slice none 0 0),(.int .i64 0)]) 40 info58 rfl (by decide) (by omega) z58 (ok:=fun _ => True) (okp:=fun _ => True) (k58_mkM _ _ _ z58 (Kd.R_nil _ _ _ _ _)) (fun _ hk => hk) trivial (of_decide_eq_true (by first | (with_reducible assumption) | assumption)) (Nat.le_trans (Nat.mul_le_mul_right _ (of_decide_eq_true (by first | (with_reducible assumption) | assumption) : (l0.length : Int).toNat ≤ 7036874417766)) (by omega)) (Below.refl _ _) (Nat.le_refl _) ?_;intro v289 w4 ho5 hb hg_ hnew_;clear hg_ hnew_;(first | rw [← Ny288.out] at ho5 | (simp only [Int.reduceToNat] at ho5;rw [← Ny288.out] at ho5));have n0_:=Aside0.mk (Kd.S_lower ho5 (below_size (by repeat (first | (with_reducible first | exact HB.out | apply below_alloc | apply pw_below_drewN | apply below_drew1) | exact HB.out))));have n1_:=Aside0.mk (below_step (by repeat (first | (with_reducible first | exact HB.out | apply below_alloc | apply pw_below_drewN | apply below_drew1) | exact HB.out)) hb);clear HB;have HO290:=n0_;have HB:=n1_;clear n0_ n1_;clear hb ho5))
   go_loopg [4] k (fun kq v4 w' => ∃ (x3_1 : List (S58)) (x4_1 : Int),v4 = .int .i64 x4_1 ∧ Aside0 (laws_toLoopS.l0 kq l0 x3_1 x4_1 = some r) ∧ Aside0 (kq ≤ k) ∧ Aside0 (Kd.S k58 58 w' w.heap.size (fun _ => True) v289 x3_1) ∧ Aside0 (Below w.heap.size w w'))
   case atStart => exact ⟨(y288),(0),(by first | rfl | (simp;done) | (simp [*];done)),H',⟨Nat.le_refl _⟩,⟨by (with_reducible repeat (first | apply Kd.S_alloc | apply Kd.S_drewN | apply Kd.S_drew));exact HO290.out⟩,⟨by repeat (first | (with_reducible first | exact HB.out | apply below_alloc | apply pw_below_drewN | apply below_drew1) | exact HB.out)⟩⟩
   case round =>
    clear H'
    try clear c2
    try clear c2b0
    try clear c2b1
    try clear p2
    try clear c3
    try clear c3b0
    try clear c3b1
    obtain ⟨x3_1,x4_1,rfl,HA,HK1,HO_3,HB⟩:=hrel
    cases gk with
    | zero => exact absurd HA.out (by simp [laws_toLoopS.l0])
    | succ k1 =>
     have H:=HA.out
     clear HA
     simp only [laws_toLoopS.l0] at H
     by_cases c6 : x4_1 < (l0.length : Int)
     ·rw [if_pos c6] at H
      have c6b0 : decide (x4_1 < (l0.length : Int)) = true:=decide_eq_true c6
      clear c6
      by_cases c7 : 0 ≤ x4_1
      ·rw [if_pos c7] at H
       have c7b0 : decide (0 ≤ x4_1) = true:=decide_eq_true c7
       clear c7
       replace H:=Option.bind_eq_some_iff.mp H
       obtain ⟨⟨t292,t293,t296⟩,A80,H⟩:=H
       replace H : (if x4_1 < (x3_1.length : Int) then (laws_toLoopS.l0 k1 l0 (x3_1.set (x4_1 : Int).toNat (⟨t292,t293,t296⟩ : S58)) (wrap64 (x4_1 + 1))) else (none)) = some r:=H
       have A8:=Aside0.mk A80
       clear A80
       by_cases c9 : x4_1 < (x3_1.length : Int)
       ·rw [if_pos c9] at H
        have c9b0 : decide (x4_1 < (x3_1.length : Int)) = true:=decide_eq_true c9
        clear c9
        obtain ⟨y297,hy297⟩ : ∃ y_ : List (S58),y_ = (x3_1.set (x4_1 : Int).toNat (⟨t292,t293,t296⟩ : S58)):=⟨_,rfl⟩
        replace H : (laws_toLoopS.l0 k1 l0 y297 (wrap64 (x4_1 + 1))) = some r:=by first | (rw [hy297];with_reducible exact H) | (have H2_:=(Option.bind_some _ _).symm.trans H;rw [hy297];with_reducible exact H2_) | (have H2_:=(Option.bind_some _ _).symm.trans H;with_reducible exact H2_) | with_reducible exact H | (rw [hy297];exact H) | exact H
        have Ny297:=Aside0.mk hy297
        clear hy297
        have H':=Aside0.mk H
        clear H
        have p291 : 0 ≤ (x4_1 : Int):=of_decide_eq_true (by first | (with_reducible assumption) | assumption)
        have q291 : x4_1 < (l0.length : Int):=of_decide_eq_true (by first | (with_reducible assumption) | assumption)
        obtain ⟨ad291,A291_1,c291_1,e291,hx291_0,hx291_1,hx291_2,hl291_1,hi291_1⟩:=at_T75 HR0.out x4_1 p291 q291
        cases e291
        replace hx291_0:=(HB.out.cell (World.block_lt_of_cell? w _ hx291_0)).trans hx291_0
        replace hx291_1:=(HB.out.cell (World.block_lt_of_cell? w _ hx291_1)).trans hx291_1
        replace hx291_2:=(HB.out.cell (World.block_lt_of_cell? w _ hx291_2)).trans hx291_2
        have HR291_1:=Aside0.mk hi291_1
        have HC291_1:=Aside0.mk hl291_1
        clear hi291_1 hl291_1
        replace p291:=eq_true p291
        replace q291:=eq_true q291
        go_wp2_with (first | ((with_reducible refine gate_callee (f:=59) rfl ?_);refine goesL_ (some 20) rfl rfl Try.func59 (by kernel_rfl) rfl #[.agg #[.int .i64 ((rd_T75 l0 x4_1).f0),.slice A291_1 ((rd_T75 l0 x4_1).f1).length c291_1,.int .i64 ((rd_T75 l0 x4_1).f2)]] rfl (by (try simp only [List.map_toArray,List.map_cons,List.map_nil]);first | done | rfl | (simp only [List.length_drop,List.length_take];rfl)) ?_;(with_reducible refine (laws_toLoop.calls k1 ((rd_T75 l0 x4_1).f0) _ _ ((rd_T75 l0 x4_1).f1) ((rd_T75 l0 x4_1).f2) t292 t293 t296 _ ?side1 ?side2 A8.out).mono ?_);(case side1 => repeat (first | exact (Kd.C_below HR291_1.out HB.out) | (with_reducible refine Kd.C_alloc ?_ _) | (with_reducible refine Kd.C_drewN ?_ _) | (with_reducible refine Kd.C_drew ?_)));(case side2 => exact HC291_1.out);rintro e w11 ⟨v294,rfl,ho0,hb⟩;refine ⟨_,rfl,?_⟩;have n0_:=Aside0.mk (Kd.S_elder' (by (with_reducible repeat (first | apply Kd.S_alloc | apply Kd.S_drewN | apply Kd.S_drew));exact HO_3.out) (Kd.R_base ho0) hb);have n1_:=Aside0.mk (Kd.R_lower ho0 (below_size (by repeat (first | (with_reducible first | exact HB.out | apply below_alloc | apply pw_below_drewN | apply below_drew1) | exact HB.out))));have n2_:=Aside0.mk (below_step (by repeat (first | (with_reducible first | exact HB.out | apply below_alloc | apply pw_below_drewN | apply below_drew1) | exact HB.out)) hb);clear HO_3;clear HB;have HO_3:=n0_;have HO295:=n1_;have HB:=n2_;clear n0_ n1_ n2_;(try clear hb);(try clear hb2);(try clear hk);(try clear hi);(try clear ho0);have p10 : 0 ≤ (x4_1 : Int):=of_decide_eq_true (by first | (with_reducible assumption) | assumption);have q10 : (x4_1 : Int) < ((x3_1.length : Int) : Int):=of_decide_eq_true (by first | (with_reducible assumption) | assumption);obtain ⟨go10,co10,eo10,gb10,gl10,cl10,HG10⟩:=Kd.S_form HO_3.out (by omega);(first | cases eo10 | (injection eo10 with ea_ en_ ec_;(first | subst ea_ | (injection ea_ with ea_;subst ea_));subst ec_;clear en_));have GB10:=Aside0.mk gb10;have GG10:=Aside0.mk HG10;clear gb10 gl10 HG10;obtain ⟨_,ce10,hcl10,hM10,hcc10,hfr10,_,_⟩:=Kd.S_elem HO_3.out z58 (x4_1 : Int) p10 q10;obtain ⟨ve10_1,rfl,ge10_1⟩:=k58_openM hM10;have hx10_0 : w11.cell? ⟨go10,(x4_1 : Int).toNat * 3,none⟩ = some (.int .i64 ((rd_T58 x3_1 x4_1).f0)):=hcc10 0 _ rfl;have hx10_1 : w11.cell? ⟨go10,(x4_1 : Int).toNat * 3 + 1,none⟩ = some (ve10_1):=hcc10 1 _ rfl;have hx10_2 : w11.cell? ⟨go10,(x4_1 : Int).toNat * 3 + 2,none⟩ = some (.int .i64 ((rd_T58 x3_1 x4_1).f2)):=hcc10 2 _ rfl;have hf10_0 : w11.frozen? ⟨go10,(x4_1 : Int).toNat * 3,none⟩ = false:=hfr10 0;have hf10_1 : w11.frozen? ⟨go10,(x4_1 : Int).toNat * 3 + 1,none⟩ = false:=hfr10 1;have hf10_2 : w11.frozen? ⟨go10,(x4_1 : Int).toNat * 3 + 2,none⟩ = false:=hfr10 2;clear hcl10 hcc10 hfr10;(try clear hM10);replace p10:=eq_true p10;replace q10:=eq_true q10;obtain ⟨Ao12,co12,eo12⟩:=Kd.R_slice HO295.out;subst eo12;have n_:=Aside0.mk (Kd.S_mono (ok':=(fun k_ => some k_ ≠ (.slice Ao12 t293.length co12 : Value).ownBlock)) HO_3.out (fun k_ hk => hk.2));clear HO_3;have HO_3:=n_;clear n_;have HX13:=Aside0.mk (show Kd.S k58 58 w11 w.heap.size (fun k_ => ((fun _ => True)) k_ ∧ ¬ ((fun k_ => some k_ = (.slice Ao12 t293.length co12 : Value).ownBlock)) k_) (.slice (some ⟨go10,0,none⟩) x3_1.length co10) x3_1 from (by (with_reducible repeat (first | apply Kd.S_alloc | apply Kd.S_drewN | apply Kd.S_drew));exact Kd.S_mono HO_3.out (fun k_ hk => ⟨trivial,fun e_ => hk e_⟩)));obtain ⟨oki13,ce13,hcl13,hM13,hcc13,hfr13,hoki13,hH13⟩:=Kd.S_elem HX13.out z58 (x4_1 : Int) (of_decide_eq_true (by first | (with_reducible assumption) | assumption)) (by have h_ : (x4_1 : Int) < ((x3_1.length : Int) : Int):=of_decide_eq_true (by first | (with_reducible assumption) | assumption);first | exact h_ | (have e_:=(Kd.S_reads' HO_3.out).1;omega) | simpa using h_);obtain ⟨ve13_1,rfl,ge13_1⟩:=k58_openM hM13;have HP13:=Kd.S_seg hH13 (of_decide_eq_true (by first | (with_reducible assumption) | assumption)) (by have h_ : (x4_1 : Int) < ((x3_1.length : Int) : Int):=of_decide_eq_true (by first | (with_reducible assumption) | assumption);first | exact h_ | (have e_:=(Kd.S_reads' HO_3.out).1;omega) | simpa using h_) (seg:=[.int .i64 t292,.slice Ao12 t293.length co12,.int .i64 t296]) (j:=0) (show 3 ≤ 3 from by decide) (x':=(⟨t292,t293,t296⟩ : S58)) (k58_mkM _ _ _ (⟨t292,t293,t296⟩ : S58) (Kd.R_mono (Kd.R_tight rfl (Kd.R_mono (ok':=fun k_ => ((fun _ => True)) k_ ∧ k_ ≠ go10) (Kd.R_apart' (HO295.out) (Kd.S_typed HO_3.out) (by decide)) (fun k_ hk => ⟨trivial,fun e_ => (hk.2) (by rw [e_];rfl)⟩))) (fun _ h_ => Or.inr (h_)))) (fun _ hk => hk) (fun k_ hk_ => ((Kd.R_mono (ok':=fun k_ => ((fun _ => True)) k_ ∧ k_ ≠ go10) (Kd.R_apart' (HO295.out) (Kd.S_typed HO_3.out) (by decide)) (fun k_ hk => ⟨trivial,fun e_ => (hk.2) (by rw [e_];rfl)⟩))).1 k_ hk_.symm);have hx13_0:=hcc13 0 _ rfl;(try simp only [show (k58).sz = 3 from rfl,Nat.mul_one,Nat.add_zero] at hx13_0);have hf13_0:=hfr13 0;(try simp only [show (k58).sz = 3 from rfl,Nat.mul_one,Nat.add_zero] at hf13_0);have hx13_1:=hcc13 1 _ rfl;(try simp only [show (k58).sz = 3 from rfl,Nat.mul_one,Nat.add_zero] at hx13_1);have hf13_1:=hfr13 1;(try simp only [show (k58).sz = 3 from rfl,Nat.mul_one,Nat.add_zero] at hf13_1);have hx13_2:=hcc13 2 _ rfl;(try simp only [show (k58).sz = 3 from rfl,Nat.mul_one,Nat.add_zero] at hx13_2);have hf13_2:=hfr13 2;(try simp only [show (k58).sz = 3 from rfl,Nat.mul_one,Nat.add_zero] at hf13_2);clear hcl13 hcc13 hfr13;(try clear hM13);clear hoki13 hH13) | ((with_reducible refine gate_store (t:=58) (p:=21) rfl ?_);refine store_event (t:=58) (p:=21) (v:=?vo_w14) (w1:=(((w11.setCell ⟨go10,(x4_1 : Int).toNat * 3,none⟩ (.int .i64 t292)).setCell ⟨go10,(x4_1 : Int).toNat * 3 + 1,none⟩ (.slice Ao12 t293.length co12)).setCell ⟨go10,(x4_1 : Int).toNat * 3 + 2,none⟩ (.int .i64 t296))) ?hg ?ho ?hn ?hr ?_;(case ho => rfl);(case hg => rfl);(case hn => rfl);(case hr => first | (go_simp;done) | (go_simp;rfl));intro w14 hw;have hg : w11.grownBy w14 (some go10):=(by rw [hw];exact HP13.2);have hp_ : Kd.S k58 58 w14 w.heap.size (fun _ => True) (.slice (some ⟨go10,0,none⟩) x3_1.length co10) y297:=(by rw [hw,Ny297.out];exact HP13.1);clear HP13;have n0_:=Aside0.mk (hp_);have n1_:=Aside0.mk ((by rw [hw];exact below_set (below_set (below_set (HB.out) GB10.out) GB10.out) GB10.out : Below w.heap.size w w14));clear HO_3;clear HB;clear HO295;have HO_3:=n0_;have HB:=n1_;clear n0_ n1_;clear hg hw hp_))
        go_roundg k1
        case measure => have:=HK1.out;omega
        case rel => exact ⟨(y297),(wrap64 (x4_1 + 1)),(by first | rfl | (simp;done) | (simp [*];done)),H',⟨by have:=HK1.out;omega⟩,⟨by (with_reducible repeat (first | apply Kd.S_alloc | apply Kd.S_drewN | apply Kd.S_drew));exact HO_3.out⟩,⟨by repeat (first | (with_reducible first | exact HB.out | apply below_alloc | apply pw_below_drewN | apply below_drew1) | exact HB.out)⟩⟩
       ·rw [if_neg c9] at H
        exact absurd H (by simp)
      ·rw [if_neg c7] at H
       exact absurd H (by simp)
     ·rw [if_neg c6] at H
      have c6b0 : decide (x4_1 < (l0.length : Int)) = false:=decide_eq_false c6
      clear c6
      obtain rfl:=Option.some.inj H
      go_wp2
      go_ret
      exact ⟨_,by first | rfl | (simp [errW_none,errW_some] <;> rfl) | (simp [*,errW_none,errW_some] <;> rfl),by (with_reducible repeat (first | apply Kd.S_alloc | apply Kd.S_drewN | apply Kd.S_drew));exact HO_3.out,by repeat (first | (with_reducible first | exact HB.out | apply below_alloc | apply pw_below_drewN | apply below_drew1) | exact HB.out)⟩
  ·rw [if_neg c3] at H
   exact absurd H (by simp)
 ·rw [if_neg c2] at H
  exact absurd H (by simp)
/-! ### slices_Equal_int_int: function 62 -/
def slices_Equal_int_int.l0 : Nat → List Int → List Int → Int → Int → Option (Bool)
 | 0,_,_,_,_ => none
 | k + 1,x0,x1,x12,x13 => if x13 < x12 then (if 0 ≤ x13 then (if x13 < (x0.length : Int) then (if x13 < (x1.length : Int) then (if (rd x0 x13) = (rd x1 x13) then (slices_Equal_int_int.l0 k x0 x1 x12 (wrap64 (x13 + 1))) else (some false)) else (none)) else (none)) else (none)) else (some true)
def slices_Equal_int_int.f (k : Nat) (l0 : List Int) (l1 : List Int) : Option (Bool):=if (l0.length : Int) = (l1.length : Int) then (slices_Equal_int_int.l0 k l0 l1 (l0.length : Int) 0) else (some false)
theorem slices_Equal_int_int.mono_l : ∀ k,(∀ y0 y1 y2 y3,LeO (slices_Equal_int_int.l0 k y0 y1 y2 y3) (slices_Equal_int_int.l0 (k + 1) y0 y1 y2 y3))
 | 0 => fun _ _ _ _ r h => by simp [slices_Equal_int_int.l0] at h
 | k + 1 => by
  have ih0:=slices_Equal_int_int.mono_l k
  ·intro y0 y1 y2 y3
   unfold slices_Equal_int_int.l0
   repeat' first
   | (with_reducible exact ih0 _ _ _ _)
   | (with_reducible exact LeO.refl _)
   | (with_reducible exact LeO.none _)
   | (with_reducible refine LeO.ite ?_ ?_)
   | (with_reducible refine LeO.bind ?_ (fun _ => ?_))
   | exact ih0 _ _ _ _
   | exact LeO.none _
   | refine LeO.ite ?_ ?_
   | refine LeO.bind ?_ (fun _ => ?_)
theorem slices_Equal_int_int.mono : ∀ a0 a1 k,LeO (slices_Equal_int_int.f k a0 a1) (slices_Equal_int_int.f (k + 1) a0 a1):=by
 intro a0 a1 k
 have ih0:=slices_Equal_int_int.mono_l k
 unfold slices_Equal_int_int.f
 repeat' first
   | (with_reducible exact ih0 _ _ _ _)
   | (with_reducible exact LeO.refl _)
   | (with_reducible exact LeO.none _)
   | (with_reducible refine LeO.ite ?_ ?_)
   | (with_reducible refine LeO.bind ?_ (fun _ => ?_))
   | exact ih0 _ _ _ _
   | exact LeO.none _
   | refine LeO.ite ?_ ?_
   | refine LeO.bind ?_ (fun _ => ?_)
set_option maxHeartbeats 8000000 in
set_option maxRecDepth 100000 in
theorem slices_Equal_int_int.calls (k : Nat) (A0 : Option Addr) (c0 : Nat) (l0 : List Int) (A1 : Option Addr) (c1 : Nat) (l1 : List Int) (r : Bool) (w : World) (hr0 : Kd.C (Kd.int .i64) w A0 l0.length l0) (hc0 : l0.length ≤ c0) (hr1 : Kd.C (Kd.int .i64) w A1 l1.length l1) (hc1 : l1.length ≤ c1) (h : slices_Equal_int_int.f k l0 l1 = some r) :
  Calls Try.prog 62 #[.slice A0 l0.length c0,.slice A1 l1.length c1] w fun e w' => e = .returned (.bool r) ∧ Drawn0 w w':=by
 have HR0:=Aside0.mk hr0
 have HC0:=Aside0.mk hc0
 clear hr0 hc0
 have HR1:=Aside0.mk hr1
 have HC1:=Aside0.mk hc1
 clear hr1 hc1
 have H : (if (l0.length : Int) = (l1.length : Int) then (slices_Equal_int_int.l0 k l0 l1 (l0.length : Int) 0) else (some false)) = some r:=h
 clear h
 by_cases c3 : (l0.length : Int) = (l1.length : Int)
 ·rw [if_pos c3] at H
  have c3b0 : ((l0.length : Int) == (l1.length : Int)) = true:=beq_iff_eq.mpr c3
  have c3b1 : ((l0.length : Int) != (l1.length : Int)) = false:=bne_eq_false_iff_eq.mpr c3
  have c3b2 : (l0.length == l1.length) = true:=by first | simpa using c3 | (simp at c3 ⊢;omega)
  clear c3
  have H':=Aside0.mk H
  clear H
  go_enter Try.func62,Try.ntmps62
  go_wp2
  repeat (go_quiet (fail);try go_wp2)
  go_loopg [13] k (fun kq v13 w' => ∃ (x13_1 : Int),v13 = .int .i64 x13_1 ∧ Aside0 (slices_Equal_int_int.l0 kq l0 l1 (l0.length : Int) x13_1 = some r) ∧ Aside0 (kq ≤ k) ∧ Drawn0 w w')
  case atStart => exact ⟨(0),(by first | rfl | (simp;done) | (simp [*];done)),H',⟨Nat.le_refl _⟩,by repeat (first | exact Drawn0.refl _ | apply Drawn0.step)⟩
  case round =>
   clear H'
   try clear c1
   try clear p2
   try clear c3
   try clear c3b0
   try clear c3b1
   try clear c3b2
   obtain ⟨x13_1,rfl,HA,HK1,⟨m1,rfl⟩⟩:=hrel
   cases gk with
   | zero => exact absurd HA.out (by simp [slices_Equal_int_int.l0])
   | succ k1 =>
    have H:=HA.out
    clear HA
    simp only [slices_Equal_int_int.l0] at H
    by_cases c4 : x13_1 < (l0.length : Int)
    ·rw [if_pos c4] at H
     have c4b0 : decide (x13_1 < (l0.length : Int)) = true:=decide_eq_true c4
     clear c4
     by_cases c5 : 0 ≤ x13_1
     ·rw [if_pos c5] at H
      have c5b0 : decide (0 ≤ x13_1) = true:=decide_eq_true c5
      clear c5
      by_cases c6 : x13_1 < (l0.length : Int)
      ·rw [if_pos c6] at H
       have c6b0 : decide (x13_1 < (l0.length : Int)) = true:=decide_eq_true c6
       clear c6
       by_cases c7 : x13_1 < (l1.length : Int)
       ·rw [if_pos c7] at H
        have c7b0 : decide (x13_1 < (l1.length : Int)) = true:=decide_eq_true c7
        clear c7
        by_cases c8 : (rd l0 x13_1) = (rd l1 x13_1)
        ·rw [if_pos c8] at H
         have c8b0 : ((rd l0 x13_1) == (rd l1 x13_1)) = true:=beq_iff_eq.mpr c8
         have c8b1 : ((rd l0 x13_1) != (rd l1 x13_1)) = false:=bne_eq_false_iff_eq.mpr c8
         clear c8
         have H':=Aside0.mk H
         clear H
         have p298 : 0 ≤ (x13_1 : Int):=of_decide_eq_true (by first | (with_reducible assumption) | assumption)
         have q298 : x13_1 < (l0.length : Int):=of_decide_eq_true (by first | (with_reducible assumption) | assumption)
         obtain ⟨ad298,e298,hx298_0⟩:=Kd.at_int HR0.out x13_1 p298 q298
         cases e298
         replace p298:=eq_true p298
         replace q298:=eq_true q298
         have p299 : 0 ≤ (x13_1 : Int):=of_decide_eq_true (by first | (with_reducible assumption) | assumption)
         have q299 : x13_1 < (l1.length : Int):=of_decide_eq_true (by first | (with_reducible assumption) | assumption)
         obtain ⟨ad299,e299,hx299_0⟩:=Kd.at_int HR1.out x13_1 p299 q299
         cases e299
         replace p299:=eq_true p299
         replace q299:=eq_true q299
         go_wp2
         repeat (go_quiet (fail);try go_wp2)
         go_roundg k1
         case measure => have:=HK1.out;omega
         case rel => exact ⟨(wrap64 (x13_1 + 1)),(by first | rfl | (simp;done) | (simp [*];done)),H',⟨by have:=HK1.out;omega⟩,by repeat (first | exact Drawn0.refl _ | apply Drawn0.step)⟩
        ·rw [if_neg c8] at H
         have c8b0 : ((rd l0 x13_1) == (rd l1 x13_1)) = false:=beq_eq_false_iff_ne.mpr c8
         have c8b1 : ((rd l0 x13_1) != (rd l1 x13_1)) = true:=bne_iff_ne.mpr c8
         obtain rfl:=Option.some.inj H
         have p298 : 0 ≤ (x13_1 : Int):=of_decide_eq_true (by first | (with_reducible assumption) | assumption)
         have q298 : x13_1 < (l0.length : Int):=of_decide_eq_true (by first | (with_reducible assumption) | assumption)
         obtain ⟨ad298,e298,hx298_0⟩:=Kd.at_int HR0.out x13_1 p298 q298
         cases e298
         replace p298:=eq_true p298
         replace q298:=eq_true q298
         have p299 : 0 ≤ (x13_1 : Int):=of_decide_eq_true (by first | (with_reducible assumption) | assumption)
         have q299 : x13_1 < (l1.length : Int):=of_decide_eq_true (by first | (with_reducible assumption) | assumption)
         obtain ⟨ad299,e299,hx299_0⟩:=Kd.at_int HR1.out x13_1 p299 q299
         cases e299
         replace p299:=eq_true p299
         replace q299:=eq_true q299
         go_wp2
         repeat (go_quiet (fail);try go_wp2)
         go_ret
         exact ⟨by first | rfl | (simp;done) | (simp [*];done),by repeat (first | exact Drawn0.refl _ | apply Drawn0.step)⟩
       ·rw [if_neg c7] at H
        exact absurd H (by simp)
      ·rw [if_neg c6] at H
       exact absurd H (by simp)
     ·rw [if_neg c5] at H
      exact absurd H (by simp)
    ·rw [if_neg c4] at H
     have c4b0 : decide (x13_1 < (l0.length : Int)) = false:=decide_eq_false c4
     clear c4
     obtain rfl:=Option.some.inj H
     go_wp2
     repeat (go_quiet (fail);try go_wp2)
     go_ret
     exact ⟨by first | rfl | (simp;done) | (simp [*];done),by repeat (first | exact Drawn0.refl _ | apply Drawn0.step)⟩
 ·rw [if_neg c3] at H
  have c3b0 : ((l0.length : Int) == (l1.length : Int)) = false:=beq_eq_false_iff_ne.mpr c3
  have c3b1 : ((l0.length : Int) != (l1.length : Int)) = true:=bne_iff_ne.mpr c3
  have c3b2 : (l0.length == l1.length) = false:=by first | simpa using c3 | (simp at c3 ⊢;omega)
  obtain rfl:=Option.some.inj H
  go_enter Try.func62,Try.ntmps62
  go_wp2
  repeat (go_quiet (fail);try go_wp2)
  go_ret
  exact ⟨by first | rfl | (simp;done) | (simp [*];done),by repeat (first | exact Drawn0.refl _ | apply Drawn0.step)⟩
/-! ### impl_GoodLoops_1: function 61 -/
def impl_GoodLoops_1.f (k : Nat) (a0_0 : Int) (l0_1 : List Int) (a0_2 : Int) (a1_0 : Int) (l1_1 : List Int) (a1_2 : Int) : Option (Bool):=if a0_0 = a1_0 then (if a0_2 = a1_2 then ((slices_Equal_int_int.f k l0_1 l1_1).bind fun t302 => (some t302)) else (some false)) else (some false)
theorem impl_GoodLoops_1.mono : ∀ a0 a1 a2 a3 a4 a5 k,LeO (impl_GoodLoops_1.f k a0 a1 a2 a3 a4 a5) (impl_GoodLoops_1.f (k + 1) a0 a1 a2 a3 a4 a5):=by
 intro a0 a1 a2 a3 a4 a5 k
 unfold impl_GoodLoops_1.f
 repeat' first
   | (with_reducible exact slices_Equal_int_int.mono _ _ _)
   | (with_reducible exact LeO.refl _)
   | (with_reducible exact LeO.none _)
   | (with_reducible refine LeO.ite ?_ ?_)
   | (with_reducible refine LeO.bind ?_ (fun _ => ?_))
   | exact slices_Equal_int_int.mono _ _ _
   | exact LeO.none _
   | refine LeO.ite ?_ ?_
   | refine LeO.bind ?_ (fun _ => ?_)
set_option maxHeartbeats 8000000 in
set_option maxRecDepth 100000 in
theorem impl_GoodLoops_1.calls (k : Nat) (a0_0 : Int) (A0_1 : Option Addr) (c0_1 : Nat) (l0_1 : List Int) (a0_2 : Int) (a1_0 : Int) (A1_1 : Option Addr) (c1_1 : Nat) (l1_1 : List Int) (a1_2 : Int) (r : Bool) (w : World) (hr0_1 : Kd.C (Kd.int .i64) w A0_1 l0_1.length l0_1) (hc0_1 : l0_1.length ≤ c0_1) (hr1_1 : Kd.C (Kd.int .i64) w A1_1 l1_1.length l1_1) (hc1_1 : l1_1.length ≤ c1_1) (h : impl_GoodLoops_1.f k a0_0 l0_1 a0_2 a1_0 l1_1 a1_2 = some r) :
  Calls Try.prog 61 #[.agg #[.int .i64 a0_0,.slice A0_1 l0_1.length c0_1,.int .i64 a0_2],.agg #[.int .i64 a1_0,.slice A1_1 l1_1.length c1_1,.int .i64 a1_2]] w fun e w' => e = .returned (.bool r) ∧ Below w.heap.size w w':=by
 have hu58:=Try.underlying58
 have HR0_1:=Aside0.mk hr0_1
 have HC0_1:=Aside0.mk hc0_1
 clear hr0_1 hc0_1
 have HR1_1:=Aside0.mk hr1_1
 have HC1_1:=Aside0.mk hc1_1
 clear hr1_1 hc1_1
 have HB:=Aside0.mk (Below.refl w.heap.size w)
 have H : (if a0_0 = a1_0 then (if a0_2 = a1_2 then ((slices_Equal_int_int.f k l0_1 l1_1).bind fun t302 => (some t302)) else (some false)) else (some false)) = some r:=h
 clear h
 by_cases c3 : a0_0 = a1_0
 ·rw [if_pos c3] at H
  have c3b0 : (a0_0 == a1_0) = true:=beq_iff_eq.mpr c3
  have c3b1 : (a0_0 != a1_0) = false:=bne_eq_false_iff_eq.mpr c3
  clear c3
  by_cases c4 : a0_2 = a1_2
  ·rw [if_pos c4] at H
   have c4b0 : (a0_2 == a1_2) = true:=beq_iff_eq.mpr c4
   have c4b1 : (a0_2 != a1_2) = false:=bne_eq_false_iff_eq.mpr c4
   clear c4
   replace H:=Option.bind_eq_some_iff.mp H
   obtain ⟨t302,A50,H⟩:=H
   replace H : (some t302) = some r:=H
   have A5:=Aside0.mk A50
   clear A50
   obtain rfl:=Option.some.inj H
   go_enter Try.func61,Try.ntmps61
   go_wp2_with (first | ((with_reducible refine gate_dst (N:=2) rfl ?_);refine box_event ?hg (N:=2) ?hd (cs:=#[.int .i64 a0_0,.slice A0_1 l0_1.length c0_1,.int .i64 a0_2]) (t:=58) ?hr ?_;(case hd => rfl);(case hg => rfl);(case hr => first | (go_simp;done) | (go_simp;rfl));intro gb300 hg w6 hbox hb;have n0_:=Aside0.mk (below_step (by repeat (first | (with_reducible first | exact HB.out | apply below_alloc | apply pw_below_drewN | apply below_drew1) | exact HB.out)) hb);have n1_:=Aside0.mk (hbox);have n2_:=Aside0.mk ((by rw [hg];exact (below_size (by repeat (first | (with_reducible first | exact HB.out | apply below_alloc | apply pw_below_drewN | apply below_drew1) | exact HB.out))) : w.heap.size ≤ gb300));have n3_:=Aside0.mk ((by rw [hg];exact (below_size (by repeat (first | (with_reducible first | exact HB.out | apply below_alloc | apply pw_below_drewN | apply below_drew1) | exact HB.out))) : w.heap.size ≤ gb300));clear HB;have HB:=n0_;have BK300:=n1_;have GW300:=n2_;have GE300:=n3_;clear n0_ n1_ n2_ n3_;clear hb hbox hg) | ((with_reducible refine gate_dst (N:=3) rfl ?_);refine box_event ?hg (N:=3) ?hd (cs:=#[.int .i64 a1_0,.slice A1_1 l1_1.length c1_1,.int .i64 a1_2]) (t:=58) ?hr ?_;(case hd => rfl);(case hg => rfl);(case hr => first | (go_simp;done) | (go_simp;rfl));intro gb301 hg w7 hbox hb;have n0_:=Aside0.mk (blk_below (g:=gb300) (o:=.cells #[.int .i64 a0_0,.slice A0_1 l0_1.length c0_1,.int .i64 a0_2] 58 (0,0)) (by (with_reducible repeat (first | refine blk_drewN ?_ _ | refine blk_drew ?_ | refine blk_alloc ?_ _));exact BK300.out) hb);have n1_:=Aside0.mk (below_step (by repeat (first | (with_reducible first | exact HB.out | apply below_alloc | apply pw_below_drewN | apply below_drew1 | refine below_set ?_ GE300.out) | exact HB.out)) hb);have n2_:=Aside0.mk (hbox);have n3_:=Aside0.mk ((by rw [hg];exact (below_size (by repeat (first | (with_reducible first | exact HB.out | apply below_alloc | apply pw_below_drewN | apply below_drew1 | refine below_set ?_ GE300.out) | exact HB.out))) : w.heap.size ≤ gb301));have n4_:=Aside0.mk ((by rw [hg];exact (below_size (by repeat (first | (with_reducible first | exact HB.out | apply below_alloc | apply pw_below_drewN | apply below_drew1 | refine below_set ?_ GE300.out) | exact HB.out))) : w.heap.size ≤ gb301));have n5_:=Aside0.mk ((by rw [hg];exact Nat.ne_of_lt (blk_lt (g:=gb300) (o:=.cells #[.int .i64 a0_0,.slice A0_1 l0_1.length c0_1,.int .i64 a0_2] 58 (0,0)) (by (with_reducible repeat (first | refine blk_drewN ?_ _ | refine blk_drew ?_ | refine blk_alloc ?_ _));exact BK300.out)) : gb300 ≠ gb301));have n6_:=Aside0.mk ((by rw [hg];exact Nat.ne_of_gt (blk_lt (g:=gb300) (o:=.cells #[.int .i64 a0_0,.slice A0_1 l0_1.length c0_1,.int .i64 a0_2] 58 (0,0)) (by (with_reducible repeat (first | refine blk_drewN ?_ _ | refine blk_drew ?_ | refine blk_alloc ?_ _));exact BK300.out)) : gb301 ≠ gb300));clear BK300;clear HB;have BK300:=n0_;have HB:=n1_;have BK301:=n2_;have GW301:=n3_;have GE301:=n4_;have NB300_301:=n5_;have NB301_300:=n6_;clear n0_ n1_ n2_ n3_ n4_ n5_ n6_;clear hb hbox hg;have hnb8:=NB300_301.out;have hnc8:=NB301_300.out;have hcz9_0 : w7.cell? ⟨gb300,0,none⟩ = some (.int .i64 a0_0):=(blk_cell BK300.out 0).trans rfl;have hcz9_1 : w7.cell? ⟨gb300,1,none⟩ = some (.slice A0_1 l0_1.length c0_1):=(blk_cell BK300.out 1).trans rfl;have hcz9_2 : w7.cell? ⟨gb300,2,none⟩ = some (.int .i64 a0_2):=(blk_cell BK300.out 2).trans rfl;have hfz9_0:=blk_frozen BK300.out 0;have hfz9_1:=blk_frozen BK300.out 1;have hfz9_2:=blk_frozen BK300.out 2;have hcz10_0 : w7.cell? ⟨gb301,0,none⟩ = some (.int .i64 a1_0):=(blk_cell BK301.out 0).trans rfl;have hcz10_1 : w7.cell? ⟨gb301,1,none⟩ = some (.slice A1_1 l1_1.length c1_1):=(blk_cell BK301.out 1).trans rfl;have hcz10_2 : w7.cell? ⟨gb301,2,none⟩ = some (.int .i64 a1_2):=(blk_cell BK301.out 2).trans rfl;have hfz10_0:=blk_frozen BK301.out 0;have hfz10_1:=blk_frozen BK301.out 1;have hfz10_2:=blk_frozen BK301.out 2) | (go_at_call 62;(with_reducible refine (slices_Equal_int_int.calls k _ _ l0_1 _ _ l1_1 t302 _ ?side1 ?side2 ?side3 ?side4 A5.out).mono ?_);(case side1 => repeat (first | exact (Kd.C_below HR0_1.out HB.out) | (with_reducible refine Kd.C_alloc ?_ _) | (with_reducible refine Kd.C_drewN ?_ _) | (with_reducible refine Kd.C_drew ?_)));(case side2 => exact HC0_1.out);(case side3 => repeat (first | exact (Kd.C_below HR1_1.out HB.out) | (with_reducible refine Kd.C_alloc ?_ _) | (with_reducible refine Kd.C_drewN ?_ _) | (with_reducible refine Kd.C_drew ?_)));(case side4 => exact HC1_1.out);rintro e w' ⟨rfl,⟨nd,rfl⟩⟩))
   go_ret
   exact ⟨by first | rfl | (simp [errW_none,errW_some] <;> rfl) | (simp [*,errW_none,errW_some] <;> rfl),by repeat (first | (with_reducible first | exact HB.out | apply below_alloc | apply pw_below_drewN | apply below_drew1 | refine below_set ?_ GE300.out | refine below_set ?_ GE301.out) | exact HB.out)⟩
  ·rw [if_neg c4] at H
   have c4b0 : (a0_2 == a1_2) = false:=beq_eq_false_iff_ne.mpr c4
   have c4b1 : (a0_2 != a1_2) = true:=bne_iff_ne.mpr c4
   obtain rfl:=Option.some.inj H
   go_enter Try.func61,Try.ntmps61
   go_wp2_with (first | ((with_reducible refine gate_dst (N:=2) rfl ?_);refine box_event ?hg (N:=2) ?hd (cs:=#[.int .i64 a0_0,.slice A0_1 l0_1.length c0_1,.int .i64 a0_2]) (t:=58) ?hr ?_;(case hd => rfl);(case hg => rfl);(case hr => first | (go_simp;done) | (go_simp;rfl));intro gb300 hg w11 hbox hb;have n0_:=Aside0.mk (below_step (by repeat (first | (with_reducible first | exact HB.out | apply below_alloc | apply pw_below_drewN | apply below_drew1) | exact HB.out)) hb);have n1_:=Aside0.mk (hbox);have n2_:=Aside0.mk ((by rw [hg];exact (below_size (by repeat (first | (with_reducible first | exact HB.out | apply below_alloc | apply pw_below_drewN | apply below_drew1) | exact HB.out))) : w.heap.size ≤ gb300));have n3_:=Aside0.mk ((by rw [hg];exact (below_size (by repeat (first | (with_reducible first | exact HB.out | apply below_alloc | apply pw_below_drewN | apply below_drew1) | exact HB.out))) : w.heap.size ≤ gb300));clear HB;have HB:=n0_;have BK300:=n1_;have GW300:=n2_;have GE300:=n3_;clear n0_ n1_ n2_ n3_;clear hb hbox hg) | ((with_reducible refine gate_dst (N:=3) rfl ?_);refine box_event ?hg (N:=3) ?hd (cs:=#[.int .i64 a1_0,.slice A1_1 l1_1.length c1_1,.int .i64 a1_2]) (t:=58) ?hr ?_;(case hd => rfl);(case hg => rfl);(case hr => first | (go_simp;done) | (go_simp;rfl));intro gb301 hg w12 hbox hb;have n0_:=Aside0.mk (blk_below (g:=gb300) (o:=.cells #[.int .i64 a0_0,.slice A0_1 l0_1.length c0_1,.int .i64 a0_2] 58 (0,0)) (by (with_reducible repeat (first | refine blk_drewN ?_ _ | refine blk_drew ?_ | refine blk_alloc ?_ _));exact BK300.out) hb);have n1_:=Aside0.mk (below_step (by repeat (first | (with_reducible first | exact HB.out | apply below_alloc | apply pw_below_drewN | apply below_drew1 | refine below_set ?_ GE300.out) | exact HB.out)) hb);have n2_:=Aside0.mk (hbox);have n3_:=Aside0.mk ((by rw [hg];exact (below_size (by repeat (first | (with_reducible first | exact HB.out | apply below_alloc | apply pw_below_drewN | apply below_drew1 | refine below_set ?_ GE300.out) | exact HB.out))) : w.heap.size ≤ gb301));have n4_:=Aside0.mk ((by rw [hg];exact (below_size (by repeat (first | (with_reducible first | exact HB.out | apply below_alloc | apply pw_below_drewN | apply below_drew1 | refine below_set ?_ GE300.out) | exact HB.out))) : w.heap.size ≤ gb301));have n5_:=Aside0.mk ((by rw [hg];exact Nat.ne_of_lt (blk_lt (g:=gb300) (o:=.cells #[.int .i64 a0_0,.slice A0_1 l0_1.length c0_1,.int .i64 a0_2] 58 (0,0)) (by (with_reducible repeat (first | refine blk_drewN ?_ _ | refine blk_drew ?_ | refine blk_alloc ?_ _));exact BK300.out)) : gb300 ≠ gb301));have n6_:=Aside0.mk ((by rw [hg];exact Nat.ne_of_gt (blk_lt (g:=gb300) (o:=.cells #[.int .i64 a0_0,.slice A0_1 l0_1.length c0_1,.int .i64 a0_2] 58 (0,0)) (by (with_reducible repeat (first | refine blk_drewN ?_ _ | refine blk_drew ?_ | refine blk_alloc ?_ _));exact BK300.out)) : gb301 ≠ gb300));clear BK300;clear HB;have BK300:=n0_;have HB:=n1_;have BK301:=n2_;have GW301:=n3_;have GE301:=n4_;have NB300_301:=n5_;have NB301_300:=n6_;clear n0_ n1_ n2_ n3_ n4_ n5_ n6_;clear hb hbox hg;have hnb13:=NB300_301.out;have hnc13:=NB301_300.out;have hcz14_0 : w12.cell? ⟨gb300,0,none⟩ = some (.int .i64 a0_0):=(blk_cell BK300.out 0).trans rfl;have hcz14_1 : w12.cell? ⟨gb300,1,none⟩ = some (.slice A0_1 l0_1.length c0_1):=(blk_cell BK300.out 1).trans rfl;have hcz14_2 : w12.cell? ⟨gb300,2,none⟩ = some (.int .i64 a0_2):=(blk_cell BK300.out 2).trans rfl;have hfz14_0:=blk_frozen BK300.out 0;have hfz14_1:=blk_frozen BK300.out 1;have hfz14_2:=blk_frozen BK300.out 2;have hcz15_0 : w12.cell? ⟨gb301,0,none⟩ = some (.int .i64 a1_0):=(blk_cell BK301.out 0).trans rfl;have hcz15_1 : w12.cell? ⟨gb301,1,none⟩ = some (.slice A1_1 l1_1.length c1_1):=(blk_cell BK301.out 1).trans rfl;have hcz15_2 : w12.cell? ⟨gb301,2,none⟩ = some (.int .i64 a1_2):=(blk_cell BK301.out 2).trans rfl;have hfz15_0:=blk_frozen BK301.out 0;have hfz15_1:=blk_frozen BK301.out 1;have hfz15_2:=blk_frozen BK301.out 2))
   go_ret
   exact ⟨by first | rfl | (simp [errW_none,errW_some] <;> rfl) | (simp [*,errW_none,errW_some] <;> rfl),by repeat (first | (with_reducible first | exact HB.out | apply below_alloc | apply pw_below_drewN | apply below_drew1 | refine below_set ?_ GE300.out | refine below_set ?_ GE301.out) | exact HB.out)⟩
 ·rw [if_neg c3] at H
  have c3b0 : (a0_0 == a1_0) = false:=beq_eq_false_iff_ne.mpr c3
  have c3b1 : (a0_0 != a1_0) = true:=bne_iff_ne.mpr c3
  obtain rfl:=Option.some.inj H
  go_enter Try.func61,Try.ntmps61
  go_wp2_with (first | ((with_reducible refine gate_dst (N:=2) rfl ?_);refine box_event ?hg (N:=2) ?hd (cs:=#[.int .i64 a0_0,.slice A0_1 l0_1.length c0_1,.int .i64 a0_2]) (t:=58) ?hr ?_;(case hd => rfl);(case hg => rfl);(case hr => first | (go_simp;done) | (go_simp;rfl));intro gb300 hg w16 hbox hb;have n0_:=Aside0.mk (below_step (by repeat (first | (with_reducible first | exact HB.out | apply below_alloc | apply pw_below_drewN | apply below_drew1) | exact HB.out)) hb);have n1_:=Aside0.mk (hbox);have n2_:=Aside0.mk ((by rw [hg];exact (below_size (by repeat (first | (with_reducible first | exact HB.out | apply below_alloc | apply pw_below_drewN | apply below_drew1) | exact HB.out))) : w.heap.size ≤ gb300));have n3_:=Aside0.mk ((by rw [hg];exact (below_size (by repeat (first | (with_reducible first | exact HB.out | apply below_alloc | apply pw_below_drewN | apply below_drew1) | exact HB.out))) : w.heap.size ≤ gb300));clear HB;have HB:=n0_;have BK300:=n1_;have GW300:=n2_;have GE300:=n3_;clear n0_ n1_ n2_ n3_;clear hb hbox hg) | ((with_reducible refine gate_dst (N:=3) rfl ?_);refine box_event ?hg (N:=3) ?hd (cs:=#[.int .i64 a1_0,.slice A1_1 l1_1.length c1_1,.int .i64 a1_2]) (t:=58) ?hr ?_;(case hd => rfl);(case hg => rfl);(case hr => first | (go_simp;done) | (go_simp;rfl));intro gb301 hg w17 hbox hb;have n0_:=Aside0.mk (blk_below (g:=gb300) (o:=.cells #[.int .i64 a0_0,.slice A0_1 l0_1.length c0_1,.int .i64 a0_2] 58 (0,0)) (by (with_reducible repeat (first | refine blk_drewN ?_ _ | refine blk_drew ?_ | refine blk_alloc ?_ _));exact BK300.out) hb);have n1_:=Aside0.mk (below_step (by repeat (first | (with_reducible first | exact HB.out | apply below_alloc | apply pw_below_drewN | apply below_drew1 | refine below_set ?_ GE300.out) | exact HB.out)) hb);have n2_:=Aside0.mk (hbox);have n3_:=Aside0.mk ((by rw [hg];exact (below_size (by repeat (first | (with_reducible first | exact HB.out | apply below_alloc | apply pw_below_drewN | apply below_drew1 | refine below_set ?_ GE300.out) | exact HB.out))) : w.heap.size ≤ gb301));have n4_:=Aside0.mk ((by rw [hg];exact (below_size (by repeat (first | (with_reducible first | exact HB.out | apply below_alloc | apply pw_below_drewN | apply below_drew1 | refine below_set ?_ GE300.out) | exact HB.out))) : w.heap.size ≤ gb301));have n5_:=Aside0.mk ((by rw [hg];exact Nat.ne_of_lt (blk_lt (g:=gb300) (o:=.cells #[.int .i64 a0_0,.slice A0_1 l0_1.length c0_1,.int .i64 a0_2] 58 (0,0)) (by (with_reducible repeat (first | refine blk_drewN ?_ _ | refine blk_drew ?_ | refine blk_alloc ?_ _));exact BK300.out)) : gb300 ≠ gb301));have n6_:=Aside0.mk ((by rw [hg];exact Nat.ne_of_gt (blk_lt (g:=gb300) (o:=.cells #[.int .i64 a0_0,.slice A0_1 l0_1.length c0_1,.int .i64 a0_2] 58 (0,0)) (by (with_reducible repeat (first | refine blk_drewN ?_ _ | refine blk_drew ?_ | refine blk_alloc ?_ _));exact BK300.out)) : gb301 ≠ gb300));clear BK300;clear HB;have BK300:=n0_;have HB:=n1_;have BK301:=n2_;have GW301:=n3_;have GE301:=n4_;have NB300_301:=n5_;have NB301_300:=n6_;clear n0_ n1_ n2_ n3_ n4_ n5_ n6_;clear hb hbox hg;have hnb18:=NB300_301.out;have hnc18:=NB301_300.out;have hcz19_0 : w17.cell? ⟨gb300,0,none⟩ = some (.int .i64 a0_0):=(blk_cell BK300.out 0).trans rfl;have hcz19_1 : w17.cell? ⟨gb300,1,none⟩ = some (.slice A0_1 l0_1.length c0_1):=(blk_cell BK300.out 1).trans rfl;have hcz19_2 : w17.cell? ⟨gb300,2,none⟩ = some (.int .i64 a0_2):=(blk_cell BK300.out 2).trans rfl;have hfz19_0:=blk_frozen BK300.out 0;have hfz19_1:=blk_frozen BK300.out 1;have hfz19_2:=blk_frozen BK300.out 2;have hcz20_0 : w17.cell? ⟨gb301,0,none⟩ = some (.int .i64 a1_0):=(blk_cell BK301.out 0).trans rfl;have hcz20_1 : w17.cell? ⟨gb301,1,none⟩ = some (.slice A1_1 l1_1.length c1_1):=(blk_cell BK301.out 1).trans rfl;have hcz20_2 : w17.cell? ⟨gb301,2,none⟩ = some (.int .i64 a1_2):=(blk_cell BK301.out 2).trans rfl;have hfz20_0:=blk_frozen BK301.out 0;have hfz20_1:=blk_frozen BK301.out 1;have hfz20_2:=blk_frozen BK301.out 2))
  go_ret
  exact ⟨by first | rfl | (simp [errW_none,errW_some] <;> rfl) | (simp [*,errW_none,errW_some] <;> rfl),by repeat (first | (with_reducible first | exact HB.out | apply below_alloc | apply pw_below_drewN | apply below_drew1 | refine below_set ?_ GE300.out | refine below_set ?_ GE301.out) | exact HB.out)⟩
/-! ### impl_GoodLoops: function 36 (by hand: a variable whose row a pointer's method hands on) -/
/-- slices.EqualFunc with the law's literal. -/
def impl_GoodLoops_ef.l0 : Nat → List S58 → List S58 → Int → Option Bool
 | 0,_,_,_ => none
 | k + 1,x,y,i => if i < (x.length : Int) then (if 0 ≤ i then (if i < (y.length : Int) then ((impl_GoodLoops_1.f k (rd_T58 x i).f0 (rd_T58 x i).f1 (rd_T58 x i).f2 (rd_T58 y i).f0 (rd_T58 y i).f1 (rd_T58 y i).f2).bind fun t => (if t = true then (impl_GoodLoops_ef.l0 k x y (wrap64 (i + 1))) else some false)) else none) else none) else some true
def impl_GoodLoops_ef.f (k : Nat) (x y : List S58) : Option Bool:=if (x.length : Int) = (y.length : Int) then impl_GoodLoops_ef.l0 k x y 0 else some false
theorem impl_GoodLoops_ef.mono_l : ∀ k,(∀ y0 y1 y2,LeO (impl_GoodLoops_ef.l0 k y0 y1 y2) (impl_GoodLoops_ef.l0 (k + 1) y0 y1 y2))
 | 0 => fun _ _ _ r h => by simp [impl_GoodLoops_ef.l0] at h
 | k + 1 => by
  have ih0:=impl_GoodLoops_ef.mono_l k
  ·intro y0 y1 y2
   unfold impl_GoodLoops_ef.l0
   repeat' first
   | (with_reducible exact ih0 _ _ _)
   | (with_reducible exact impl_GoodLoops_1.mono _ _ _ _ _ _ _)
   | (with_reducible exact LeO.refl _)
   | (with_reducible exact LeO.none _)
   | (with_reducible refine LeO.ite ?_ ?_)
   | (with_reducible refine LeO.bind ?_ (fun _ => ?_))
theorem impl_GoodLoops_ef.mono : ∀ a0 a1 k,LeO (impl_GoodLoops_ef.f k a0 a1) (impl_GoodLoops_ef.f (k + 1) a0 a1):=by
 intro a0 a1 k
 have ih0:=impl_GoodLoops_ef.mono_l k
 unfold impl_GoodLoops_ef.f
 repeat' first
   | (with_reducible exact ih0 _ _ _)
   | (with_reducible exact impl_GoodLoops_1.mono _ _ _ _ _ _ _)
   | (with_reducible exact LeO.refl _)
   | (with_reducible exact LeO.none _)
   | (with_reducible refine LeO.ite ?_ ?_)
   | (with_reducible refine LeO.bind ?_ (fun _ => ?_))
theorem loopEf_new1 (w : World) (o1 o2 : Obj) : ((w.alloc o1).alloc o2).heap[w.heap.size + 1]? = some o2:=by
 have h:=heap_alloc_new (w.alloc o1) o2
 rwa [show (w.alloc o1).heap.size = w.heap.size + 1 by simp] at h
set_option maxHeartbeats 8000000 in
set_option maxRecDepth 100000 in
theorem impl_GoodLoops_ef.calls (k : Nat) (A0 : Option Addr) (c0 : Nat) (x : List S58) (A1 : Option Addr) (c1 : Nat) (y : List S58) (r : Bool) (w : World) (hr0 : Kd.C k58 w A0 x.length x) (hr1 : Kd.C k58 w A1 y.length y) (hf : impl_GoodLoops_ef.f k x y = some r) :
  Calls Try.prog 60 #[.slice A0 x.length c0,.slice A1 y.length c1,.func (.func 61) #[] #[]] w fun e w' => e = .returned (.bool r) ∧ Below w.heap.size w w':=by
 have hu58:=Try.underlying58
 have HR0:=Aside0.mk hr0
 have HR1:=Aside0.mk hr1
 unfold impl_GoodLoops_ef.f at hf
 clear hr0 hr1
 by_cases d1 : (x.length : Int) = (y.length : Int)
 rotate_left
 ·rw [if_neg d1] at hf
  obtain rfl:=Option.some.inj hf
  have e1 : ((x.length : Int) != (y.length : Int)) = true:=bne_iff_ne.mpr d1
  have e2 : ((x.length : Int) == (y.length : Int)) = false:=beq_eq_false_iff_ne.mpr d1
  have e3 : decide ((x.length : Int) ≠ (y.length : Int)) = true:=decide_eq_true d1
  have e4 : ¬ x.length = y.length:=fun e => d1 (by rw [e])
  clear hf d1
  go_enter Try.func60,Try.ntmps60
  go_wp2
  go_ret
  exact ⟨rfl,Below.refl _ _⟩
 rw [if_pos d1] at hf
 have H':=Aside0.mk hf
 have e1 : ((x.length : Int) != (y.length : Int)) = false:=bne_eq_false_iff_eq.mpr d1
 have e2 : ((x.length : Int) == (y.length : Int)) = true:=beq_iff_eq.mpr d1
 have e3 : decide ((x.length : Int) ≠ (y.length : Int)) = false:=decide_eq_false (fun h => h d1)
 have HLE:=Aside0.mk d1
 clear hf d1
 go_enter Try.func60,Try.ntmps60
 go_wp2
 go_loopg [17] k (fun kq v17 w' => ∃ (i : Int),v17 = .int .i64 i ∧ Aside0 (impl_GoodLoops_ef.l0 kq x y i = some r) ∧ Aside0 (kq ≤ k) ∧ Aside0 (Below w.heap.size w w'))
 case atStart => exact ⟨0,rfl,H',⟨Nat.le_refl _⟩,⟨Below.refl _ _⟩⟩
 case round =>
  clear H' e1 e2 e3
  obtain ⟨i,rfl,HA,HK1,HB⟩:=hrel
  cases gk with
  | zero => exact absurd HA.out (by simp [impl_GoodLoops_ef.l0])
  | succ k1 =>
   have H:=HA.out
   clear HA
   simp only [impl_GoodLoops_ef.l0] at H
   by_cases c3 : i < (x.length : Int)
   ·rw [if_pos c3] at H
    by_cases c4 : 0 ≤ i
    ·rw [if_pos c4] at H
     by_cases c5 : i < (y.length : Int)
     ·rw [if_pos c5] at H
      obtain ⟨t,E1,H⟩:=Option.bind_eq_some_iff.mp H
      obtain ⟨ad,A5,c5',e5,hx0,hx1,hx2,hl5,hi5⟩:=at_T58 (Kd.C_below HR0.out HB.out) i c4 c3
      cases e5
      obtain ⟨ad',A6,c6,e6,hy0,hy1,hy2,hl6,hi6⟩:=at_T58 (Kd.C_below HR1.out HB.out) i c4 c5
      cases e6
      obtain ⟨xi,hxi⟩ : ∃ xi,xi = rd_T58 x i:=⟨_,rfl⟩
      obtain ⟨yi,hyi⟩ : ∃ yi,yi = rd_T58 y i:=⟨_,rfl⟩
      rw [← hxi] at hx0 hx1 hx2 hl5 hi5 E1
      rw [← hyi] at hy0 hy1 hy2 hl6 hi6 E1
      have E:=Aside0.mk E1
      have hya0:=pw_cell_below (below_alloc (Below.refl wr.heap.size wr) (.cells #[.int .i64 xi.f0,.slice A5 xi.f1.length c5',.int .i64 xi.f2] 58)) hy0
      have hya1:=pw_cell_below (below_alloc (Below.refl wr.heap.size wr) (.cells #[.int .i64 xi.f0,.slice A5 xi.f1.length c5',.int .i64 xi.f2] 58)) hy1
      have hya2:=pw_cell_below (below_alloc (Below.refl wr.heap.size wr) (.cells #[.int .i64 xi.f0,.slice A5 xi.f1.length c5',.int .i64 xi.f2] 58)) hy2
      have HX1:=Aside0.mk (blk_alloc (heap_alloc_new wr (.cells #[.int .i64 xi.f0,.slice A5 xi.f1.length c5',.int .i64 xi.f2] 58)) (.cells #[.int .i64 yi.f0,.slice A6 yi.f1.length c6,.int .i64 yi.f2] 58))
      have HX2:=Aside0.mk (loopEf_new1 wr (.cells #[.int .i64 xi.f0,.slice A5 xi.f1.length c5',.int .i64 xi.f2] 58) (.cells #[.int .i64 yi.f0,.slice A6 yi.f1.length c6,.int .i64 yi.f2] 58))
      have hz10:=(blk_cell HX1.out 0).trans rfl
      have hz11:=(blk_cell HX1.out 1).trans rfl
      have hz12:=(blk_cell HX1.out 2).trans rfl
      have hz20:=(blk_cell HX2.out 0).trans rfl
      have hz21:=(blk_cell HX2.out 1).trans rfl
      have hz22:=(blk_cell HX2.out 2).trans rfl
      have HB5:=Aside0.mk (below_alloc (below_alloc HB.out (.cells #[.int .i64 xi.f0,.slice A5 xi.f1.length c5',.int .i64 xi.f2] 58)) (.cells #[.int .i64 yi.f0,.slice A6 yi.f1.length c6,.int .i64 yi.f2] 58))
      have HC5:=Aside0.mk (Kd.C_alloc (Kd.C_alloc hi5 (.cells #[.int .i64 xi.f0,.slice A5 xi.f1.length c5',.int .i64 xi.f2] 58)) (.cells #[.int .i64 yi.f0,.slice A6 yi.f1.length c6,.int .i64 yi.f2] 58))
      have HC6:=Aside0.mk (Kd.C_alloc (Kd.C_alloc hi6 (.cells #[.int .i64 xi.f0,.slice A5 xi.f1.length c5',.int .i64 xi.f2] 58)) (.cells #[.int .i64 yi.f0,.slice A6 yi.f1.length c6,.int .i64 yi.f2] 58))
      have HL5:=Aside0.mk hl5
      have HL6:=Aside0.mk hl6
      have q3 : decide (i < (x.length : Int)) = true:=decide_eq_true c3
      have q4 : decide (0 ≤ i) = true:=decide_eq_true c4
      have p3:=eq_true c3
      have p4:=eq_true c4
      have p5:=eq_true c5
      clear c3 c4 c5 E1 hxi hyi hl5 hi5 hl6 hi6
      cases t with
      | true =>
       rw [if_pos rfl] at H
       have H':=Aside0.mk H
       clear H
       go_wp2_with (first | (go_at_call 61;(refine (impl_GoodLoops_1.calls k1 xi.f0 A5 c5' xi.f1 xi.f2 yi.f0 A6 c6 yi.f1 yi.f2 true _ HC5.out HL5.out HC6.out HL6.out E.out).mono ?_);rintro e w6 ⟨rfl,hb⟩;have HB6:=Aside0.mk (below_step HB5.out hb);clear hb))
       go_roundg k1
       case measure => have:=HK1.out;omega
       case rel => exact ⟨_,rfl,H',⟨by have:=HK1.out;omega⟩,HB6⟩
      | false =>
       rw [if_neg (by decide)] at H
       obtain rfl:=Option.some.inj H
       go_wp2_with (first | (go_at_call 61;(refine (impl_GoodLoops_1.calls k1 xi.f0 A5 c5' xi.f1 xi.f2 yi.f0 A6 c6 yi.f1 yi.f2 false _ HC5.out HL5.out HC6.out HL6.out E.out).mono ?_);rintro e w6 ⟨rfl,hb⟩;have HB6:=Aside0.mk (below_step HB5.out hb);clear hb))
       go_ret
       exact ⟨rfl,HB6.out⟩
     ·rw [if_neg c5] at H;exact absurd H (by simp)
    ·rw [if_neg c4] at H;exact absurd H (by simp)
   ·rw [if_neg c3] at H
    obtain rfl:=Option.some.inj H
    have q3 : decide (i < (x.length : Int)) = false:=decide_eq_false c3
    clear c3
    go_wp2
    go_ret
    exact ⟨rfl,HB.out⟩
def impl_GoodLoops.f (k : Nat) (g : List (List Int)) (y : List S58) : Option (Bool × Bool):=(impl_reducibleGraph.f k g).bind fun b => (if b = true then ((impl_Graph_loops.f k g).bind fun x => ((impl_GoodLoops_ef.f k x y).bind fun t => (some (t,true)))) else (some (false,false)))
theorem impl_GoodLoops.mono : ∀ a0 a1 k,LeO (impl_GoodLoops.f k a0 a1) (impl_GoodLoops.f (k + 1) a0 a1):=by
 intro a0 a1 k
 unfold impl_GoodLoops.f
 repeat' first
   | (with_reducible exact impl_reducibleGraph.mono _ _)
   | (with_reducible exact impl_Graph_loops.mono _ _)
   | (with_reducible exact impl_GoodLoops_ef.mono _ _ _)
   | (with_reducible exact LeO.refl _)
   | (with_reducible exact LeO.none _)
   | (with_reducible refine LeO.ite ?_ ?_)
   | (with_reducible refine LeO.bind ?_ (fun _ => ?_))
set_option maxHeartbeats 8000000 in
set_option maxRecDepth 100000 in
theorem impl_GoodLoops.calls (k : Nat) (A0_0 : Option Addr) (c0_0 : Nat) (l0_0 : List (List Int)) (A1 : Option Addr) (c1 : Nat) (l1 : List S58) (r1 : Bool) (r2 : Bool) (w : World) (hr0_0 : Kd.C (Kd.slice 3 (Kd.int .i64)) w A0_0 l0_0.length l0_0) (hc0_0 : l0_0.length ≤ c0_0) (hr1 : Kd.C k58 w A1 l1.length l1) (hc1 : l1.length ≤ c1) (h : impl_GoodLoops.f k l0_0 l1 = some (r1,r2)) :
  Calls Try.prog 36 #[.agg #[.slice A0_0 l0_0.length c0_0],.slice A1 l1.length c1] w fun e w' => e = .returned (.tuple #[.bool r1,.bool r2]) ∧ Below w.heap.size w w':=by
 have hu27:=Try.underlying28
 have hu58:=Try.underlying58
 have HR0:=Aside0.mk hr0_0
 have HC0:=Aside0.mk hc0_0
 clear hr0_0 hc0_0
 unfold impl_GoodLoops.f at h
 obtain ⟨b,A1',H⟩:=Option.bind_eq_some_iff.mp h
 have A:=Aside0.mk A1'
 have HBX:=Aside0.mk (heap_alloc_new w (.cells #[.slice A0_0 l0_0.length c0_0] 28))
 have HB:=Aside0.mk (below_alloc (Below.refl w.heap.size w) (.cells #[.slice A0_0 l0_0.length c0_0] 28))
 have HR1:=Aside0.mk hr1
 clear h A1' hr1 hc1
 cases b with
 | false =>
  rw [if_neg (by decide)] at H
  simp only [Option.some.injEq,Prod.mk.injEq] at H
  obtain ⟨rfl,rfl⟩:=H
  go_enter Try.func36,Try.ntmps36
  go_wp2_with (first | (go_at_call 47;(refine (impl_reducibleGraph.calls k _ _ l0_0 false _ (Kd.C_below HR0.out HB.out) HC0.out A.out).mono ?_);rintro e w2 ⟨rfl,hb⟩;have HB2:=Aside0.mk (below_step HB.out hb);have HBX2:=Aside0.mk (blk_below HBX.out hb);clear hb))
  go_ret2
  exact ⟨rfl,HB2.out⟩
 | true =>
  rw [if_pos rfl] at H
  obtain ⟨x,B1,H⟩:=Option.bind_eq_some_iff.mp H
  obtain ⟨t,D1,H⟩:=Option.bind_eq_some_iff.mp H
  simp only [Option.some.injEq,Prod.mk.injEq] at H
  obtain ⟨rfl,rfl⟩:=H
  have B:=Aside0.mk B1
  have D:=Aside0.mk D1
  clear B1 D1
  go_enter Try.func36,Try.ntmps36
  go_wp2_with (first | (go_at_call 47;(refine (impl_reducibleGraph.calls k _ _ l0_0 true _ (Kd.C_below HR0.out HB.out) HC0.out A.out).mono ?_);rintro e w2 ⟨rfl,hb⟩;have HB2:=Aside0.mk (below_step HB.out hb);have HBX2:=Aside0.mk (blk_below HBX.out hb);clear hb) | (go_at_call 49;(refine (impl_Graph_loops.calls k _ _ _ l0_0 x _ HBX2.out (Kd.C_below HR0.out HB2.out) HC0.out B.out).mono ?_);rintro e w3 ⟨v0,rfl,ho,hb⟩;have HO:=Aside0.mk (Kd.S_lower ho HB2.out.size);have HB3:=Aside0.mk (below_step HB2.out hb);clear ho hb;obtain ⟨Av,cv,ev⟩:=Kd.S_slice HO.out;subst ev) | (go_at_call 60;(refine (impl_GoodLoops_ef.calls k Av cv x A1 c1 l1 t _ (Kd.S_reads' HO.out).2.2 (Kd.C_below HR1.out HB3.out) D.out).mono ?_);rintro e w4 ⟨rfl,hb⟩;have HB4:=Aside0.mk (below_step HB3.out hb);clear hb))
  go_ret2
  exact ⟨rfl,HB4.out⟩
end Go.Proofs.Ytbmnoenbhlfjaaa.Q
