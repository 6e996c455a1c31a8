-- WRITTEN BY A PROGRAM OF THIS SESSION
import Derived.Test.YthgkhfhfahifmaaQ0
import Derived.Test.YthgkhfhfahifmaaQ5
import Derived.Test.YthgkhfhfahifmaaQ6
namespace Go.Proofs.Ythgkhfhfahifmaa.Q
open Go.RowKit Go.Proofs.YthgkhfhfahifmaaW.PrintWords Go.Proofs.YthgkhfhfahifmaaW.PrintLast Go.Proofs.YthgkhfhfahifmaaW.PrintMore
attribute [local go_sem] max2_int min2_int max_two min_two max_three min_three max_four min_four   -- for this text's walks alone
set_option linter.unusedVariables false
set_option linter.unusedSimpArgs false

/-! ### spec_l6Block: function 36 -/
mutual
def spec_l6Block.l0 : Nat → Int → List (S79) → Int → Int → List (S79) → Int → Int → List Int → Option (Bool)
 | 0,_,_,_,_,_,_,_,_ => none
 | k + 1,x1,x11,x12,x13,x195000,x195001,x195002,x195003 => if x13 < x12 then (if 0 ≤ x13 then (if x13 < (x11.length : Int) then ((spec_l6Flat.f k ((rd_T79 x11 x13).f0) ((rd_T79 x11 x13).f1) ((rd_T79 x11 x13).f2) ((rd_T79 x11 x13).f3) ((rd_T79 x11 x13).f4) ((rd_T79 x11 x13).f5)).bind fun t197 => (if t197 = true then (spec_l6Block.l0 k x1 x11 x12 (wrap64 (x13 + 1)) x195000 x195001 x195002 x195003) else (some false))) else (none)) else (none)) else (spec_l6Block.l1 k x1 x195003 (x195003.length : Int) 0 x195000 x195001 x195002 x195003)
def spec_l6Block.l1 : Nat → Int → List Int → Int → Int → List (S79) → Int → Int → List Int → Option (Bool)
 | 0,_,_,_,_,_,_,_,_ => none
 | k + 1,x1,x22,x23,x24,x195000,x195001,x195002,x195003 => if x24 < x23 then (if 0 ≤ x24 then (if x24 < (x22.length : Int) then (if (rd x22 x24) < 0 then (some false) else (if (rd x22 x24) ≥ x1 then (some false) else (spec_l6Block.l1 k x1 x22 x23 (wrap64 (x24 + 1)) x195000 x195001 x195002 x195003))) else (none)) else (none)) else (if x195001 = 1 then (if (x195003.length : Int) = 1 then (if x195002 = 0 then (some (decide ((x195000.length : Int) ≤ 60))) else (some false)) else (some false)) else (if x195001 = 2 then (if (x195003.length : Int) = 2 then ((spec_l6Name.f x195002).bind fun t199 => (if t199 = true then (some (decide ((x195000.length : Int) ≤ 60))) else (some false))) else (some false)) else (if x195001 = 5 then ((spec_l1In.f (x195003.length : Int) 2 6).bind fun t200 => (if t200 = true then ((spec_l6Name.f x195002).bind fun t201 => (if t201 = true then (some (decide ((x195000.length : Int) ≤ 60))) else (some false))) else (some false))) else ((spec_l1In.f x195001 3 4).bind fun t202 => (if t202 = true then (if (x195003.length : Int) = 0 then (if x195002 = 0 then (some (decide ((x195000.length : Int) ≤ 60))) else (some false)) else (some false)) else (some false))))))
end
def spec_l6Block.f (k : Nat) (l0_0 : List (S79)) (a0_1 : Int) (a0_2 : Int) (l0_3 : List Int) (a1 : Int) : Option (Bool):=spec_l6Block.l0 k a1 l0_0 (l0_0.length : Int) 0 l0_0 a0_1 a0_2 l0_3
theorem spec_l6Block.mono_l : ∀ k,(∀ y0 y1 y2 y3 y4 y5 y6 y7,LeO (spec_l6Block.l0 k y0 y1 y2 y3 y4 y5 y6 y7) (spec_l6Block.l0 (k + 1) y0 y1 y2 y3 y4 y5 y6 y7)) ∧ (∀ y0 y1 y2 y3 y4 y5 y6 y7,LeO (spec_l6Block.l1 k y0 y1 y2 y3 y4 y5 y6 y7) (spec_l6Block.l1 (k + 1) y0 y1 y2 y3 y4 y5 y6 y7))
 | 0 => ⟨fun _ _ _ _ _ _ _ _ r h => by simp [spec_l6Block.l0] at h,fun _ _ _ _ _ _ _ _ r h => by simp [spec_l6Block.l1] at h⟩
 | k + 1 => by
  obtain ⟨ih0,ih1⟩:=spec_l6Block.mono_l k
  refine ⟨?_,?_⟩
  ·intro y0 y1 y2 y3 y4 y5 y6 y7
   unfold spec_l6Block.l0
   repeat' first
   | (with_reducible exact ih0 _ _ _ _ _ _ _ _)
   | (with_reducible exact ih1 _ _ _ _ _ _ _ _)
   | (with_reducible exact spec_l6Flat.mono _ _ _ _ _ _ _)
   | (with_reducible exact LeO.refl _)
   | (with_reducible exact LeO.none _)
   | (with_reducible refine LeO.ite ?_ ?_)
   | (with_reducible refine LeO.bind ?_ (fun _ => ?_))
  ·intro y0 y1 y2 y3 y4 y5 y6 y7
   unfold spec_l6Block.l1
   repeat' first
   | (with_reducible exact ih0 _ _ _ _ _ _ _ _)
   | (with_reducible exact ih1 _ _ _ _ _ _ _ _)
   | (with_reducible exact spec_l6Flat.mono _ _ _ _ _ _ _)
   | (with_reducible exact LeO.refl _)
   | (with_reducible exact LeO.none _)
   | (with_reducible refine LeO.ite ?_ ?_)
   | (with_reducible refine LeO.bind ?_ (fun _ => ?_))
theorem spec_l6Block.mono : ∀ a0 a1 a2 a3 a4 k,LeO (spec_l6Block.f k a0 a1 a2 a3 a4) (spec_l6Block.f (k + 1) a0 a1 a2 a3 a4):=by
 intro a0 a1 a2 a3 a4 k
 obtain ⟨ih0,ih1⟩:=spec_l6Block.mono_l k
 unfold spec_l6Block.f
 repeat' first
   | (with_reducible exact ih0 _ _ _ _ _ _ _ _)
   | (with_reducible exact ih1 _ _ _ _ _ _ _ _)
   | (with_reducible exact spec_l6Flat.mono _ _ _ _ _ _ _)
   | (with_reducible exact LeO.refl _)
   | (with_reducible exact LeO.none _)
   | (with_reducible refine LeO.ite ?_ ?_)
   | (with_reducible refine LeO.bind ?_ (fun _ => ?_))
set_option maxHeartbeats 8000000 in
set_option maxRecDepth 100000 in
theorem spec_l6Block.calls (k : Nat) (A0_0 : Option Addr) (c0_0 : Nat) (l0_0 : List (S79)) (a0_1 : Int) (a0_2 : Int) (A0_3 : Option Addr) (c0_3 : Nat) (l0_3 : List Int) (a1 : Int) (r : Bool) (w : World) (hr0_0 : Kd.C k79 w A0_0 l0_0.length l0_0) (hc0_0 : l0_0.length ≤ c0_0) (hr0_3 : Kd.C (Kd.int .i64) w A0_3 l0_3.length l0_3) (hc0_3 : l0_3.length ≤ c0_3) (h : spec_l6Block.f k l0_0 a0_1 a0_2 l0_3 a1 = some r) :
  Calls Try.prog 36 #[.agg #[.slice A0_0 l0_0.length c0_0,.int .i64 a0_1,.int .i64 a0_2,.slice A0_3 l0_3.length c0_3],.int .i64 a1] w fun e w' => e = .returned (.bool r) ∧ Below w.heap.size w w':=by
 have hu56:=Try.underlying56
 have hu79:=Try.underlying79
 have HR0_0:=Aside0.mk hr0_0
 have HC0_0:=Aside0.mk hc0_0
 clear hr0_0 hc0_0
 have HR0_3:=Aside0.mk hr0_3
 have HC0_3:=Aside0.mk hc0_3
 clear hr0_3 hc0_3
 have HB:=Aside0.mk (Below.refl w.heap.size w)
 have H : (spec_l6Block.l0 k a1 l0_0 (l0_0.length : Int) 0 l0_0 a0_1 a0_2 l0_3) = some r:=h
 clear h
 have H':=Aside0.mk H
 clear H
 go_enter Try.func36,Try.ntmps36
 go_wp2_with (first | ((with_reducible refine gate_dst (N:=2) rfl ?_);(try (refine gate_guard (by rfl) ?_;dsimp only));refine box_event ?hg (N:=2) ?hd (cs:=#[.slice A0_0 l0_0.length c0_0,.int .i64 a0_1,.int .i64 a0_2,.slice A0_3 l0_3.length c0_3]) (t:=56) ?hr ?_;(case hd => rfl);(case hg => rfl);(case hr => first | (go_simp;done) | (go_simp;rfl));intro gb194 hg w3 hbox hb;have n0_:=Aside0.mk (below_step (by repeat (with_reducible first | exact HB.out | apply below_alloc | apply pw_below_drewN | apply below_drew1)) hb);have n1_:=Aside0.mk (hbox);have n2_:=Aside0.mk ((by rw [hg];exact (below_size (by repeat (with_reducible first | exact HB.out | apply below_alloc | apply pw_below_drewN | apply below_drew1))) : w.heap.size ≤ gb194));have n3_:=Aside0.mk ((by rw [hg];exact (below_size (by repeat (with_reducible first | exact HB.out | apply below_alloc | apply pw_below_drewN | apply below_drew1))) : w.heap.size ≤ gb194));clear HB;have HB:=n0_;have BK194:=n1_;have GW194:=n2_;have GE194:=n3_;clear n0_ n1_ n2_ n3_;clear hb hbox hg;have hcz4_0 : w3.cell? ⟨gb194,0,none⟩ = some (.slice A0_0 l0_0.length c0_0):=(blk_cell BK194.out 0).trans rfl;have hcz4_1 : w3.cell? ⟨gb194,1,none⟩ = some (.int .i64 a0_1):=(blk_cell BK194.out 1).trans rfl;have hcz4_2 : w3.cell? ⟨gb194,2,none⟩ = some (.int .i64 a0_2):=(blk_cell BK194.out 2).trans rfl;have hcz4_3 : w3.cell? ⟨gb194,3,none⟩ = some (.slice A0_3 l0_3.length c0_3):=(blk_cell BK194.out 3).trans rfl;have hfz4_0:=blk_frozen BK194.out 0;have hfz4_1:=blk_frozen BK194.out 1;have hfz4_2:=blk_frozen BK194.out 2;have hfz4_3:=blk_frozen BK194.out 3))
 go_loopg [13] k (fun kq v13 w' => ∃ (x13_1 : Int),v13 = .int .i64 x13_1 ∧ Aside0 (spec_l6Block.l0 kq a1 l0_0 (l0_0.length : Int) x13_1 l0_0 a0_1 a0_2 l0_3 = some r) ∧ Aside0 (kq ≤ k) ∧ Aside0 (w'.heap[gb194]? = some (.cells #[(.slice A0_0 l0_0.length c0_0),.int .i64 a0_1,.int .i64 a0_2,(.slice A0_3 l0_3.length c0_3)] 56 (0,0))) ∧ Aside0 (Below w.heap.size w w'))
 case atStart => exact ⟨(0),(by first | rfl | (simp;done) | (simp [*];done)),H',⟨Nat.le_refl _⟩,⟨by (with_reducible repeat (first | refine blk_drewN ?_ _ | refine blk_drew ?_ | refine blk_alloc ?_ _));exact BK194.out⟩,⟨by repeat (with_reducible first | exact HB.out | apply below_alloc | apply pw_below_drewN | apply below_drew1 | refine below_set ?_ GE194.out)⟩⟩
 case round =>
  clear H'
  try clear p2
  try clear c3
  try clear hcz4_0
  try clear hcz4_1
  try clear hcz4_2
  try clear hcz4_3
  try clear hfz4_0
  try clear hfz4_1
  try clear hfz4_2
  try clear hfz4_3
  obtain ⟨x13_1,rfl,HA,HK1,BK194,HB⟩:=hrel
  cases gk with
  | zero => exact absurd HA.out (by simp [spec_l6Block.l0])
  | succ k1 =>
   have H:=HA.out
   clear HA
   simp only [spec_l6Block.l0] at H
   by_cases c5 : x13_1 < (l0_0.length : Int)
   ·rw [if_pos c5] at H
    have c5b0 : decide (x13_1 < (l0_0.length : Int)) = true:=decide_eq_true c5
    clear c5
    by_cases c6 : 0 ≤ x13_1
    rotate_left
    ·rw [if_neg c6] at H
     exact absurd H (by simp)
    rw [if_pos c6] at H
    have c6b0 : decide (0 ≤ x13_1) = true:=decide_eq_true c6
    clear c6
    by_cases c7 : x13_1 < (l0_0.length : Int)
    rotate_left
    ·rw [if_neg c7] at H
     exact absurd H (by simp)
    rw [if_pos c7] at H
    have c7b0 : decide (x13_1 < (l0_0.length : Int)) = true:=decide_eq_true c7
    clear c7
    replace H:=Option.bind_eq_some_iff.mp H
    obtain ⟨t197,A80,H⟩:=H
    replace H : (if t197 = true then (spec_l6Block.l0 k1 a1 l0_0 (l0_0.length : Int) (wrap64 (x13_1 + 1)) l0_0 a0_1 a0_2 l0_3) else (some false)) = some r:=H
    have A8:=Aside0.mk A80
    clear A80
    by_cases c9 : t197 = true
    rotate_left
    ·replace c9:=Bool.eq_false_iff.mpr c9
     subst c9
     have H1 : (some false) = some r:=by rw [if_neg (show ¬ (false = true) by decide)] at H;exact H
     clear H
     have H:=H1
     clear H1
     obtain rfl:=Option.some.inj H
     have p195 : 0 ≤ (x13_1 : Int):=of_decide_eq_true (by assumption)
     have q195 : x13_1 < (l0_0.length : Int):=of_decide_eq_true (by assumption)
     obtain ⟨ad195,e195,hx195_0,hx195_1,hx195_2,hx195_3,hx195_4,hx195_5⟩:=at_T79 HR0_0.out x13_1 p195 q195
     cases e195
     replace hx195_0:=(HB.out.cell (World.block_lt_of_cell? w _ hx195_0)).trans hx195_0
     replace hx195_1:=(HB.out.cell (World.block_lt_of_cell? w _ hx195_1)).trans hx195_1
     replace hx195_2:=(HB.out.cell (World.block_lt_of_cell? w _ hx195_2)).trans hx195_2
     replace hx195_3:=(HB.out.cell (World.block_lt_of_cell? w _ hx195_3)).trans hx195_3
     replace hx195_4:=(HB.out.cell (World.block_lt_of_cell? w _ hx195_4)).trans hx195_4
     replace hx195_5:=(HB.out.cell (World.block_lt_of_cell? w _ hx195_5)).trans hx195_5
     replace p195:=eq_true p195
     replace q195:=eq_true q195
     go_wp2_with (first | ((with_reducible refine gate_dst (N:=6) rfl ?_);(try (refine gate_guard (by rfl) ?_;dsimp only));refine box_event ?hg (N:=6) ?hd (cs:=#[.int .i64 0,.int .i64 0,.int .i64 0,.int .i64 0,.int .i64 0,.int .i64 0]) (t:=79) ?hr ?_;(case hd => rfl);(case hg => rfl);(case hr => first | (go_simp;done) | (go_simp;rfl));intro gb196 hg w14 hbox hb;have n0_:=Aside0.mk (blk_below (g:=gb194) (o:=.cells #[.slice (some ad195) l0_0.length c0_0,.int .i64 a0_1,.int .i64 a0_2,.slice A0_3 l0_3.length c0_3] 56 (0,0)) (by (with_reducible repeat (first | refine blk_drewN ?_ _ | refine blk_drew ?_ | refine blk_alloc ?_ _));exact BK194.out) hb);have n1_:=Aside0.mk (below_step (by repeat (with_reducible first | exact HB.out | apply below_alloc | apply pw_below_drewN | apply below_drew1 | refine below_set ?_ GE194.out)) hb);have n2_:=Aside0.mk (hbox);have n3_:=Aside0.mk ((by rw [hg];exact (below_size (by repeat (with_reducible first | exact HB.out | apply below_alloc | apply pw_below_drewN | apply below_drew1 | refine below_set ?_ GE194.out))) : w.heap.size ≤ gb196));have n4_:=Aside0.mk ((by rw [hg];exact (below_size (by repeat (with_reducible first | exact HB.out | apply below_alloc | apply pw_below_drewN | apply below_drew1 | refine below_set ?_ GE194.out))) : w.heap.size ≤ gb196));have n5_:=Aside0.mk ((by rw [hg];exact Nat.ne_of_lt (blk_lt (g:=gb194) (o:=.cells #[.slice (some ad195) l0_0.length c0_0,.int .i64 a0_1,.int .i64 a0_2,.slice A0_3 l0_3.length c0_3] 56 (0,0)) (by (with_reducible repeat (first | refine blk_drewN ?_ _ | refine blk_drew ?_ | refine blk_alloc ?_ _));exact BK194.out)) : gb194 ≠ gb196));have n6_:=Aside0.mk ((by rw [hg];exact Nat.ne_of_gt (blk_lt (g:=gb194) (o:=.cells #[.slice (some ad195) l0_0.length c0_0,.int .i64 a0_1,.int .i64 a0_2,.slice A0_3 l0_3.length c0_3] 56 (0,0)) (by (with_reducible repeat (first | refine blk_drewN ?_ _ | refine blk_drew ?_ | refine blk_alloc ?_ _));exact BK194.out)) : gb196 ≠ gb194));clear BK194;clear HB;have BK194:=n0_;have HB:=n1_;have BK196:=n2_;have GW196:=n3_;have GE196:=n4_;have NB194_196:=n5_;have NB196_194:=n6_;clear n0_ n1_ n2_ n3_ n4_ n5_ n6_;clear hb hbox hg;have hnb15:=NB196_194.out;have hnc15:=NB194_196.out;have hcz16_0 : w14.cell? ⟨gb196,0,none⟩ = some (.int .i64 0):=(blk_cell BK196.out 0).trans rfl;have hcz16_1 : w14.cell? ⟨gb196,1,none⟩ = some (.int .i64 0):=(blk_cell BK196.out 1).trans rfl;have hcz16_2 : w14.cell? ⟨gb196,2,none⟩ = some (.int .i64 0):=(blk_cell BK196.out 2).trans rfl;have hcz16_3 : w14.cell? ⟨gb196,3,none⟩ = some (.int .i64 0):=(blk_cell BK196.out 3).trans rfl;have hcz16_4 : w14.cell? ⟨gb196,4,none⟩ = some (.int .i64 0):=(blk_cell BK196.out 4).trans rfl;have hcz16_5 : w14.cell? ⟨gb196,5,none⟩ = some (.int .i64 0):=(blk_cell BK196.out 5).trans rfl;have hfz16_0:=blk_frozen BK196.out 0;have hfz16_1:=blk_frozen BK196.out 1;have hfz16_2:=blk_frozen BK196.out 2;have hfz16_3:=blk_frozen BK196.out 3;have hfz16_4:=blk_frozen BK196.out 4;have hfz16_5:=blk_frozen BK196.out 5) | ((with_reducible refine gate_callee (f:=62) rfl ?_);refine goesL_ (some 18) rfl rfl Try.func62 (by kernel_rfl) rfl #[.agg #[.int .i64 ((rd_T79 l0_0 x13_1).f0),.int .i64 ((rd_T79 l0_0 x13_1).f1),.int .i64 ((rd_T79 l0_0 x13_1).f2),.int .i64 ((rd_T79 l0_0 x13_1).f3),.int .i64 ((rd_T79 l0_0 x13_1).f4),.int .i64 ((rd_T79 l0_0 x13_1).f5)]] rfl (by (try simp only [List.map_toArray,List.map_cons,List.map_nil]);first | done | rfl | (simp only [List.length_drop,List.length_take];rfl)) ?_;(with_reducible refine (spec_l6Flat.calls k1 ((rd_T79 l0_0 x13_1).f0) ((rd_T79 l0_0 x13_1).f1) ((rd_T79 l0_0 x13_1).f2) ((rd_T79 l0_0 x13_1).f3) ((rd_T79 l0_0 x13_1).f4) ((rd_T79 l0_0 x13_1).f5) false _ A8.out).mono ?_);rintro e w17 ⟨rfl,hb⟩;refine ⟨_,rfl,?_⟩;have n0_:=Aside0.mk (blk_below (g:=gb194) (o:=.cells #[.slice (some ad195) l0_0.length c0_0,.int .i64 a0_1,.int .i64 a0_2,.slice A0_3 l0_3.length c0_3] 56 (0,0)) (by (with_reducible repeat (first | refine blk_drewN ?_ _ | refine blk_drew ?_ | refine blk_alloc ?_ _));refine blk_far ?_ NB194_196.out _;(with_reducible repeat (first | refine blk_drewN ?_ _ | refine blk_drew ?_ | refine blk_alloc ?_ _));refine blk_far ?_ NB194_196.out _;(with_reducible repeat (first | refine blk_drewN ?_ _ | refine blk_drew ?_ | refine blk_alloc ?_ _));refine blk_far ?_ NB194_196.out _;(with_reducible repeat (first | refine blk_drewN ?_ _ | refine blk_drew ?_ | refine blk_alloc ?_ _));refine blk_far ?_ NB194_196.out _;(with_reducible repeat (first | refine blk_drewN ?_ _ | refine blk_drew ?_ | refine blk_alloc ?_ _));refine blk_far ?_ NB194_196.out _;(with_reducible repeat (first | refine blk_drewN ?_ _ | refine blk_drew ?_ | refine blk_alloc ?_ _));refine blk_far ?_ NB194_196.out _;(with_reducible repeat (first | refine blk_drewN ?_ _ | refine blk_drew ?_ | refine blk_alloc ?_ _));exact BK194.out) hb);have n1_:=Aside0.mk (blk_below (g:=gb196) (o:=.cells #[.int .i64 ((rd_T79 l0_0 x13_1).f0),.int .i64 ((rd_T79 l0_0 x13_1).f1),.int .i64 ((rd_T79 l0_0 x13_1).f2),.int .i64 ((rd_T79 l0_0 x13_1).f3),.int .i64 ((rd_T79 l0_0 x13_1).f4),.int .i64 ((rd_T79 l0_0 x13_1).f5)] 79 (0,0)) (by (with_reducible repeat (first | refine blk_drewN ?_ _ | refine blk_drew ?_ | refine blk_alloc ?_ _));refine blk_put (cs:=#[.int .i64 ((rd_T79 l0_0 x13_1).f0),.int .i64 ((rd_T79 l0_0 x13_1).f1),.int .i64 ((rd_T79 l0_0 x13_1).f2),.int .i64 ((rd_T79 l0_0 x13_1).f3),.int .i64 ((rd_T79 l0_0 x13_1).f4),.int .i64 0]) ?_ 5 _ rfl;(with_reducible repeat (first | refine blk_drewN ?_ _ | refine blk_drew ?_ | refine blk_alloc ?_ _));refine blk_put (cs:=#[.int .i64 ((rd_T79 l0_0 x13_1).f0),.int .i64 ((rd_T79 l0_0 x13_1).f1),.int .i64 ((rd_T79 l0_0 x13_1).f2),.int .i64 ((rd_T79 l0_0 x13_1).f3),.int .i64 0,.int .i64 0]) ?_ 4 _ rfl;(with_reducible repeat (first | refine blk_drewN ?_ _ | refine blk_drew ?_ | refine blk_alloc ?_ _));refine blk_put (cs:=#[.int .i64 ((rd_T79 l0_0 x13_1).f0),.int .i64 ((rd_T79 l0_0 x13_1).f1),.int .i64 ((rd_T79 l0_0 x13_1).f2),.int .i64 0,.int .i64 0,.int .i64 0]) ?_ 3 _ rfl;(with_reducible repeat (first | refine blk_drewN ?_ _ | refine blk_drew ?_ | refine blk_alloc ?_ _));refine blk_put (cs:=#[.int .i64 ((rd_T79 l0_0 x13_1).f0),.int .i64 ((rd_T79 l0_0 x13_1).f1),.int .i64 0,.int .i64 0,.int .i64 0,.int .i64 0]) ?_ 2 _ rfl;(with_reducible repeat (first | refine blk_drewN ?_ _ | refine blk_drew ?_ | refine blk_alloc ?_ _));refine blk_put (cs:=#[.int .i64 ((rd_T79 l0_0 x13_1).f0),.int .i64 0,.int .i64 0,.int .i64 0,.int .i64 0,.int .i64 0]) ?_ 1 _ rfl;(with_reducible repeat (first | refine blk_drewN ?_ _ | refine blk_drew ?_ | refine blk_alloc ?_ _));refine blk_put (cs:=#[.int .i64 0,.int .i64 0,.int .i64 0,.int .i64 0,.int .i64 0,.int .i64 0]) ?_ 0 _ rfl;(with_reducible repeat (first | refine blk_drewN ?_ _ | refine blk_drew ?_ | refine blk_alloc ?_ _));exact BK196.out) hb);have n2_:=Aside0.mk (below_step (by repeat (with_reducible first | exact HB.out | apply below_alloc | apply pw_below_drewN | apply below_drew1 | refine below_set ?_ GE194.out | refine below_set ?_ GE196.out)) hb);clear BK194;clear BK196;clear HB;have BK194:=n0_;have BK196:=n1_;have HB:=n2_;clear n0_ n1_ n2_;(try clear hb);(try clear hb2);(try clear hk);(try clear hi)))
     go_ret
     exact ⟨by first | rfl | (simp [*,errW_none,errW_some] <;> rfl),by repeat (with_reducible first | exact HB.out | apply below_alloc | apply pw_below_drewN | apply below_drew1 | refine below_set ?_ GE194.out | refine below_set ?_ GE196.out)⟩
    subst c9
    have H1 : (spec_l6Block.l0 k1 a1 l0_0 (l0_0.length : Int) (wrap64 (x13_1 + 1)) l0_0 a0_1 a0_2 l0_3) = some r:=by rw [if_pos rfl] at H;exact H
    clear H
    have H:=H1
    clear H1
    have H':=Aside0.mk H
    clear H
    have p195 : 0 ≤ (x13_1 : Int):=of_decide_eq_true (by assumption)
    have q195 : x13_1 < (l0_0.length : Int):=of_decide_eq_true (by assumption)
    obtain ⟨ad195,e195,hx195_0,hx195_1,hx195_2,hx195_3,hx195_4,hx195_5⟩:=at_T79 HR0_0.out x13_1 p195 q195
    cases e195
    replace hx195_0:=(HB.out.cell (World.block_lt_of_cell? w _ hx195_0)).trans hx195_0
    replace hx195_1:=(HB.out.cell (World.block_lt_of_cell? w _ hx195_1)).trans hx195_1
    replace hx195_2:=(HB.out.cell (World.block_lt_of_cell? w _ hx195_2)).trans hx195_2
    replace hx195_3:=(HB.out.cell (World.block_lt_of_cell? w _ hx195_3)).trans hx195_3
    replace hx195_4:=(HB.out.cell (World.block_lt_of_cell? w _ hx195_4)).trans hx195_4
    replace hx195_5:=(HB.out.cell (World.block_lt_of_cell? w _ hx195_5)).trans hx195_5
    replace p195:=eq_true p195
    replace q195:=eq_true q195
    go_wp2_with (first | ((with_reducible refine gate_dst (N:=6) rfl ?_);(try (refine gate_guard (by rfl) ?_;dsimp only));refine box_event ?hg (N:=6) ?hd (cs:=#[.int .i64 0,.int .i64 0,.int .i64 0,.int .i64 0,.int .i64 0,.int .i64 0]) (t:=79) ?hr ?_;(case hd => rfl);(case hg => rfl);(case hr => first | (go_simp;done) | (go_simp;rfl));intro gb196 hg w10 hbox hb;have n0_:=Aside0.mk (blk_below (g:=gb194) (o:=.cells #[.slice (some ad195) l0_0.length c0_0,.int .i64 a0_1,.int .i64 a0_2,.slice A0_3 l0_3.length c0_3] 56 (0,0)) (by (with_reducible repeat (first | refine blk_drewN ?_ _ | refine blk_drew ?_ | refine blk_alloc ?_ _));exact BK194.out) hb);have n1_:=Aside0.mk (below_step (by repeat (with_reducible first | exact HB.out | apply below_alloc | apply pw_below_drewN | apply below_drew1 | refine below_set ?_ GE194.out)) hb);have n2_:=Aside0.mk (hbox);have n3_:=Aside0.mk ((by rw [hg];exact (below_size (by repeat (with_reducible first | exact HB.out | apply below_alloc | apply pw_below_drewN | apply below_drew1 | refine below_set ?_ GE194.out))) : w.heap.size ≤ gb196));have n4_:=Aside0.mk ((by rw [hg];exact (below_size (by repeat (with_reducible first | exact HB.out | apply below_alloc | apply pw_below_drewN | apply below_drew1 | refine below_set ?_ GE194.out))) : w.heap.size ≤ gb196));have n5_:=Aside0.mk ((by rw [hg];exact Nat.ne_of_lt (blk_lt (g:=gb194) (o:=.cells #[.slice (some ad195) l0_0.length c0_0,.int .i64 a0_1,.int .i64 a0_2,.slice A0_3 l0_3.length c0_3] 56 (0,0)) (by (with_reducible repeat (first | refine blk_drewN ?_ _ | refine blk_drew ?_ | refine blk_alloc ?_ _));exact BK194.out)) : gb194 ≠ gb196));have n6_:=Aside0.mk ((by rw [hg];exact Nat.ne_of_gt (blk_lt (g:=gb194) (o:=.cells #[.slice (some ad195) l0_0.length c0_0,.int .i64 a0_1,.int .i64 a0_2,.slice A0_3 l0_3.length c0_3] 56 (0,0)) (by (with_reducible repeat (first | refine blk_drewN ?_ _ | refine blk_drew ?_ | refine blk_alloc ?_ _));exact BK194.out)) : gb196 ≠ gb194));clear BK194;clear HB;have BK194:=n0_;have HB:=n1_;have BK196:=n2_;have GW196:=n3_;have GE196:=n4_;have NB194_196:=n5_;have NB196_194:=n6_;clear n0_ n1_ n2_ n3_ n4_ n5_ n6_;clear hb hbox hg;have hnb11:=NB196_194.out;have hnc11:=NB194_196.out;have hcz12_0 : w10.cell? ⟨gb196,0,none⟩ = some (.int .i64 0):=(blk_cell BK196.out 0).trans rfl;have hcz12_1 : w10.cell? ⟨gb196,1,none⟩ = some (.int .i64 0):=(blk_cell BK196.out 1).trans rfl;have hcz12_2 : w10.cell? ⟨gb196,2,none⟩ = some (.int .i64 0):=(blk_cell BK196.out 2).trans rfl;have hcz12_3 : w10.cell? ⟨gb196,3,none⟩ = some (.int .i64 0):=(blk_cell BK196.out 3).trans rfl;have hcz12_4 : w10.cell? ⟨gb196,4,none⟩ = some (.int .i64 0):=(blk_cell BK196.out 4).trans rfl;have hcz12_5 : w10.cell? ⟨gb196,5,none⟩ = some (.int .i64 0):=(blk_cell BK196.out 5).trans rfl;have hfz12_0:=blk_frozen BK196.out 0;have hfz12_1:=blk_frozen BK196.out 1;have hfz12_2:=blk_frozen BK196.out 2;have hfz12_3:=blk_frozen BK196.out 3;have hfz12_4:=blk_frozen BK196.out 4;have hfz12_5:=blk_frozen BK196.out 5) | ((with_reducible refine gate_callee (f:=62) rfl ?_);refine goesL_ (some 18) rfl rfl Try.func62 (by kernel_rfl) rfl #[.agg #[.int .i64 ((rd_T79 l0_0 x13_1).f0),.int .i64 ((rd_T79 l0_0 x13_1).f1),.int .i64 ((rd_T79 l0_0 x13_1).f2),.int .i64 ((rd_T79 l0_0 x13_1).f3),.int .i64 ((rd_T79 l0_0 x13_1).f4),.int .i64 ((rd_T79 l0_0 x13_1).f5)]] rfl (by (try simp only [List.map_toArray,List.map_cons,List.map_nil]);first | done | rfl | (simp only [List.length_drop,List.length_take];rfl)) ?_;(with_reducible refine (spec_l6Flat.calls k1 ((rd_T79 l0_0 x13_1).f0) ((rd_T79 l0_0 x13_1).f1) ((rd_T79 l0_0 x13_1).f2) ((rd_T79 l0_0 x13_1).f3) ((rd_T79 l0_0 x13_1).f4) ((rd_T79 l0_0 x13_1).f5) true _ A8.out).mono ?_);rintro e w13 ⟨rfl,hb⟩;refine ⟨_,rfl,?_⟩;have n0_:=Aside0.mk (blk_below (g:=gb194) (o:=.cells #[.slice (some ad195) l0_0.length c0_0,.int .i64 a0_1,.int .i64 a0_2,.slice A0_3 l0_3.length c0_3] 56 (0,0)) (by (with_reducible repeat (first | refine blk_drewN ?_ _ | refine blk_drew ?_ | refine blk_alloc ?_ _));refine blk_far ?_ NB194_196.out _;(with_reducible repeat (first | refine blk_drewN ?_ _ | refine blk_drew ?_ | refine blk_alloc ?_ _));refine blk_far ?_ NB194_196.out _;(with_reducible repeat (first | refine blk_drewN ?_ _ | refine blk_drew ?_ | refine blk_alloc ?_ _));refine blk_far ?_ NB194_196.out _;(with_reducible repeat (first | refine blk_drewN ?_ _ | refine blk_drew ?_ | refine blk_alloc ?_ _));refine blk_far ?_ NB194_196.out _;(with_reducible repeat (first | refine blk_drewN ?_ _ | refine blk_drew ?_ | refine blk_alloc ?_ _));refine blk_far ?_ NB194_196.out _;(with_reducible repeat (first | refine blk_drewN ?_ _ | refine blk_drew ?_ | refine blk_alloc ?_ _));refine blk_far ?_ NB194_196.out _;(with_reducible repeat (first | refine blk_drewN ?_ _ | refine blk_drew ?_ | refine blk_alloc ?_ _));exact BK194.out) hb);have n1_:=Aside0.mk (blk_below (g:=gb196) (o:=.cells #[.int .i64 ((rd_T79 l0_0 x13_1).f0),.int .i64 ((rd_T79 l0_0 x13_1).f1),.int .i64 ((rd_T79 l0_0 x13_1).f2),.int .i64 ((rd_T79 l0_0 x13_1).f3),.int .i64 ((rd_T79 l0_0 x13_1).f4),.int .i64 ((rd_T79 l0_0 x13_1).f5)] 79 (0,0)) (by (with_reducible repeat (first | refine blk_drewN ?_ _ | refine blk_drew ?_ | refine blk_alloc ?_ _));refine blk_put (cs:=#[.int .i64 ((rd_T79 l0_0 x13_1).f0),.int .i64 ((rd_T79 l0_0 x13_1).f1),.int .i64 ((rd_T79 l0_0 x13_1).f2),.int .i64 ((rd_T79 l0_0 x13_1).f3),.int .i64 ((rd_T79 l0_0 x13_1).f4),.int .i64 0]) ?_ 5 _ rfl;(with_reducible repeat (first | refine blk_drewN ?_ _ | refine blk_drew ?_ | refine blk_alloc ?_ _));refine blk_put (cs:=#[.int .i64 ((rd_T79 l0_0 x13_1).f0),.int .i64 ((rd_T79 l0_0 x13_1).f1),.int .i64 ((rd_T79 l0_0 x13_1).f2),.int .i64 ((rd_T79 l0_0 x13_1).f3),.int .i64 0,.int .i64 0]) ?_ 4 _ rfl;(with_reducible repeat (first | refine blk_drewN ?_ _ | refine blk_drew ?_ | refine blk_alloc ?_ _));refine blk_put (cs:=#[.int .i64 ((rd_T79 l0_0 x13_1).f0),.int .i64 ((rd_T79 l0_0 x13_1).f1),.int .i64 ((rd_T79 l0_0 x13_1).f2),.int .i64 0,.int .i64 0,.int .i64 0]) ?_ 3 _ rfl;(with_reducible repeat (first | refine blk_drewN ?_ _ | refine blk_drew ?_ | refine blk_alloc ?_ _));refine blk_put (cs:=#[.int .i64 ((rd_T79 l0_0 x13_1).f0),.int .i64 ((rd_T79 l0_0 x13_1).f1),.int .i64 0,.int .i64 0,.int .i64 0,.int .i64 0]) ?_ 2 _ rfl;(with_reducible repeat (first | refine blk_drewN ?_ _ | refine blk_drew ?_ | refine blk_alloc ?_ _));refine blk_put (cs:=#[.int .i64 ((rd_T79 l0_0 x13_1).f0),.int .i64 0,.int .i64 0,.int .i64 0,.int .i64 0,.int .i64 0]) ?_ 1 _ rfl;(with_reducible repeat (first | refine blk_drewN ?_ _ | refine blk_drew ?_ | refine blk_alloc ?_ _));refine blk_put (cs:=#[.int .i64 0,.int .i64 0,.int .i64 0,.int .i64 0,.int .i64 0,.int .i64 0]) ?_ 0 _ rfl;(with_reducible repeat (first | refine blk_drewN ?_ _ | refine blk_drew ?_ | refine blk_alloc ?_ _));exact BK196.out) hb);have n2_:=Aside0.mk (below_step (by repeat (with_reducible first | exact HB.out | apply below_alloc | apply pw_below_drewN | apply below_drew1 | refine below_set ?_ GE194.out | refine below_set ?_ GE196.out)) hb);clear BK194;clear BK196;clear HB;have BK194:=n0_;have BK196:=n1_;have HB:=n2_;clear n0_ n1_ n2_;(try clear hb);(try clear hb2);(try clear hk);(try clear hi)))
    go_roundg k1
    case measure => have:=HK1.out;omega
    case rel => exact ⟨(wrap64 (x13_1 + 1)),(by first | rfl | (simp;done) | (simp [*];done)),H',⟨by have:=HK1.out;omega⟩,⟨by (with_reducible repeat (first | refine blk_drewN ?_ _ | refine blk_drew ?_ | refine blk_alloc ?_ _));exact BK194.out⟩,⟨by repeat (with_reducible first | exact HB.out | apply below_alloc | apply pw_below_drewN | apply below_drew1 | refine below_set ?_ GE194.out | refine below_set ?_ GE196.out)⟩⟩
   rw [if_neg c5] at H
   have c5b0 : decide (x13_1 < (l0_0.length : Int)) = false:=decide_eq_false c5
   clear c5
   have H':=Aside0.mk H
   clear H
   have hcz18_0 : wr.cell? ⟨gb194,0,none⟩ = some (.slice A0_0 l0_0.length c0_0):=(blk_cell BK194.out 0).trans rfl
   have hcz18_1 : wr.cell? ⟨gb194,1,none⟩ = some (.int .i64 a0_1):=(blk_cell BK194.out 1).trans rfl
   have hcz18_2 : wr.cell? ⟨gb194,2,none⟩ = some (.int .i64 a0_2):=(blk_cell BK194.out 2).trans rfl
   have hcz18_3 : wr.cell? ⟨gb194,3,none⟩ = some (.slice A0_3 l0_3.length c0_3):=(blk_cell BK194.out 3).trans rfl
   have hfz18_0:=blk_frozen BK194.out 0
   have hfz18_1:=blk_frozen BK194.out 1
   have hfz18_2:=blk_frozen BK194.out 2
   have hfz18_3:=blk_frozen BK194.out 3
   go_wp2
   go_loopg [24] k1 (fun kq v24 w' => ∃ (x24_2 : Int),v24 = .int .i64 x24_2 ∧ Aside0 (spec_l6Block.l1 kq a1 l0_3 (l0_3.length : Int) x24_2 l0_0 a0_1 a0_2 l0_3 = some r) ∧ Aside0 (kq ≤ k1) ∧ Aside0 (w'.heap[gb194]? = some (.cells #[(.slice A0_0 l0_0.length c0_0),.int .i64 a0_1,.int .i64 a0_2,(.slice A0_3 l0_3.length c0_3)] 56 (0,0))) ∧ Aside0 (Below w.heap.size w w'))
   case atStart => exact ⟨(0),(by first | rfl | (simp;done) | (simp [*];done)),H',⟨Nat.le_refl _⟩,⟨by (with_reducible repeat (first | refine blk_drewN ?_ _ | refine blk_drew ?_ | refine blk_alloc ?_ _));exact BK194.out⟩,⟨by repeat (with_reducible first | exact HB.out | apply below_alloc | apply pw_below_drewN | apply below_drew1 | refine below_set ?_ GE194.out)⟩⟩
   case round =>
    clear H'
    try clear c1
    try clear p1
    try clear q1
    try clear hx1
    try clear p2
    try clear c3
    try clear c5
    try clear c5b0
    try clear c6
    try clear c6b0
    try clear p6
    try clear c7
    try clear c7b0
    try clear c9
    try clear c11
    try clear c15
    try clear hcz12_0
    try clear hcz12_1
    try clear hcz12_2
    try clear hcz12_3
    try clear hcz12_4
    try clear hcz12_5
    try clear hcz16_0
    try clear hcz16_1
    try clear hcz16_2
    try clear hcz16_3
    try clear hcz16_4
    try clear hcz16_5
    try clear hcz18_0
    try clear hcz18_1
    try clear hcz18_2
    try clear hcz18_3
    try clear hcz4_0
    try clear hcz4_1
    try clear hcz4_2
    try clear hcz4_3
    try clear hfz12_0
    try clear hfz12_1
    try clear hfz12_2
    try clear hfz12_3
    try clear hfz12_4
    try clear hfz12_5
    try clear hfz16_0
    try clear hfz16_1
    try clear hfz16_2
    try clear hfz16_3
    try clear hfz16_4
    try clear hfz16_5
    try clear hfz18_0
    try clear hfz18_1
    try clear hfz18_2
    try clear hfz18_3
    try clear hfz4_0
    try clear hfz4_1
    try clear hfz4_2
    try clear hfz4_3
    try clear hx195_0
    try clear hx195_1
    try clear hx195_2
    try clear hx195_3
    try clear hx195_4
    try clear hx195_5
    try clear p195
    try clear p2
    try clear q195
    obtain ⟨x24_2,rfl,HA,HK2,BK194,HB⟩:=hrel
    cases gk with
    | zero => exact absurd HA.out (by simp [spec_l6Block.l1])
    | succ k2 =>
     have H:=HA.out
     clear HA
     simp only [spec_l6Block.l1] at H
     by_cases c19 : x24_2 < (l0_3.length : Int)
     ·rw [if_pos c19] at H
      have c19b0 : decide (x24_2 < (l0_3.length : Int)) = true:=decide_eq_true c19
      clear c19
      by_cases c20 : 0 ≤ x24_2
      rotate_left
      ·rw [if_neg c20] at H
       exact absurd H (by simp)
      rw [if_pos c20] at H
      have c20b0 : decide (0 ≤ x24_2) = true:=decide_eq_true c20
      clear c20
      by_cases c21 : x24_2 < (l0_3.length : Int)
      rotate_left
      ·rw [if_neg c21] at H
       exact absurd H (by simp)
      rw [if_pos c21] at H
      have c21b0 : decide (x24_2 < (l0_3.length : Int)) = true:=decide_eq_true c21
      clear c21
      by_cases c22 : (rd l0_3 x24_2) < 0
      ·rw [if_pos c22] at H
       have c22b0 : decide ((rd l0_3 x24_2) < 0) = true:=decide_eq_true c22
       clear c22
       obtain rfl:=Option.some.inj H
       have p198 : 0 ≤ (x24_2 : Int):=of_decide_eq_true (by assumption)
       have q198 : x24_2 < (l0_3.length : Int):=of_decide_eq_true (by assumption)
       obtain ⟨ad198,e198,hx198_0⟩:=Kd.at_int HR0_3.out x24_2 p198 q198
       cases e198
       replace hx198_0:=(HB.out.cell (World.block_lt_of_cell? w _ hx198_0)).trans hx198_0
       replace p198:=eq_true p198
       replace q198:=eq_true q198
       go_wp2
       go_ret
       exact ⟨by first | rfl | (simp [*,errW_none,errW_some] <;> rfl),by repeat (with_reducible first | exact HB.out | apply below_alloc | apply pw_below_drewN | apply below_drew1 | refine below_set ?_ GE194.out)⟩
      rw [if_neg c22] at H
      have c22b0 : decide ((rd l0_3 x24_2) < 0) = false:=decide_eq_false c22
      clear c22
      by_cases c23 : (rd l0_3 x24_2) ≥ a1
      ·rw [if_pos c23] at H
       have c23b0 : decide (a1 ≤ (rd l0_3 x24_2)) = true:=decide_eq_true c23
       clear c23
       obtain rfl:=Option.some.inj H
       have p198 : 0 ≤ (x24_2 : Int):=of_decide_eq_true (by assumption)
       have q198 : x24_2 < (l0_3.length : Int):=of_decide_eq_true (by assumption)
       obtain ⟨ad198,e198,hx198_0⟩:=Kd.at_int HR0_3.out x24_2 p198 q198
       cases e198
       replace hx198_0:=(HB.out.cell (World.block_lt_of_cell? w _ hx198_0)).trans hx198_0
       replace p198:=eq_true p198
       replace q198:=eq_true q198
       go_wp2
       go_ret
       exact ⟨by first | rfl | (simp [*,errW_none,errW_some] <;> rfl),by repeat (with_reducible first | exact HB.out | apply below_alloc | apply pw_below_drewN | apply below_drew1 | refine below_set ?_ GE194.out)⟩
      rw [if_neg c23] at H
      have c23b0 : decide (a1 ≤ (rd l0_3 x24_2)) = false:=decide_eq_false c23
      clear c23
      have H':=Aside0.mk H
      clear H
      have p198 : 0 ≤ (x24_2 : Int):=of_decide_eq_true (by assumption)
      have q198 : x24_2 < (l0_3.length : Int):=of_decide_eq_true (by assumption)
      obtain ⟨ad198,e198,hx198_0⟩:=Kd.at_int HR0_3.out x24_2 p198 q198
      cases e198
      replace hx198_0:=(HB.out.cell (World.block_lt_of_cell? w _ hx198_0)).trans hx198_0
      replace p198:=eq_true p198
      replace q198:=eq_true q198
      go_wp2
      go_roundg k2
      case measure => have:=HK1.out;have:=HK2.out;omega
      case rel => exact ⟨(wrap64 (x24_2 + 1)),(by first | rfl | (simp;done) | (simp [*];done)),H',⟨by have:=HK1.out;have:=HK2.out;omega⟩,⟨by (with_reducible repeat (first | refine blk_drewN ?_ _ | refine blk_drew ?_ | refine blk_alloc ?_ _));exact BK194.out⟩,⟨by repeat (with_reducible first | exact HB.out | apply below_alloc | apply pw_below_drewN | apply below_drew1 | refine below_set ?_ GE194.out)⟩⟩
     rw [if_neg c19] at H
     have c19b0 : decide (x24_2 < (l0_3.length : Int)) = false:=decide_eq_false c19
     clear c19
     by_cases c24 : a0_1 = 1
     ·rw [if_pos c24] at H
      have c24b0 : (a0_1 == 1) = true:=beq_iff_eq.mpr c24
      have c24b1 : (a0_1 != 1) = false:=bne_eq_false_iff_eq.mpr c24
      clear c24
      by_cases c25 : (l0_3.length : Int) = 1
      rotate_left
      ·rw [if_neg c25] at H
       have c25b0 : ((l0_3.length : Int) == 1) = false:=beq_eq_false_iff_ne.mpr c25
       have c25b1 : ((l0_3.length : Int) != 1) = true:=bne_iff_ne.mpr c25
       obtain rfl:=Option.some.inj H
       have hcz29_0 : wr.cell? ⟨gb194,0,none⟩ = some (.slice A0_0 l0_0.length c0_0):=(blk_cell BK194.out 0).trans rfl
       have hcz29_1 : wr.cell? ⟨gb194,1,none⟩ = some (.int .i64 a0_1):=(blk_cell BK194.out 1).trans rfl
       have hcz29_2 : wr.cell? ⟨gb194,2,none⟩ = some (.int .i64 a0_2):=(blk_cell BK194.out 2).trans rfl
       have hcz29_3 : wr.cell? ⟨gb194,3,none⟩ = some (.slice A0_3 l0_3.length c0_3):=(blk_cell BK194.out 3).trans rfl
       have hfz29_0:=blk_frozen BK194.out 0
       have hfz29_1:=blk_frozen BK194.out 1
       have hfz29_2:=blk_frozen BK194.out 2
       have hfz29_3:=blk_frozen BK194.out 3
       go_wp2
       go_ret
       exact ⟨by first | rfl | (simp [*,errW_none,errW_some] <;> rfl),by repeat (with_reducible first | exact HB.out | apply below_alloc | apply pw_below_drewN | apply below_drew1 | refine below_set ?_ GE194.out)⟩
      rw [if_pos c25] at H
      have c25b0 : ((l0_3.length : Int) == 1) = true:=beq_iff_eq.mpr c25
      have c25b1 : ((l0_3.length : Int) != 1) = false:=bne_eq_false_iff_eq.mpr c25
      clear c25
      by_cases c26 : a0_2 = 0
      rotate_left
      ·rw [if_neg c26] at H
       have c26b0 : (a0_2 == 0) = false:=beq_eq_false_iff_ne.mpr c26
       have c26b1 : (a0_2 != 0) = true:=bne_iff_ne.mpr c26
       obtain rfl:=Option.some.inj H
       have hcz28_0 : wr.cell? ⟨gb194,0,none⟩ = some (.slice A0_0 l0_0.length c0_0):=(blk_cell BK194.out 0).trans rfl
       have hcz28_1 : wr.cell? ⟨gb194,1,none⟩ = some (.int .i64 a0_1):=(blk_cell BK194.out 1).trans rfl
       have hcz28_2 : wr.cell? ⟨gb194,2,none⟩ = some (.int .i64 a0_2):=(blk_cell BK194.out 2).trans rfl
       have hcz28_3 : wr.cell? ⟨gb194,3,none⟩ = some (.slice A0_3 l0_3.length c0_3):=(blk_cell BK194.out 3).trans rfl
       have hfz28_0:=blk_frozen BK194.out 0
       have hfz28_1:=blk_frozen BK194.out 1
       have hfz28_2:=blk_frozen BK194.out 2
       have hfz28_3:=blk_frozen BK194.out 3
       go_wp2
       go_ret
       exact ⟨by first | rfl | (simp [*,errW_none,errW_some] <;> rfl),by repeat (with_reducible first | exact HB.out | apply below_alloc | apply pw_below_drewN | apply below_drew1 | refine below_set ?_ GE194.out)⟩
      rw [if_pos c26] at H
      have c26b0 : (a0_2 == 0) = true:=beq_iff_eq.mpr c26
      have c26b1 : (a0_2 != 0) = false:=bne_eq_false_iff_eq.mpr c26
      clear c26
      obtain rfl:=Option.some.inj H
      have hcz27_0 : wr.cell? ⟨gb194,0,none⟩ = some (.slice A0_0 l0_0.length c0_0):=(blk_cell BK194.out 0).trans rfl
      have hcz27_1 : wr.cell? ⟨gb194,1,none⟩ = some (.int .i64 a0_1):=(blk_cell BK194.out 1).trans rfl
      have hcz27_2 : wr.cell? ⟨gb194,2,none⟩ = some (.int .i64 a0_2):=(blk_cell BK194.out 2).trans rfl
      have hcz27_3 : wr.cell? ⟨gb194,3,none⟩ = some (.slice A0_3 l0_3.length c0_3):=(blk_cell BK194.out 3).trans rfl
      have hfz27_0:=blk_frozen BK194.out 0
      have hfz27_1:=blk_frozen BK194.out 1
      have hfz27_2:=blk_frozen BK194.out 2
      have hfz27_3:=blk_frozen BK194.out 3
      go_wp2
      go_ret
      exact ⟨by first | rfl | (simp [*,errW_none,errW_some] <;> rfl),by repeat (with_reducible first | exact HB.out | apply below_alloc | apply pw_below_drewN | apply below_drew1 | refine below_set ?_ GE194.out)⟩
     rw [if_neg c24] at H
     have c24b0 : (a0_1 == 1) = false:=beq_eq_false_iff_ne.mpr c24
     have c24b1 : (a0_1 != 1) = true:=bne_iff_ne.mpr c24
     by_cases c30 : a0_1 = 2
     ·rw [if_pos c30] at H
      have c30b0 : (a0_1 == 2) = true:=beq_iff_eq.mpr c30
      have c30b1 : (a0_1 != 2) = false:=bne_eq_false_iff_eq.mpr c30
      clear c30
      by_cases c31 : (l0_3.length : Int) = 2
      rotate_left
      ·rw [if_neg c31] at H
       have c31b0 : ((l0_3.length : Int) == 2) = false:=beq_eq_false_iff_ne.mpr c31
       have c31b1 : ((l0_3.length : Int) != 2) = true:=bne_iff_ne.mpr c31
       obtain rfl:=Option.some.inj H
       have hcz36_0 : wr.cell? ⟨gb194,0,none⟩ = some (.slice A0_0 l0_0.length c0_0):=(blk_cell BK194.out 0).trans rfl
       have hcz36_1 : wr.cell? ⟨gb194,1,none⟩ = some (.int .i64 a0_1):=(blk_cell BK194.out 1).trans rfl
       have hcz36_2 : wr.cell? ⟨gb194,2,none⟩ = some (.int .i64 a0_2):=(blk_cell BK194.out 2).trans rfl
       have hcz36_3 : wr.cell? ⟨gb194,3,none⟩ = some (.slice A0_3 l0_3.length c0_3):=(blk_cell BK194.out 3).trans rfl
       have hfz36_0:=blk_frozen BK194.out 0
       have hfz36_1:=blk_frozen BK194.out 1
       have hfz36_2:=blk_frozen BK194.out 2
       have hfz36_3:=blk_frozen BK194.out 3
       go_wp2
       go_ret
       exact ⟨by first | rfl | (simp [*,errW_none,errW_some] <;> rfl),by repeat (with_reducible first | exact HB.out | apply below_alloc | apply pw_below_drewN | apply below_drew1 | refine below_set ?_ GE194.out)⟩
      rw [if_pos c31] at H
      have c31b0 : ((l0_3.length : Int) == 2) = true:=beq_iff_eq.mpr c31
      have c31b1 : ((l0_3.length : Int) != 2) = false:=bne_eq_false_iff_eq.mpr c31
      clear c31
      replace H:=Option.bind_eq_some_iff.mp H
      obtain ⟨t199,A320,H⟩:=H
      replace H : (if t199 = true then (some (decide ((l0_0.length : Int) ≤ 60))) else (some false)) = some r:=H
      have A32:=Aside0.mk A320
      clear A320
      by_cases c33 : t199 = true
      ·subst c33
       have H1 : (some (decide ((l0_0.length : Int) ≤ 60))) = some r:=by rw [if_pos rfl] at H;exact H
       clear H
       have H:=H1
       clear H1
       obtain rfl:=Option.some.inj H
       have hcz34_0 : wr.cell? ⟨gb194,0,none⟩ = some (.slice A0_0 l0_0.length c0_0):=(blk_cell BK194.out 0).trans rfl
       have hcz34_1 : wr.cell? ⟨gb194,1,none⟩ = some (.int .i64 a0_1):=(blk_cell BK194.out 1).trans rfl
       have hcz34_2 : wr.cell? ⟨gb194,2,none⟩ = some (.int .i64 a0_2):=(blk_cell BK194.out 2).trans rfl
       have hcz34_3 : wr.cell? ⟨gb194,3,none⟩ = some (.slice A0_3 l0_3.length c0_3):=(blk_cell BK194.out 3).trans rfl
       have hfz34_0:=blk_frozen BK194.out 0
       have hfz34_1:=blk_frozen BK194.out 1
       have hfz34_2:=blk_frozen BK194.out 2
       have hfz34_3:=blk_frozen BK194.out 3
       go_wp2_with (first | (go_at_call 63;(with_reducible refine (spec_l6Name.calls a0_2 true _ A32.out).mono ?_);rintro e w' ⟨rfl,⟨nd,rfl⟩⟩))
       go_ret
       exact ⟨by first | rfl | (simp [*,errW_none,errW_some] <;> rfl),by repeat (with_reducible first | exact HB.out | apply below_alloc | apply pw_below_drewN | apply below_drew1 | refine below_set ?_ GE194.out)⟩
      replace c33:=Bool.eq_false_iff.mpr c33
      subst c33
      have H1 : (some false) = some r:=by rw [if_neg (show ¬ (false = true) by decide)] at H;exact H
      clear H
      have H:=H1
      clear H1
      obtain rfl:=Option.some.inj H
      have hcz35_0 : wr.cell? ⟨gb194,0,none⟩ = some (.slice A0_0 l0_0.length c0_0):=(blk_cell BK194.out 0).trans rfl
      have hcz35_1 : wr.cell? ⟨gb194,1,none⟩ = some (.int .i64 a0_1):=(blk_cell BK194.out 1).trans rfl
      have hcz35_2 : wr.cell? ⟨gb194,2,none⟩ = some (.int .i64 a0_2):=(blk_cell BK194.out 2).trans rfl
      have hcz35_3 : wr.cell? ⟨gb194,3,none⟩ = some (.slice A0_3 l0_3.length c0_3):=(blk_cell BK194.out 3).trans rfl
      have hfz35_0:=blk_frozen BK194.out 0
      have hfz35_1:=blk_frozen BK194.out 1
      have hfz35_2:=blk_frozen BK194.out 2
      have hfz35_3:=blk_frozen BK194.out 3
      go_wp2_with (first | (go_at_call 63;(with_reducible refine (spec_l6Name.calls a0_2 false _ A32.out).mono ?_);rintro e w' ⟨rfl,⟨nd,rfl⟩⟩))
      go_ret
      exact ⟨by first | rfl | (simp [*,errW_none,errW_some] <;> rfl),by repeat (with_reducible first | exact HB.out | apply below_alloc | apply pw_below_drewN | apply below_drew1 | refine below_set ?_ GE194.out)⟩
     rw [if_neg c30] at H
     have c30b0 : (a0_1 == 2) = false:=beq_eq_false_iff_ne.mpr c30
     have c30b1 : (a0_1 != 2) = true:=bne_iff_ne.mpr c30
     by_cases c37 : a0_1 = 5
     ·rw [if_pos c37] at H
      have c37b0 : (a0_1 == 5) = true:=beq_iff_eq.mpr c37
      have c37b1 : (a0_1 != 5) = false:=bne_eq_false_iff_eq.mpr c37
      clear c37
      replace H:=Option.bind_eq_some_iff.mp H
      obtain ⟨t200,A380,H⟩:=H
      replace H : (if t200 = true then ((spec_l6Name.f a0_2).bind fun t201 => (if t201 = true then (some (decide ((l0_0.length : Int) ≤ 60))) else (some false))) else (some false)) = some r:=H
      have A38:=Aside0.mk A380
      clear A380
      by_cases c39 : t200 = true
      rotate_left
      ·replace c39:=Bool.eq_false_iff.mpr c39
       subst c39
       have H1 : (some false) = some r:=by rw [if_neg (show ¬ (false = true) by decide)] at H;exact H
       clear H
       have H:=H1
       clear H1
       obtain rfl:=Option.some.inj H
       have hcz44_0 : wr.cell? ⟨gb194,0,none⟩ = some (.slice A0_0 l0_0.length c0_0):=(blk_cell BK194.out 0).trans rfl
       have hcz44_1 : wr.cell? ⟨gb194,1,none⟩ = some (.int .i64 a0_1):=(blk_cell BK194.out 1).trans rfl
       have hcz44_2 : wr.cell? ⟨gb194,2,none⟩ = some (.int .i64 a0_2):=(blk_cell BK194.out 2).trans rfl
       have hcz44_3 : wr.cell? ⟨gb194,3,none⟩ = some (.slice A0_3 l0_3.length c0_3):=(blk_cell BK194.out 3).trans rfl
       have hfz44_0:=blk_frozen BK194.out 0
       have hfz44_1:=blk_frozen BK194.out 1
       have hfz44_2:=blk_frozen BK194.out 2
       have hfz44_3:=blk_frozen BK194.out 3
       go_wp2_with (first | ((with_reducible refine gate_callee (f:=37) rfl ?_);refine goesL_ (some 74) rfl rfl Try.func37 (by kernel_rfl) rfl #[.int .i64 (l0_3.length : Int),.int .i64 2,.int .i64 6] rfl (by (try simp only [List.map_toArray,List.map_cons,List.map_nil]);first | done | rfl | (simp only [List.length_drop,List.length_take];rfl)) ?_;(with_reducible refine (spec_l1In.calls (l0_3.length : Int) 2 6 false _ A38.out).mono ?_);rintro e w' ⟨rfl,⟨nd,rfl⟩⟩;refine ⟨_,rfl,?_⟩))
       go_ret
       exact ⟨by first | rfl | (simp [*,errW_none,errW_some] <;> rfl),by repeat (with_reducible first | exact HB.out | apply below_alloc | apply pw_below_drewN | apply below_drew1 | refine below_set ?_ GE194.out)⟩
      subst c39
      have H1 : ((spec_l6Name.f a0_2).bind fun t201 => (if t201 = true then (some (decide ((l0_0.length : Int) ≤ 60))) else (some false))) = some r:=by rw [if_pos rfl] at H;exact H
      clear H
      have H:=H1
      clear H1
      replace H:=Option.bind_eq_some_iff.mp H
      obtain ⟨t201,A400,H⟩:=H
      replace H : (if t201 = true then (some (decide ((l0_0.length : Int) ≤ 60))) else (some false)) = some r:=H
      have A40:=Aside0.mk A400
      clear A400
      by_cases c41 : t201 = true
      ·subst c41
       have H1 : (some (decide ((l0_0.length : Int) ≤ 60))) = some r:=by rw [if_pos rfl] at H;exact H
       clear H
       have H:=H1
       clear H1
       obtain rfl:=Option.some.inj H
       have hcz42_0 : wr.cell? ⟨gb194,0,none⟩ = some (.slice A0_0 l0_0.length c0_0):=(blk_cell BK194.out 0).trans rfl
       have hcz42_1 : wr.cell? ⟨gb194,1,none⟩ = some (.int .i64 a0_1):=(blk_cell BK194.out 1).trans rfl
       have hcz42_2 : wr.cell? ⟨gb194,2,none⟩ = some (.int .i64 a0_2):=(blk_cell BK194.out 2).trans rfl
       have hcz42_3 : wr.cell? ⟨gb194,3,none⟩ = some (.slice A0_3 l0_3.length c0_3):=(blk_cell BK194.out 3).trans rfl
       have hfz42_0:=blk_frozen BK194.out 0
       have hfz42_1:=blk_frozen BK194.out 1
       have hfz42_2:=blk_frozen BK194.out 2
       have hfz42_3:=blk_frozen BK194.out 3
       go_wp2_with (first | ((with_reducible refine gate_callee (f:=37) rfl ?_);refine goesL_ (some 74) rfl rfl Try.func37 (by kernel_rfl) rfl #[.int .i64 (l0_3.length : Int),.int .i64 2,.int .i64 6] rfl (by (try simp only [List.map_toArray,List.map_cons,List.map_nil]);first | done | rfl | (simp only [List.length_drop,List.length_take];rfl)) ?_;(with_reducible refine (spec_l1In.calls (l0_3.length : Int) 2 6 true _ A38.out).mono ?_);rintro e w' ⟨rfl,⟨nd,rfl⟩⟩;refine ⟨_,rfl,?_⟩) | (go_at_call 63;(with_reducible refine (spec_l6Name.calls a0_2 true _ A40.out).mono ?_);rintro e w' ⟨rfl,⟨nd,rfl⟩⟩))
       go_ret
       exact ⟨by first | rfl | (simp [*,errW_none,errW_some] <;> rfl),by repeat (with_reducible first | exact HB.out | apply below_alloc | apply pw_below_drewN | apply below_drew1 | refine below_set ?_ GE194.out)⟩
      replace c41:=Bool.eq_false_iff.mpr c41
      subst c41
      have H1 : (some false) = some r:=by rw [if_neg (show ¬ (false = true) by decide)] at H;exact H
      clear H
      have H:=H1
      clear H1
      obtain rfl:=Option.some.inj H
      have hcz43_0 : wr.cell? ⟨gb194,0,none⟩ = some (.slice A0_0 l0_0.length c0_0):=(blk_cell BK194.out 0).trans rfl
      have hcz43_1 : wr.cell? ⟨gb194,1,none⟩ = some (.int .i64 a0_1):=(blk_cell BK194.out 1).trans rfl
      have hcz43_2 : wr.cell? ⟨gb194,2,none⟩ = some (.int .i64 a0_2):=(blk_cell BK194.out 2).trans rfl
      have hcz43_3 : wr.cell? ⟨gb194,3,none⟩ = some (.slice A0_3 l0_3.length c0_3):=(blk_cell BK194.out 3).trans rfl
      have hfz43_0:=blk_frozen BK194.out 0
      have hfz43_1:=blk_frozen BK194.out 1
      have hfz43_2:=blk_frozen BK194.out 2
      have hfz43_3:=blk_frozen BK194.out 3
      go_wp2_with (first | ((with_reducible refine gate_callee (f:=37) rfl ?_);refine goesL_ (some 74) rfl rfl Try.func37 (by kernel_rfl) rfl #[.int .i64 (l0_3.length : Int),.int .i64 2,.int .i64 6] rfl (by (try simp only [List.map_toArray,List.map_cons,List.map_nil]);first | done | rfl | (simp only [List.length_drop,List.length_take];rfl)) ?_;(with_reducible refine (spec_l1In.calls (l0_3.length : Int) 2 6 true _ A38.out).mono ?_);rintro e w' ⟨rfl,⟨nd,rfl⟩⟩;refine ⟨_,rfl,?_⟩) | (go_at_call 63;(with_reducible refine (spec_l6Name.calls a0_2 false _ A40.out).mono ?_);rintro e w' ⟨rfl,⟨nd,rfl⟩⟩))
      go_ret
      exact ⟨by first | rfl | (simp [*,errW_none,errW_some] <;> rfl),by repeat (with_reducible first | exact HB.out | apply below_alloc | apply pw_below_drewN | apply below_drew1 | refine below_set ?_ GE194.out)⟩
     rw [if_neg c37] at H
     have c37b0 : (a0_1 == 5) = false:=beq_eq_false_iff_ne.mpr c37
     have c37b1 : (a0_1 != 5) = true:=bne_iff_ne.mpr c37
     replace H:=Option.bind_eq_some_iff.mp H
     obtain ⟨t202,A450,H⟩:=H
     replace H : (if t202 = true then (if (l0_3.length : Int) = 0 then (if a0_2 = 0 then (some (decide ((l0_0.length : Int) ≤ 60))) else (some false)) else (some false)) else (some false)) = some r:=H
     have A45:=Aside0.mk A450
     clear A450
     by_cases c46 : t202 = true
     rotate_left
     ·replace c46:=Bool.eq_false_iff.mpr c46
      subst c46
      have H1 : (some false) = some r:=by rw [if_neg (show ¬ (false = true) by decide)] at H;exact H
      clear H
      have H:=H1
      clear H1
      obtain rfl:=Option.some.inj H
      have hcz52_0 : wr.cell? ⟨gb194,0,none⟩ = some (.slice A0_0 l0_0.length c0_0):=(blk_cell BK194.out 0).trans rfl
      have hcz52_1 : wr.cell? ⟨gb194,1,none⟩ = some (.int .i64 a0_1):=(blk_cell BK194.out 1).trans rfl
      have hcz52_2 : wr.cell? ⟨gb194,2,none⟩ = some (.int .i64 a0_2):=(blk_cell BK194.out 2).trans rfl
      have hcz52_3 : wr.cell? ⟨gb194,3,none⟩ = some (.slice A0_3 l0_3.length c0_3):=(blk_cell BK194.out 3).trans rfl
      have hfz52_0:=blk_frozen BK194.out 0
      have hfz52_1:=blk_frozen BK194.out 1
      have hfz52_2:=blk_frozen BK194.out 2
      have hfz52_3:=blk_frozen BK194.out 3
      go_wp2_with (first | ((with_reducible refine gate_callee (f:=37) rfl ?_);refine goesL_ (some 88) rfl rfl Try.func37 (by kernel_rfl) rfl #[.int .i64 a0_1,.int .i64 3,.int .i64 4] rfl (by (try simp only [List.map_toArray,List.map_cons,List.map_nil]);first | done | rfl | (simp only [List.length_drop,List.length_take];rfl)) ?_;(with_reducible refine (spec_l1In.calls a0_1 3 4 false _ A45.out).mono ?_);rintro e w' ⟨rfl,⟨nd,rfl⟩⟩;refine ⟨_,rfl,?_⟩))
      go_ret
      exact ⟨by first | rfl | (simp [*,errW_none,errW_some] <;> rfl),by repeat (with_reducible first | exact HB.out | apply below_alloc | apply pw_below_drewN | apply below_drew1 | refine below_set ?_ GE194.out)⟩
     subst c46
     have H1 : (if (l0_3.length : Int) = 0 then (if a0_2 = 0 then (some (decide ((l0_0.length : Int) ≤ 60))) else (some false)) else (some false)) = some r:=by rw [if_pos rfl] at H;exact H
     clear H
     have H:=H1
     clear H1
     by_cases c47 : (l0_3.length : Int) = 0
     rotate_left
     ·rw [if_neg c47] at H
      have c47b0 : ((l0_3.length : Int) == 0) = false:=beq_eq_false_iff_ne.mpr c47
      have c47b1 : ((l0_3.length : Int) != 0) = true:=bne_iff_ne.mpr c47
      have c47b2 : ¬ (l0_3 = []):=fun h_ => c47 (by rw [h_];rfl)
      obtain rfl:=Option.some.inj H
      have hcz51_0 : wr.cell? ⟨gb194,0,none⟩ = some (.slice A0_0 l0_0.length c0_0):=(blk_cell BK194.out 0).trans rfl
      have hcz51_1 : wr.cell? ⟨gb194,1,none⟩ = some (.int .i64 a0_1):=(blk_cell BK194.out 1).trans rfl
      have hcz51_2 : wr.cell? ⟨gb194,2,none⟩ = some (.int .i64 a0_2):=(blk_cell BK194.out 2).trans rfl
      have hcz51_3 : wr.cell? ⟨gb194,3,none⟩ = some (.slice A0_3 l0_3.length c0_3):=(blk_cell BK194.out 3).trans rfl
      have hfz51_0:=blk_frozen BK194.out 0
      have hfz51_1:=blk_frozen BK194.out 1
      have hfz51_2:=blk_frozen BK194.out 2
      have hfz51_3:=blk_frozen BK194.out 3
      go_wp2_with (first | ((with_reducible refine gate_callee (f:=37) rfl ?_);refine goesL_ (some 88) rfl rfl Try.func37 (by kernel_rfl) rfl #[.int .i64 a0_1,.int .i64 3,.int .i64 4] rfl (by (try simp only [List.map_toArray,List.map_cons,List.map_nil]);first | done | rfl | (simp only [List.length_drop,List.length_take];rfl)) ?_;(with_reducible refine (spec_l1In.calls a0_1 3 4 true _ A45.out).mono ?_);rintro e w' ⟨rfl,⟨nd,rfl⟩⟩;refine ⟨_,rfl,?_⟩))
      go_ret
      exact ⟨by first | rfl | (simp [*,errW_none,errW_some] <;> rfl),by repeat (with_reducible first | exact HB.out | apply below_alloc | apply pw_below_drewN | apply below_drew1 | refine below_set ?_ GE194.out)⟩
     rw [if_pos c47] at H
     have c47b0 : ((l0_3.length : Int) == 0) = true:=beq_iff_eq.mpr c47
     have c47b1 : ((l0_3.length : Int) != 0) = false:=bne_eq_false_iff_eq.mpr c47
     clear c47
     by_cases c48 : a0_2 = 0
     rotate_left
     ·rw [if_neg c48] at H
      have c48b0 : (a0_2 == 0) = false:=beq_eq_false_iff_ne.mpr c48
      have c48b1 : (a0_2 != 0) = true:=bne_iff_ne.mpr c48
      obtain rfl:=Option.some.inj H
      have hcz50_0 : wr.cell? ⟨gb194,0,none⟩ = some (.slice A0_0 l0_0.length c0_0):=(blk_cell BK194.out 0).trans rfl
      have hcz50_1 : wr.cell? ⟨gb194,1,none⟩ = some (.int .i64 a0_1):=(blk_cell BK194.out 1).trans rfl
      have hcz50_2 : wr.cell? ⟨gb194,2,none⟩ = some (.int .i64 a0_2):=(blk_cell BK194.out 2).trans rfl
      have hcz50_3 : wr.cell? ⟨gb194,3,none⟩ = some (.slice A0_3 l0_3.length c0_3):=(blk_cell BK194.out 3).trans rfl
      have hfz50_0:=blk_frozen BK194.out 0
      have hfz50_1:=blk_frozen BK194.out 1
      have hfz50_2:=blk_frozen BK194.out 2
      have hfz50_3:=blk_frozen BK194.out 3
      go_wp2_with (first | ((with_reducible refine gate_callee (f:=37) rfl ?_);refine goesL_ (some 88) rfl rfl Try.func37 (by kernel_rfl) rfl #[.int .i64 a0_1,.int .i64 3,.int .i64 4] rfl (by (try simp only [List.map_toArray,List.map_cons,List.map_nil]);first | done | rfl | (simp only [List.length_drop,List.length_take];rfl)) ?_;(with_reducible refine (spec_l1In.calls a0_1 3 4 true _ A45.out).mono ?_);rintro e w' ⟨rfl,⟨nd,rfl⟩⟩;refine ⟨_,rfl,?_⟩))
      go_ret
      exact ⟨by first | rfl | (simp [*,errW_none,errW_some] <;> rfl),by repeat (with_reducible first | exact HB.out | apply below_alloc | apply pw_below_drewN | apply below_drew1 | refine below_set ?_ GE194.out)⟩
     rw [if_pos c48] at H
     have c48b0 : (a0_2 == 0) = true:=beq_iff_eq.mpr c48
     have c48b1 : (a0_2 != 0) = false:=bne_eq_false_iff_eq.mpr c48
     clear c48
     obtain rfl:=Option.some.inj H
     have hcz49_0 : wr.cell? ⟨gb194,0,none⟩ = some (.slice A0_0 l0_0.length c0_0):=(blk_cell BK194.out 0).trans rfl
     have hcz49_1 : wr.cell? ⟨gb194,1,none⟩ = some (.int .i64 a0_1):=(blk_cell BK194.out 1).trans rfl
     have hcz49_2 : wr.cell? ⟨gb194,2,none⟩ = some (.int .i64 a0_2):=(blk_cell BK194.out 2).trans rfl
     have hcz49_3 : wr.cell? ⟨gb194,3,none⟩ = some (.slice A0_3 l0_3.length c0_3):=(blk_cell BK194.out 3).trans rfl
     have hfz49_0:=blk_frozen BK194.out 0
     have hfz49_1:=blk_frozen BK194.out 1
     have hfz49_2:=blk_frozen BK194.out 2
     have hfz49_3:=blk_frozen BK194.out 3
     go_wp2_with (first | ((with_reducible refine gate_callee (f:=37) rfl ?_);refine goesL_ (some 88) rfl rfl Try.func37 (by kernel_rfl) rfl #[.int .i64 a0_1,.int .i64 3,.int .i64 4] rfl (by (try simp only [List.map_toArray,List.map_cons,List.map_nil]);first | done | rfl | (simp only [List.length_drop,List.length_take];rfl)) ?_;(with_reducible refine (spec_l1In.calls a0_1 3 4 true _ A45.out).mono ?_);rintro e w' ⟨rfl,⟨nd,rfl⟩⟩;refine ⟨_,rfl,?_⟩))
     go_ret
     exact ⟨by first | rfl | (simp [*,errW_none,errW_some] <;> rfl),by repeat (with_reducible first | exact HB.out | apply below_alloc | apply pw_below_drewN | apply below_drew1 | refine below_set ?_ GE194.out)⟩

/-! ### spec_GoodFlow: function 10 -/
def spec_GoodFlow.l0 : Nat → List (S56) → List (S56) → Int → Int → Option (Bool)
 | 0,_,_,_,_ => none
 | k + 1,x0,x5,x6,x7 => if x7 < x6 then (if 0 ≤ x7 then (if x7 < (x5.length : Int) then ((spec_l6Block.f k ((rd_T56 x5 x7).f0) ((rd_T56 x5 x7).f1) ((rd_T56 x5 x7).f2) ((rd_T56 x5 x7).f3) (x0.length : Int)).bind fun t205 => (if t205 = true then (spec_GoodFlow.l0 k x0 x5 x6 (wrap64 (x7 + 1))) else (some false))) else (none)) else (none)) else ((spec_l1In.f (x0.length : Int) 1 64).bind fun t206 => (some t206))
def spec_GoodFlow.f (k : Nat) (l0 : List (S56)) : Option (Bool):=spec_GoodFlow.l0 k l0 l0 (l0.length : Int) 0
theorem spec_GoodFlow.mono_l : ∀ k,(∀ y0 y1 y2 y3,LeO (spec_GoodFlow.l0 k y0 y1 y2 y3) (spec_GoodFlow.l0 (k + 1) y0 y1 y2 y3))
 | 0 => fun _ _ _ _ r h => by simp [spec_GoodFlow.l0] at h
 | k + 1 => by
  have ih0:=spec_GoodFlow.mono_l k
  ·intro y0 y1 y2 y3
   unfold spec_GoodFlow.l0
   repeat' first
   | (with_reducible exact ih0 _ _ _ _)
   | (with_reducible exact spec_l6Block.mono _ _ _ _ _ _)
   | (with_reducible exact LeO.refl _)
   | (with_reducible exact LeO.none _)
   | (with_reducible refine LeO.ite ?_ ?_)
   | (with_reducible refine LeO.bind ?_ (fun _ => ?_))
theorem spec_GoodFlow.mono : ∀ a0 k,LeO (spec_GoodFlow.f k a0) (spec_GoodFlow.f (k + 1) a0):=by
 intro a0 k
 have ih0:=spec_GoodFlow.mono_l k
 unfold spec_GoodFlow.f
 repeat' first
   | (with_reducible exact ih0 _ _ _ _)
   | (with_reducible exact spec_l6Block.mono _ _ _ _ _ _)
   | (with_reducible exact LeO.refl _)
   | (with_reducible exact LeO.none _)
   | (with_reducible refine LeO.ite ?_ ?_)
   | (with_reducible refine LeO.bind ?_ (fun _ => ?_))
set_option maxHeartbeats 8000000 in
set_option maxRecDepth 100000 in
theorem spec_GoodFlow.calls (k : Nat) (A0 : Option Addr) (c0 : Nat) (l0 : List (S56)) (r : Bool) (w : World) (hr0 : Kd.C k56 w A0 l0.length l0) (hc0 : l0.length ≤ c0) (h : spec_GoodFlow.f k l0 = some r) :
  Calls Try.prog 10 #[.slice A0 l0.length c0] w fun e w' => e = .returned (.bool r) ∧ Below w.heap.size w w':=by
 have hu56:=Try.underlying56
 have HR0:=Aside0.mk hr0
 have HC0:=Aside0.mk hc0
 clear hr0 hc0
 have HB:=Aside0.mk (Below.refl w.heap.size w)
 have H : (spec_GoodFlow.l0 k l0 l0 (l0.length : Int) 0) = some r:=h
 clear h
 have H':=Aside0.mk H
 clear H
 go_enter Try.func10,Try.ntmps10
 go_wp2
 go_loopg [7] k (fun kq v7 w' => ∃ (x7_1 : Int),v7 = .int .i64 x7_1 ∧ Aside0 (spec_GoodFlow.l0 kq l0 l0 (l0.length : Int) x7_1 = some r) ∧ Aside0 (kq ≤ k) ∧ Aside0 (Below w.heap.size w w'))
 case atStart => exact ⟨(0),(by first | rfl | (simp;done) | (simp [*];done)),H',⟨Nat.le_refl _⟩,⟨by repeat (with_reducible first | exact HB.out | apply below_alloc | apply pw_below_drewN | apply below_drew1)⟩⟩
 case round =>
  clear H'
  try clear c1
  obtain ⟨x7_1,rfl,HA,HK1,HB⟩:=hrel
  cases gk with
  | zero => exact absurd HA.out (by simp [spec_GoodFlow.l0])
  | succ k1 =>
   have H:=HA.out
   clear HA
   simp only [spec_GoodFlow.l0] at H
   by_cases c2 : x7_1 < (l0.length : Int)
   rotate_left
   ·rw [if_neg c2] at H
    have c2b0 : decide (x7_1 < (l0.length : Int)) = false:=decide_eq_false c2
    clear c2
    replace H:=Option.bind_eq_some_iff.mp H
    obtain ⟨t206,A130,H⟩:=H
    replace H : (some t206) = some r:=H
    have A13:=Aside0.mk A130
    clear A130
    obtain rfl:=Option.some.inj H
    go_wp2_with (first | ((with_reducible refine gate_callee (f:=37) rfl ?_);refine goesL_ (some 19) rfl rfl Try.func37 (by kernel_rfl) rfl #[.int .i64 (l0.length : Int),.int .i64 1,.int .i64 64] rfl (by (try simp only [List.map_toArray,List.map_cons,List.map_nil]);first | done | rfl | (simp only [List.length_drop,List.length_take];rfl)) ?_;(with_reducible refine (spec_l1In.calls (l0.length : Int) 1 64 t206 _ A13.out).mono ?_);rintro e w' ⟨rfl,⟨nd,rfl⟩⟩;refine ⟨_,rfl,?_⟩))
    go_ret
    exact ⟨by first | rfl | (simp [*,errW_none,errW_some] <;> rfl),by repeat (with_reducible first | exact HB.out | apply below_alloc | apply pw_below_drewN | apply below_drew1)⟩
   rw [if_pos c2] at H
   have c2b0 : decide (x7_1 < (l0.length : Int)) = true:=decide_eq_true c2
   clear c2
   by_cases c3 : 0 ≤ x7_1
   rotate_left
   ·rw [if_neg c3] at H
    exact absurd H (by simp)
   rw [if_pos c3] at H
   have c3b0 : decide (0 ≤ x7_1) = true:=decide_eq_true c3
   clear c3
   by_cases c4 : x7_1 < (l0.length : Int)
   rotate_left
   ·rw [if_neg c4] at H
    exact absurd H (by simp)
   rw [if_pos c4] at H
   have c4b0 : decide (x7_1 < (l0.length : Int)) = true:=decide_eq_true c4
   clear c4
   replace H:=Option.bind_eq_some_iff.mp H
   obtain ⟨t205,A50,H⟩:=H
   replace H : (if t205 = true then (spec_GoodFlow.l0 k1 l0 l0 (l0.length : Int) (wrap64 (x7_1 + 1))) else (some false)) = some r:=H
   have A5:=Aside0.mk A50
   clear A50
   by_cases c6 : t205 = true
   rotate_left
   ·replace c6:=Bool.eq_false_iff.mpr c6
    subst c6
    have H1 : (some false) = some r:=by rw [if_neg (show ¬ (false = true) by decide)] at H;exact H
    clear H
    have H:=H1
    clear H1
    obtain rfl:=Option.some.inj H
    have p203 : 0 ≤ (x7_1 : Int):=of_decide_eq_true (by assumption)
    have q203 : x7_1 < (l0.length : Int):=of_decide_eq_true (by assumption)
    obtain ⟨ad203,A203_0,c203_0,A203_3,c203_3,e203,hx203_0,hx203_1,hx203_2,hx203_3,hl203_0,hi203_0,hl203_3,hi203_3⟩:=at_T56 HR0.out x7_1 p203 q203
    cases e203
    replace hx203_0:=(HB.out.cell (World.block_lt_of_cell? w _ hx203_0)).trans hx203_0
    replace hx203_1:=(HB.out.cell (World.block_lt_of_cell? w _ hx203_1)).trans hx203_1
    replace hx203_2:=(HB.out.cell (World.block_lt_of_cell? w _ hx203_2)).trans hx203_2
    replace hx203_3:=(HB.out.cell (World.block_lt_of_cell? w _ hx203_3)).trans hx203_3
    have HR203_0:=Aside0.mk hi203_0
    have HC203_0:=Aside0.mk hl203_0
    clear hi203_0 hl203_0
    have HR203_3:=Aside0.mk hi203_3
    have HC203_3:=Aside0.mk hl203_3
    clear hi203_3 hl203_3
    replace p203:=eq_true p203
    replace q203:=eq_true q203
    go_wp2_with (first | ((with_reducible refine gate_dst (N:=4) rfl ?_);refine box_event ?hg (N:=4) ?hd (cs:=#[.slice none 0 0,.int .i64 0,.int .i64 0,.slice none 0 0]) (t:=56) ?hr ?_;(case hd => rfl);(case hg => rfl);(case hr => first | (go_simp;done) | (go_simp;rfl));intro gb204 hg w10 hbox hb;have n0_:=Aside0.mk (below_step (by repeat (with_reducible first | exact HB.out | apply below_alloc | apply pw_below_drewN | apply below_drew1)) hb);have n1_:=Aside0.mk (hbox);have n2_:=Aside0.mk ((by rw [hg];exact (below_size (by repeat (with_reducible first | exact HB.out | apply below_alloc | apply pw_below_drewN | apply below_drew1))) : w.heap.size ≤ gb204));have n3_:=Aside0.mk ((by rw [hg];exact (below_size (by repeat (with_reducible first | exact HB.out | apply below_alloc | apply pw_below_drewN | apply below_drew1))) : w.heap.size ≤ gb204));clear HB;have HB:=n0_;have BK204:=n1_;have GW204:=n2_;have GE204:=n3_;clear n0_ n1_ n2_ n3_;clear hb hbox hg;have hcz11_0 : w10.cell? ⟨gb204,0,none⟩ = some (.slice none 0 0):=(blk_cell BK204.out 0).trans rfl;have hcz11_1 : w10.cell? ⟨gb204,1,none⟩ = some (.int .i64 0):=(blk_cell BK204.out 1).trans rfl;have hcz11_2 : w10.cell? ⟨gb204,2,none⟩ = some (.int .i64 0):=(blk_cell BK204.out 2).trans rfl;have hcz11_3 : w10.cell? ⟨gb204,3,none⟩ = some (.slice none 0 0):=(blk_cell BK204.out 3).trans rfl;have hfz11_0:=blk_frozen BK204.out 0;have hfz11_1:=blk_frozen BK204.out 1;have hfz11_2:=blk_frozen BK204.out 2;have hfz11_3:=blk_frozen BK204.out 3) | ((with_reducible refine gate_callee (f:=36) rfl ?_);refine goesL_ (some 14) rfl rfl Try.func36 (by kernel_rfl) rfl #[.agg #[.slice A203_0 ((rd_T56 l0 x7_1).f0).length c203_0,.int .i64 ((rd_T56 l0 x7_1).f1),.int .i64 ((rd_T56 l0 x7_1).f2),.slice A203_3 ((rd_T56 l0 x7_1).f3).length c203_3],.int .i64 (l0.length : Int)] rfl (by (try simp only [List.map_toArray,List.map_cons,List.map_nil]);first | done | rfl | (simp only [List.length_drop,List.length_take];rfl)) ?_;(with_reducible refine (spec_l6Block.calls k1 _ _ ((rd_T56 l0 x7_1).f0) ((rd_T56 l0 x7_1).f1) ((rd_T56 l0 x7_1).f2) _ _ ((rd_T56 l0 x7_1).f3) (l0.length : Int) false _ ?side1 ?side2 ?side3 ?side4 A5.out).mono ?_);(case side1 => exact Kd.C_below HR203_0.out (by repeat (with_reducible first | exact HB.out | apply below_alloc | apply pw_below_drewN | apply below_drew1 | refine below_set ?_ GE204.out)));(case side2 => exact HC203_0.out);(case side3 => exact Kd.C_below HR203_3.out (by repeat (with_reducible first | exact HB.out | apply below_alloc | apply pw_below_drewN | apply below_drew1 | refine below_set ?_ GE204.out)));(case side4 => exact HC203_3.out);rintro e w12 ⟨rfl,hb⟩;refine ⟨_,rfl,?_⟩;have n0_:=Aside0.mk (blk_below (g:=gb204) (o:=.cells #[.slice A203_0 ((rd_T56 l0 x7_1).f0).length c203_0,.int .i64 ((rd_T56 l0 x7_1).f1),.int .i64 ((rd_T56 l0 x7_1).f2),.slice A203_3 ((rd_T56 l0 x7_1).f3).length c203_3] 56 (0,0)) (by (with_reducible repeat (first | refine blk_drewN ?_ _ | refine blk_drew ?_ | refine blk_alloc ?_ _));refine blk_put (cs:=#[.slice A203_0 ((rd_T56 l0 x7_1).f0).length c203_0,.int .i64 ((rd_T56 l0 x7_1).f1),.int .i64 ((rd_T56 l0 x7_1).f2),.slice none 0 0]) ?_ 3 _ rfl;(with_reducible repeat (first | refine blk_drewN ?_ _ | refine blk_drew ?_ | refine blk_alloc ?_ _));refine blk_put (cs:=#[.slice A203_0 ((rd_T56 l0 x7_1).f0).length c203_0,.int .i64 ((rd_T56 l0 x7_1).f1),.int .i64 0,.slice none 0 0]) ?_ 2 _ rfl;(with_reducible repeat (first | refine blk_drewN ?_ _ | refine blk_drew ?_ | refine blk_alloc ?_ _));refine blk_put (cs:=#[.slice A203_0 ((rd_T56 l0 x7_1).f0).length c203_0,.int .i64 0,.int .i64 0,.slice none 0 0]) ?_ 1 _ rfl;(with_reducible repeat (first | refine blk_drewN ?_ _ | refine blk_drew ?_ | refine blk_alloc ?_ _));refine blk_put (cs:=#[.slice none 0 0,.int .i64 0,.int .i64 0,.slice none 0 0]) ?_ 0 _ rfl;(with_reducible repeat (first | refine blk_drewN ?_ _ | refine blk_drew ?_ | refine blk_alloc ?_ _));exact BK204.out) hb);have n1_:=Aside0.mk (below_step (by repeat (with_reducible first | exact HB.out | apply below_alloc | apply pw_below_drewN | apply below_drew1 | refine below_set ?_ GE204.out)) hb);clear BK204;clear HB;have BK204:=n0_;have HB:=n1_;clear n0_ n1_;(try clear hb);(try clear hb2);(try clear hk);(try clear hi)))
    go_ret
    exact ⟨by first | rfl | (simp [*,errW_none,errW_some] <;> rfl),by repeat (with_reducible first | exact HB.out | apply below_alloc | apply pw_below_drewN | apply below_drew1 | refine below_set ?_ GE204.out)⟩
   subst c6
   have H1 : (spec_GoodFlow.l0 k1 l0 l0 (l0.length : Int) (wrap64 (x7_1 + 1))) = some r:=by rw [if_pos rfl] at H;exact H
   clear H
   have H:=H1
   clear H1
   have H':=Aside0.mk H
   clear H
   have p203 : 0 ≤ (x7_1 : Int):=of_decide_eq_true (by assumption)
   have q203 : x7_1 < (l0.length : Int):=of_decide_eq_true (by assumption)
   obtain ⟨ad203,A203_0,c203_0,A203_3,c203_3,e203,hx203_0,hx203_1,hx203_2,hx203_3,hl203_0,hi203_0,hl203_3,hi203_3⟩:=at_T56 HR0.out x7_1 p203 q203
   cases e203
   replace hx203_0:=(HB.out.cell (World.block_lt_of_cell? w _ hx203_0)).trans hx203_0
   replace hx203_1:=(HB.out.cell (World.block_lt_of_cell? w _ hx203_1)).trans hx203_1
   replace hx203_2:=(HB.out.cell (World.block_lt_of_cell? w _ hx203_2)).trans hx203_2
   replace hx203_3:=(HB.out.cell (World.block_lt_of_cell? w _ hx203_3)).trans hx203_3
   have HR203_0:=Aside0.mk hi203_0
   have HC203_0:=Aside0.mk hl203_0
   clear hi203_0 hl203_0
   have HR203_3:=Aside0.mk hi203_3
   have HC203_3:=Aside0.mk hl203_3
   clear hi203_3 hl203_3
   replace p203:=eq_true p203
   replace q203:=eq_true q203
   go_wp2_with (first | ((with_reducible refine gate_dst (N:=4) rfl ?_);refine box_event ?hg (N:=4) ?hd (cs:=#[.slice none 0 0,.int .i64 0,.int .i64 0,.slice none 0 0]) (t:=56) ?hr ?_;(case hd => rfl);(case hg => rfl);(case hr => first | (go_simp;done) | (go_simp;rfl));intro gb204 hg w7 hbox hb;have n0_:=Aside0.mk (below_step (by repeat (with_reducible first | exact HB.out | apply below_alloc | apply pw_below_drewN | apply below_drew1)) hb);have n1_:=Aside0.mk (hbox);have n2_:=Aside0.mk ((by rw [hg];exact (below_size (by repeat (with_reducible first | exact HB.out | apply below_alloc | apply pw_below_drewN | apply below_drew1))) : w.heap.size ≤ gb204));have n3_:=Aside0.mk ((by rw [hg];exact (below_size (by repeat (with_reducible first | exact HB.out | apply below_alloc | apply pw_below_drewN | apply below_drew1))) : w.heap.size ≤ gb204));clear HB;have HB:=n0_;have BK204:=n1_;have GW204:=n2_;have GE204:=n3_;clear n0_ n1_ n2_ n3_;clear hb hbox hg;have hcz8_0 : w7.cell? ⟨gb204,0,none⟩ = some (.slice none 0 0):=(blk_cell BK204.out 0).trans rfl;have hcz8_1 : w7.cell? ⟨gb204,1,none⟩ = some (.int .i64 0):=(blk_cell BK204.out 1).trans rfl;have hcz8_2 : w7.cell? ⟨gb204,2,none⟩ = some (.int .i64 0):=(blk_cell BK204.out 2).trans rfl;have hcz8_3 : w7.cell? ⟨gb204,3,none⟩ = some (.slice none 0 0):=(blk_cell BK204.out 3).trans rfl;have hfz8_0:=blk_frozen BK204.out 0;have hfz8_1:=blk_frozen BK204.out 1;have hfz8_2:=blk_frozen BK204.out 2;have hfz8_3:=blk_frozen BK204.out 3) | ((with_reducible refine gate_callee (f:=36) rfl ?_);refine goesL_ (some 14) rfl rfl Try.func36 (by kernel_rfl) rfl #[.agg #[.slice A203_0 ((rd_T56 l0 x7_1).f0).length c203_0,.int .i64 ((rd_T56 l0 x7_1).f1),.int .i64 ((rd_T56 l0 x7_1).f2),.slice A203_3 ((rd_T56 l0 x7_1).f3).length c203_3],.int .i64 (l0.length : Int)] rfl (by (try simp only [List.map_toArray,List.map_cons,List.map_nil]);first | done | rfl | (simp only [List.length_drop,List.length_take];rfl)) ?_;(with_reducible refine (spec_l6Block.calls k1 _ _ ((rd_T56 l0 x7_1).f0) ((rd_T56 l0 x7_1).f1) ((rd_T56 l0 x7_1).f2) _ _ ((rd_T56 l0 x7_1).f3) (l0.length : Int) true _ ?side1 ?side2 ?side3 ?side4 A5.out).mono ?_);(case side1 => exact Kd.C_below HR203_0.out (by repeat (with_reducible first | exact HB.out | apply below_alloc | apply pw_below_drewN | apply below_drew1 | refine below_set ?_ GE204.out)));(case side2 => exact HC203_0.out);(case side3 => exact Kd.C_below HR203_3.out (by repeat (with_reducible first | exact HB.out | apply below_alloc | apply pw_below_drewN | apply below_drew1 | refine below_set ?_ GE204.out)));(case side4 => exact HC203_3.out);rintro e w9 ⟨rfl,hb⟩;refine ⟨_,rfl,?_⟩;have n0_:=Aside0.mk (blk_below (g:=gb204) (o:=.cells #[.slice A203_0 ((rd_T56 l0 x7_1).f0).length c203_0,.int .i64 ((rd_T56 l0 x7_1).f1),.int .i64 ((rd_T56 l0 x7_1).f2),.slice A203_3 ((rd_T56 l0 x7_1).f3).length c203_3] 56 (0,0)) (by (with_reducible repeat (first | refine blk_drewN ?_ _ | refine blk_drew ?_ | refine blk_alloc ?_ _));refine blk_put (cs:=#[.slice A203_0 ((rd_T56 l0 x7_1).f0).length c203_0,.int .i64 ((rd_T56 l0 x7_1).f1),.int .i64 ((rd_T56 l0 x7_1).f2),.slice none 0 0]) ?_ 3 _ rfl;(with_reducible repeat (first | refine blk_drewN ?_ _ | refine blk_drew ?_ | refine blk_alloc ?_ _));refine blk_put (cs:=#[.slice A203_0 ((rd_T56 l0 x7_1).f0).length c203_0,.int .i64 ((rd_T56 l0 x7_1).f1),.int .i64 0,.slice none 0 0]) ?_ 2 _ rfl;(with_reducible repeat (first | refine blk_drewN ?_ _ | refine blk_drew ?_ | refine blk_alloc ?_ _));refine blk_put (cs:=#[.slice A203_0 ((rd_T56 l0 x7_1).f0).length c203_0,.int .i64 0,.int .i64 0,.slice none 0 0]) ?_ 1 _ rfl;(with_reducible repeat (first | refine blk_drewN ?_ _ | refine blk_drew ?_ | refine blk_alloc ?_ _));refine blk_put (cs:=#[.slice none 0 0,.int .i64 0,.int .i64 0,.slice none 0 0]) ?_ 0 _ rfl;(with_reducible repeat (first | refine blk_drewN ?_ _ | refine blk_drew ?_ | refine blk_alloc ?_ _));exact BK204.out) hb);have n1_:=Aside0.mk (below_step (by repeat (with_reducible first | exact HB.out | apply below_alloc | apply pw_below_drewN | apply below_drew1 | refine below_set ?_ GE204.out)) hb);clear BK204;clear HB;have BK204:=n0_;have HB:=n1_;clear n0_ n1_;(try clear hb);(try clear hb2);(try clear hk);(try clear hi)))
   go_roundg k1
   case measure => have:=HK1.out;omega
   case rel => exact ⟨(wrap64 (x7_1 + 1)),(by first | rfl | (simp;done) | (simp [*];done)),H',⟨by have:=HK1.out;omega⟩,⟨by repeat (with_reducible first | exact HB.out | apply below_alloc | apply pw_below_drewN | apply below_drew1 | refine below_set ?_ GE204.out)⟩⟩

end Go.Proofs.Ythgkhfhfahifmaa.Q
