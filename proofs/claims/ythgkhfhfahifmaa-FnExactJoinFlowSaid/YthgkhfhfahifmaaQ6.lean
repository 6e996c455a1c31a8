-- WRITTEN BY A PROGRAM OF THIS SESSION
import Derived.Test.YthgkhfhfahifmaaQ0
import Derived.Test.YthgkhfhfahifmaaQ5
namespace Go.Proofs.Ythgkhfhfahifmaa.Q
open Go.RowKit Go.Proofs.YthgkhfhfahifmaaW.PrintWords Go.Proofs.YthgkhfhfahifmaaW.PrintLast Go.Proofs.YthgkhfhfahifmaaW.PrintMore
attribute [local go_sem] max2_int min2_int max_two min_two max_three min_three max_four min_four   -- for this text's walks alone
set_option linter.unusedVariables false
set_option linter.unusedSimpArgs false

/-! ### spec_l6Flat: function 62 -/
mutual
def spec_l6Flat.j0 : Nat → Bool → Int → Int → Int → Int → Int → Int → Option (Bool)
 | 0,_,_,_,_,_,_,_ => none
 | k + 1,x20,x183000,x183001,x183002,x183003,x183004,x183005 => if x20 = true then (some false) else (if x183000 = 1 then ((spec_l6Name.f x183002).bind fun t183 => (if t183 = true then (if x183003 = 0 then (if x183004 = 0 then ((spec_l1In.f x183005 0 65535).bind fun t184 => (some t184)) else (some false)) else (some false)) else (some false))) else (if x183000 = 2 then (spec_l6Flat.j1 k x183000 (x183000 == 2) x183000 x183001 x183002 x183003 x183004 x183005) else (spec_l6Flat.j1 k x183000 (x183000 == 4) x183000 x183001 x183002 x183003 x183004 x183005)))
def spec_l6Flat.j1 : Nat → Int → Bool → Int → Int → Int → Int → Int → Int → Option (Bool)
 | 0,_,_,_,_,_,_,_,_ => none
 | k + 1,x22,x43,x183000,x183001,x183002,x183003,x183004,x183005 => if x43 = true then ((spec_l6Name.f x183002).bind fun t185 => (if t185 = true then ((spec_l6Name.f x183003).bind fun t186 => (if t186 = true then (some (x183004 == 0)) else (some false))) else (some false))) else (if x22 = 3 then ((spec_l6Name.f x183002).bind fun t187 => (if t187 = true then ((spec_l6Name.f x183003).bind fun t188 => (if t188 = true then ((spec_l6Name.f x183004).bind fun t189 => (if t189 = true then ((spec_l1In.f x183001 4 9).bind fun t190 => (some t190)) else (some false))) else (some false))) else (some false))) else (if x22 = 5 then (if x183002 = 0 then ((spec_l6Name.f x183003).bind fun t191 => (if t191 = true then ((spec_l6Name.f x183004).bind fun t192 => (some t192)) else (some false))) else (some false)) else (if x183000 = 6 then (if x183002 = 0 then ((spec_l6Name.f x183003).bind fun t193 => (if t193 = true then (some (x183004 == 0)) else (some false))) else (some false)) else (some false))))
end
def spec_l6Flat.f (k : Nat) (a0_0 : Int) (a0_1 : Int) (a0_2 : Int) (a0_3 : Int) (a0_4 : Int) (a0_5 : Int) : Option (Bool):=if a0_0 = 3 then (if a0_0 = 1 then (spec_l6Flat.j0 k false a0_0 a0_1 a0_2 a0_3 a0_4 a0_5) else (spec_l6Flat.j0 k (a0_5 != 0) a0_0 a0_1 a0_2 a0_3 a0_4 a0_5)) else (if a0_1 = 0 then (if a0_0 = 1 then (spec_l6Flat.j0 k false a0_0 a0_1 a0_2 a0_3 a0_4 a0_5) else (spec_l6Flat.j0 k (a0_5 != 0) a0_0 a0_1 a0_2 a0_3 a0_4 a0_5)) else (spec_l6Flat.j0 k true a0_0 a0_1 a0_2 a0_3 a0_4 a0_5))
theorem spec_l6Flat.mono_l : ∀ k,(∀ y0 y1 y2 y3 y4 y5 y6,LeO (spec_l6Flat.j0 k y0 y1 y2 y3 y4 y5 y6) (spec_l6Flat.j0 (k + 1) y0 y1 y2 y3 y4 y5 y6)) ∧ (∀ y0 y1 y2 y3 y4 y5 y6 y7,LeO (spec_l6Flat.j1 k y0 y1 y2 y3 y4 y5 y6 y7) (spec_l6Flat.j1 (k + 1) y0 y1 y2 y3 y4 y5 y6 y7))
 | 0 => ⟨fun _ _ _ _ _ _ _ r h => by simp [spec_l6Flat.j0] at h,fun _ _ _ _ _ _ _ _ r h => by simp [spec_l6Flat.j1] at h⟩
 | k + 1 => by
  obtain ⟨ih0,ih1⟩:=spec_l6Flat.mono_l k
  refine ⟨?_,?_⟩
  ·intro y0 y1 y2 y3 y4 y5 y6
   unfold spec_l6Flat.j0
   repeat' first
   | (with_reducible exact ih0 _ _ _ _ _ _ _)
   | (with_reducible exact ih1 _ _ _ _ _ _ _ _)
   | (with_reducible exact LeO.refl _)
   | (with_reducible exact LeO.none _)
   | (with_reducible refine LeO.ite ?_ ?_)
   | (with_reducible refine LeO.bind ?_ (fun _ => ?_))
  ·intro y0 y1 y2 y3 y4 y5 y6 y7
   unfold spec_l6Flat.j1
   repeat' first
   | (with_reducible exact ih0 _ _ _ _ _ _ _)
   | (with_reducible exact ih1 _ _ _ _ _ _ _ _)
   | (with_reducible exact LeO.refl _)
   | (with_reducible exact LeO.none _)
   | (with_reducible refine LeO.ite ?_ ?_)
   | (with_reducible refine LeO.bind ?_ (fun _ => ?_))
theorem spec_l6Flat.mono : ∀ a0 a1 a2 a3 a4 a5 k,LeO (spec_l6Flat.f k a0 a1 a2 a3 a4 a5) (spec_l6Flat.f (k + 1) a0 a1 a2 a3 a4 a5):=by
 intro a0 a1 a2 a3 a4 a5 k
 obtain ⟨ih0,ih1⟩:=spec_l6Flat.mono_l k
 unfold spec_l6Flat.f
 repeat' first
   | (with_reducible exact ih0 _ _ _ _ _ _ _)
   | (with_reducible exact ih1 _ _ _ _ _ _ _ _)
   | (with_reducible exact LeO.refl _)
   | (with_reducible exact LeO.none _)
   | (with_reducible refine LeO.ite ?_ ?_)
   | (with_reducible refine LeO.bind ?_ (fun _ => ?_))
set_option maxHeartbeats 8000000 in
set_option maxRecDepth 100000 in
theorem spec_l6Flat.calls (k : Nat) (a0_0 : Int) (a0_1 : Int) (a0_2 : Int) (a0_3 : Int) (a0_4 : Int) (a0_5 : Int) (r : Bool) (w : World) (h : spec_l6Flat.f k a0_0 a0_1 a0_2 a0_3 a0_4 a0_5 = some r) :
  Calls Try.prog 62 #[.agg #[.int .i64 a0_0,.int .i64 a0_1,.int .i64 a0_2,.int .i64 a0_3,.int .i64 a0_4,.int .i64 a0_5]] w fun e w' => e = .returned (.bool r) ∧ Below w.heap.size w w':=by
 have hu79:=Try.underlying79
 have HB:=Aside0.mk (Below.refl w.heap.size w)
 have H : (if a0_0 = 3 then (if a0_0 = 1 then (spec_l6Flat.j0 k false a0_0 a0_1 a0_2 a0_3 a0_4 a0_5) else (spec_l6Flat.j0 k (a0_5 != 0) a0_0 a0_1 a0_2 a0_3 a0_4 a0_5)) else (if a0_1 = 0 then (if a0_0 = 1 then (spec_l6Flat.j0 k false a0_0 a0_1 a0_2 a0_3 a0_4 a0_5) else (spec_l6Flat.j0 k (a0_5 != 0) a0_0 a0_1 a0_2 a0_3 a0_4 a0_5)) else (spec_l6Flat.j0 k true a0_0 a0_1 a0_2 a0_3 a0_4 a0_5))) = some r:=h
 clear h
 have HC2:=Aside0.mk H
 clear H
 go_enter Try.func62,Try.ntmps62
 go_upto_region 1 with (first | ((with_reducible refine gate_dst (N:=1) rfl ?_);refine box_event ?hg (N:=1) ?hd (cs:=#[.int .i64 a0_0,.int .i64 a0_1,.int .i64 a0_2,.int .i64 a0_3,.int .i64 a0_4,.int .i64 a0_5]) (t:=79) ?hr ?_;(case hd => rfl);(case hg => rfl);(case hr => first | (go_simp;done) | (go_simp;rfl));intro gb182 hg w3 hbox hb;have n0_:=Aside0.mk (below_step (by repeat (with_reducible first | exact HB.out | apply below_alloc | apply pw_below_drewN | apply below_drew1)) hb);have n1_:=Aside0.mk (hbox);have n2_:=Aside0.mk ((by rw [hg];exact (below_size (by repeat (with_reducible first | exact HB.out | apply below_alloc | apply pw_below_drewN | apply below_drew1))) : w.heap.size ≤ gb182));have n3_:=Aside0.mk ((by rw [hg];exact (below_size (by repeat (with_reducible first | exact HB.out | apply below_alloc | apply pw_below_drewN | apply below_drew1))) : w.heap.size ≤ gb182));clear HB;have HB:=n0_;have BK182:=n1_;have GW182:=n2_;have GE182:=n3_;clear n0_ n1_ n2_ n3_;clear hb hbox hg))
 (try simp only [Act.put,List.setIfInBounds_toArray,List.set_cons_zero,List.set_cons_succ])
 go_cut [20] (fun v20 wc => ∃ (kq : Nat) (x20_1 : Bool),v20 = .bool x20_1 ∧ Aside0 (spec_l6Flat.j0 kq x20_1 a0_0 a0_1 a0_2 a0_3 a0_4 a0_5 = some r) ∧ Aside0 (kq ≤ k) ∧ Aside0 (wc.heap[gb182]? = some (.cells #[.int .i64 a0_0,.int .i64 a0_1,.int .i64 a0_2,.int .i64 a0_3,.int .i64 a0_4,.int .i64 a0_5] 79 (0,0))) ∧ Aside0 (Below w.heap.size w wc))
 case first =>
  have H:=HC2.out
  clear HC2
  by_cases c4 : a0_0 = 3
  ·rw [if_pos c4] at H
   have c4b0 : (a0_0 == 3) = true:=beq_iff_eq.mpr c4
   have c4b1 : (a0_0 != 3) = false:=bne_eq_false_iff_eq.mpr c4
   clear c4
   (first | rw [c4b0] | (simp only [i64_w,i32_w];rw [c4b0]) | skip)
   by_cases c5 : a0_0 = 1
   rotate_left
   ·rw [if_neg c5] at H
    have c5b0 : (a0_0 == 1) = false:=beq_eq_false_iff_ne.mpr c5
    have c5b1 : (a0_0 != 1) = true:=bne_iff_ne.mpr c5
    have H':=Aside0.mk H
    clear H
    have hcz7_0 : w3.cell? ⟨gb182,0,none⟩ = some (.int .i64 a0_0):=(blk_cell BK182.out 0).trans rfl
    have hcz7_1 : w3.cell? ⟨gb182,1,none⟩ = some (.int .i64 a0_1):=(blk_cell BK182.out 1).trans rfl
    have hcz7_2 : w3.cell? ⟨gb182,2,none⟩ = some (.int .i64 a0_2):=(blk_cell BK182.out 2).trans rfl
    have hcz7_3 : w3.cell? ⟨gb182,3,none⟩ = some (.int .i64 a0_3):=(blk_cell BK182.out 3).trans rfl
    have hcz7_4 : w3.cell? ⟨gb182,4,none⟩ = some (.int .i64 a0_4):=(blk_cell BK182.out 4).trans rfl
    have hcz7_5 : w3.cell? ⟨gb182,5,none⟩ = some (.int .i64 a0_5):=(blk_cell BK182.out 5).trans rfl
    go_wp2
    go_meet
    case rel => exact ⟨_,((a0_5 != 0)),(by first | rfl | (simp;done) | (simp [*];done)),H',⟨by first | omega | exact Nat.le_refl _⟩,⟨by (with_reducible repeat (first | refine blk_drewN ?_ _ | refine blk_drew ?_ | refine blk_alloc ?_ _));exact BK182.out⟩,⟨by repeat (with_reducible first | exact HB.out | apply below_alloc | apply pw_below_drewN | apply below_drew1 | refine below_set ?_ GE182.out)⟩⟩
   rw [if_pos c5] at H
   have c5b0 : (a0_0 == 1) = true:=beq_iff_eq.mpr c5
   have c5b1 : (a0_0 != 1) = false:=bne_eq_false_iff_eq.mpr c5
   clear c5
   have H':=Aside0.mk H
   clear H
   have hcz6_0 : w3.cell? ⟨gb182,0,none⟩ = some (.int .i64 a0_0):=(blk_cell BK182.out 0).trans rfl
   have hcz6_1 : w3.cell? ⟨gb182,1,none⟩ = some (.int .i64 a0_1):=(blk_cell BK182.out 1).trans rfl
   have hcz6_2 : w3.cell? ⟨gb182,2,none⟩ = some (.int .i64 a0_2):=(blk_cell BK182.out 2).trans rfl
   have hcz6_3 : w3.cell? ⟨gb182,3,none⟩ = some (.int .i64 a0_3):=(blk_cell BK182.out 3).trans rfl
   have hcz6_4 : w3.cell? ⟨gb182,4,none⟩ = some (.int .i64 a0_4):=(blk_cell BK182.out 4).trans rfl
   have hcz6_5 : w3.cell? ⟨gb182,5,none⟩ = some (.int .i64 a0_5):=(blk_cell BK182.out 5).trans rfl
   go_wp2
   go_meet
   case rel => exact ⟨_,(false),(by first | rfl | (simp;done) | (simp [*];done)),H',⟨by first | omega | exact Nat.le_refl _⟩,⟨by (with_reducible repeat (first | refine blk_drewN ?_ _ | refine blk_drew ?_ | refine blk_alloc ?_ _));exact BK182.out⟩,⟨by repeat (with_reducible first | exact HB.out | apply below_alloc | apply pw_below_drewN | apply below_drew1 | refine below_set ?_ GE182.out)⟩⟩
  rw [if_neg c4] at H
  have c4b0 : (a0_0 == 3) = false:=beq_eq_false_iff_ne.mpr c4
  have c4b1 : (a0_0 != 3) = true:=bne_iff_ne.mpr c4
  (first | rw [c4b0] | (simp only [i64_w,i32_w];rw [c4b0]) | skip)
  by_cases c8 : a0_1 = 0
  rotate_left
  ·rw [if_neg c8] at H
   have c8b0 : (a0_1 == 0) = false:=beq_eq_false_iff_ne.mpr c8
   have c8b1 : (a0_1 != 0) = true:=bne_iff_ne.mpr c8
   have H':=Aside0.mk H
   clear H
   have hcz12_0 : w3.cell? ⟨gb182,0,none⟩ = some (.int .i64 a0_0):=(blk_cell BK182.out 0).trans rfl
   have hcz12_1 : w3.cell? ⟨gb182,1,none⟩ = some (.int .i64 a0_1):=(blk_cell BK182.out 1).trans rfl
   have hcz12_2 : w3.cell? ⟨gb182,2,none⟩ = some (.int .i64 a0_2):=(blk_cell BK182.out 2).trans rfl
   have hcz12_3 : w3.cell? ⟨gb182,3,none⟩ = some (.int .i64 a0_3):=(blk_cell BK182.out 3).trans rfl
   have hcz12_4 : w3.cell? ⟨gb182,4,none⟩ = some (.int .i64 a0_4):=(blk_cell BK182.out 4).trans rfl
   have hcz12_5 : w3.cell? ⟨gb182,5,none⟩ = some (.int .i64 a0_5):=(blk_cell BK182.out 5).trans rfl
   go_wp2
   go_meet
   case rel => exact ⟨_,(true),(by first | rfl | (simp;done) | (simp [*];done)),H',⟨by first | omega | exact Nat.le_refl _⟩,⟨by (with_reducible repeat (first | refine blk_drewN ?_ _ | refine blk_drew ?_ | refine blk_alloc ?_ _));exact BK182.out⟩,⟨by repeat (with_reducible first | exact HB.out | apply below_alloc | apply pw_below_drewN | apply below_drew1 | refine below_set ?_ GE182.out)⟩⟩
  rw [if_pos c8] at H
  have c8b0 : (a0_1 == 0) = true:=beq_iff_eq.mpr c8
  have c8b1 : (a0_1 != 0) = false:=bne_eq_false_iff_eq.mpr c8
  clear c8
  by_cases c9 : a0_0 = 1
  rotate_left
  ·rw [if_neg c9] at H
   have c9b0 : (a0_0 == 1) = false:=beq_eq_false_iff_ne.mpr c9
   have c9b1 : (a0_0 != 1) = true:=bne_iff_ne.mpr c9
   have H':=Aside0.mk H
   clear H
   have hcz11_0 : w3.cell? ⟨gb182,0,none⟩ = some (.int .i64 a0_0):=(blk_cell BK182.out 0).trans rfl
   have hcz11_1 : w3.cell? ⟨gb182,1,none⟩ = some (.int .i64 a0_1):=(blk_cell BK182.out 1).trans rfl
   have hcz11_2 : w3.cell? ⟨gb182,2,none⟩ = some (.int .i64 a0_2):=(blk_cell BK182.out 2).trans rfl
   have hcz11_3 : w3.cell? ⟨gb182,3,none⟩ = some (.int .i64 a0_3):=(blk_cell BK182.out 3).trans rfl
   have hcz11_4 : w3.cell? ⟨gb182,4,none⟩ = some (.int .i64 a0_4):=(blk_cell BK182.out 4).trans rfl
   have hcz11_5 : w3.cell? ⟨gb182,5,none⟩ = some (.int .i64 a0_5):=(blk_cell BK182.out 5).trans rfl
   go_wp2
   go_meet
   case rel => exact ⟨_,((a0_5 != 0)),(by first | rfl | (simp;done) | (simp [*];done)),H',⟨by first | omega | exact Nat.le_refl _⟩,⟨by (with_reducible repeat (first | refine blk_drewN ?_ _ | refine blk_drew ?_ | refine blk_alloc ?_ _));exact BK182.out⟩,⟨by repeat (with_reducible first | exact HB.out | apply below_alloc | apply pw_below_drewN | apply below_drew1 | refine below_set ?_ GE182.out)⟩⟩
  rw [if_pos c9] at H
  have c9b0 : (a0_0 == 1) = true:=beq_iff_eq.mpr c9
  have c9b1 : (a0_0 != 1) = false:=bne_eq_false_iff_eq.mpr c9
  clear c9
  have H':=Aside0.mk H
  clear H
  have hcz10_0 : w3.cell? ⟨gb182,0,none⟩ = some (.int .i64 a0_0):=(blk_cell BK182.out 0).trans rfl
  have hcz10_1 : w3.cell? ⟨gb182,1,none⟩ = some (.int .i64 a0_1):=(blk_cell BK182.out 1).trans rfl
  have hcz10_2 : w3.cell? ⟨gb182,2,none⟩ = some (.int .i64 a0_2):=(blk_cell BK182.out 2).trans rfl
  have hcz10_3 : w3.cell? ⟨gb182,3,none⟩ = some (.int .i64 a0_3):=(blk_cell BK182.out 3).trans rfl
  have hcz10_4 : w3.cell? ⟨gb182,4,none⟩ = some (.int .i64 a0_4):=(blk_cell BK182.out 4).trans rfl
  have hcz10_5 : w3.cell? ⟨gb182,5,none⟩ = some (.int .i64 a0_5):=(blk_cell BK182.out 5).trans rfl
  go_wp2
  go_meet
  case rel => exact ⟨_,(false),(by first | rfl | (simp;done) | (simp [*];done)),H',⟨by first | omega | exact Nat.le_refl _⟩,⟨by (with_reducible repeat (first | refine blk_drewN ?_ _ | refine blk_drew ?_ | refine blk_alloc ?_ _));exact BK182.out⟩,⟨by repeat (with_reducible first | exact HB.out | apply below_alloc | apply pw_below_drewN | apply below_drew1 | refine below_set ?_ GE182.out)⟩⟩
 case rest =>
  clear HC2
  try clear p2
  try clear c4
  try clear c4b0
  try clear c4b1
  try clear c5
  try clear c5b0
  try clear c5b1
  try clear c6
  try clear c8
  try clear c8b0
  try clear c8b1
  try clear c9
  try clear c9b0
  try clear c9b1
  try clear hcz10_0
  try clear hcz10_1
  try clear hcz10_2
  try clear hcz10_3
  try clear hcz10_4
  try clear hcz10_5
  try clear hcz11_0
  try clear hcz11_1
  try clear hcz11_2
  try clear hcz11_3
  try clear hcz11_4
  try clear hcz11_5
  try clear hcz12_0
  try clear hcz12_1
  try clear hcz12_2
  try clear hcz12_3
  try clear hcz12_4
  try clear hcz12_5
  try clear hcz6_0
  try clear hcz6_1
  try clear hcz6_2
  try clear hcz6_3
  try clear hcz6_4
  try clear hcz6_5
  try clear hcz7_0
  try clear hcz7_1
  try clear hcz7_2
  try clear hcz7_3
  try clear hcz7_4
  try clear hcz7_5
  obtain ⟨kq,x20_1,rfl,HA,HJ1,BK182,HB⟩:=hcut
  cases kq with
  | zero => exact absurd HA.out (by simp [spec_l6Flat.j0])
  | succ kj1 =>
   have H:=HA.out
   clear HA
   simp only [spec_l6Flat.j0] at H
   by_cases c13 : x20_1 = true
   ·subst c13
    have H1 : (some false) = some r:=by rw [if_pos rfl] at H;exact H
    clear H
    have H:=H1
    clear H1
    obtain rfl:=Option.some.inj H
    go_wp2
    go_ret
    exact ⟨by first | rfl | (simp [*,errW_none,errW_some] <;> rfl),by repeat (with_reducible first | exact HB.out | apply below_alloc | apply pw_below_drewN | apply below_drew1 | refine below_set ?_ GE182.out)⟩
   replace c13:=Bool.eq_false_iff.mpr c13
   subst c13
   have H1 : (if a0_0 = 1 then ((spec_l6Name.f a0_2).bind fun t183 => (if t183 = true then (if a0_3 = 0 then (if a0_4 = 0 then ((spec_l1In.f a0_5 0 65535).bind fun t184 => (some t184)) else (some false)) else (some false)) else (some false))) else (if a0_0 = 2 then (spec_l6Flat.j1 kj1 a0_0 (a0_0 == 2) a0_0 a0_1 a0_2 a0_3 a0_4 a0_5) else (spec_l6Flat.j1 kj1 a0_0 (a0_0 == 4) a0_0 a0_1 a0_2 a0_3 a0_4 a0_5))) = some r:=by rw [if_neg (show ¬ (false = true) by decide)] at H;exact H
   clear H
   have H:=H1
   clear H1
   by_cases c14 : a0_0 = 1
   ·rw [if_pos c14] at H
    have c14b0 : (a0_0 == 1) = true:=beq_iff_eq.mpr c14
    have c14b1 : (a0_0 != 1) = false:=bne_eq_false_iff_eq.mpr c14
    clear c14
    replace H:=Option.bind_eq_some_iff.mp H
    obtain ⟨t183,A150,H⟩:=H
    replace H : (if t183 = true then (if a0_3 = 0 then (if a0_4 = 0 then ((spec_l1In.f a0_5 0 65535).bind fun t184 => (some t184)) else (some false)) else (some false)) else (some false)) = some r:=H
    have A15:=Aside0.mk A150
    clear A150
    by_cases c16 : t183 = true
    rotate_left
    ·replace c16:=Bool.eq_false_iff.mpr c16
     subst c16
     have H1 : (some false) = some r:=by rw [if_neg (show ¬ (false = true) by decide)] at H;exact H
     clear H
     have H:=H1
     clear H1
     obtain rfl:=Option.some.inj H
     have hcz23_0 : wc.cell? ⟨gb182,0,none⟩ = some (.int .i64 a0_0):=(blk_cell BK182.out 0).trans rfl
     have hcz23_1 : wc.cell? ⟨gb182,1,none⟩ = some (.int .i64 a0_1):=(blk_cell BK182.out 1).trans rfl
     have hcz23_2 : wc.cell? ⟨gb182,2,none⟩ = some (.int .i64 a0_2):=(blk_cell BK182.out 2).trans rfl
     have hcz23_3 : wc.cell? ⟨gb182,3,none⟩ = some (.int .i64 a0_3):=(blk_cell BK182.out 3).trans rfl
     have hcz23_4 : wc.cell? ⟨gb182,4,none⟩ = some (.int .i64 a0_4):=(blk_cell BK182.out 4).trans rfl
     have hcz23_5 : wc.cell? ⟨gb182,5,none⟩ = some (.int .i64 a0_5):=(blk_cell BK182.out 5).trans rfl
     go_wp2_with (first | ((with_reducible refine gate_callee (f:=63) rfl ?_);refine goesL_ (some 27) rfl rfl Try.func63 (by kernel_rfl) rfl #[.int .i64 a0_2] rfl (by (try simp only [List.map_toArray,List.map_cons,List.map_nil]);first | done | rfl | (simp only [List.length_drop,List.length_take];rfl)) ?_;(with_reducible refine (spec_l6Name.calls a0_2 false _ A15.out).mono ?_);rintro e w' ⟨rfl,⟨nd,rfl⟩⟩;refine ⟨_,rfl,?_⟩))
     go_ret
     exact ⟨by first | rfl | (simp [*,errW_none,errW_some] <;> rfl),by repeat (with_reducible first | exact HB.out | apply below_alloc | apply pw_below_drewN | apply below_drew1 | refine below_set ?_ GE182.out)⟩
    subst c16
    have H1 : (if a0_3 = 0 then (if a0_4 = 0 then ((spec_l1In.f a0_5 0 65535).bind fun t184 => (some t184)) else (some false)) else (some false)) = some r:=by rw [if_pos rfl] at H;exact H
    clear H
    have H:=H1
    clear H1
    by_cases c17 : a0_3 = 0
    rotate_left
    ·rw [if_neg c17] at H
     have c17b0 : (a0_3 == 0) = false:=beq_eq_false_iff_ne.mpr c17
     have c17b1 : (a0_3 != 0) = true:=bne_iff_ne.mpr c17
     obtain rfl:=Option.some.inj H
     have hcz22_0 : wc.cell? ⟨gb182,0,none⟩ = some (.int .i64 a0_0):=(blk_cell BK182.out 0).trans rfl
     have hcz22_1 : wc.cell? ⟨gb182,1,none⟩ = some (.int .i64 a0_1):=(blk_cell BK182.out 1).trans rfl
     have hcz22_2 : wc.cell? ⟨gb182,2,none⟩ = some (.int .i64 a0_2):=(blk_cell BK182.out 2).trans rfl
     have hcz22_3 : wc.cell? ⟨gb182,3,none⟩ = some (.int .i64 a0_3):=(blk_cell BK182.out 3).trans rfl
     have hcz22_4 : wc.cell? ⟨gb182,4,none⟩ = some (.int .i64 a0_4):=(blk_cell BK182.out 4).trans rfl
     have hcz22_5 : wc.cell? ⟨gb182,5,none⟩ = some (.int .i64 a0_5):=(blk_cell BK182.out 5).trans rfl
     go_wp2_with (first | ((with_reducible refine gate_callee (f:=63) rfl ?_);refine goesL_ (some 27) rfl rfl Try.func63 (by kernel_rfl) rfl #[.int .i64 a0_2] rfl (by (try simp only [List.map_toArray,List.map_cons,List.map_nil]);first | done | rfl | (simp only [List.length_drop,List.length_take];rfl)) ?_;(with_reducible refine (spec_l6Name.calls a0_2 true _ A15.out).mono ?_);rintro e w' ⟨rfl,⟨nd,rfl⟩⟩;refine ⟨_,rfl,?_⟩))
     go_ret
     exact ⟨by first | rfl | (simp [*,errW_none,errW_some] <;> rfl),by repeat (with_reducible first | exact HB.out | apply below_alloc | apply pw_below_drewN | apply below_drew1 | refine below_set ?_ GE182.out)⟩
    rw [if_pos c17] at H
    have c17b0 : (a0_3 == 0) = true:=beq_iff_eq.mpr c17
    have c17b1 : (a0_3 != 0) = false:=bne_eq_false_iff_eq.mpr c17
    clear c17
    by_cases c18 : a0_4 = 0
    rotate_left
    ·rw [if_neg c18] at H
     have c18b0 : (a0_4 == 0) = false:=beq_eq_false_iff_ne.mpr c18
     have c18b1 : (a0_4 != 0) = true:=bne_iff_ne.mpr c18
     obtain rfl:=Option.some.inj H
     have hcz21_0 : wc.cell? ⟨gb182,0,none⟩ = some (.int .i64 a0_0):=(blk_cell BK182.out 0).trans rfl
     have hcz21_1 : wc.cell? ⟨gb182,1,none⟩ = some (.int .i64 a0_1):=(blk_cell BK182.out 1).trans rfl
     have hcz21_2 : wc.cell? ⟨gb182,2,none⟩ = some (.int .i64 a0_2):=(blk_cell BK182.out 2).trans rfl
     have hcz21_3 : wc.cell? ⟨gb182,3,none⟩ = some (.int .i64 a0_3):=(blk_cell BK182.out 3).trans rfl
     have hcz21_4 : wc.cell? ⟨gb182,4,none⟩ = some (.int .i64 a0_4):=(blk_cell BK182.out 4).trans rfl
     have hcz21_5 : wc.cell? ⟨gb182,5,none⟩ = some (.int .i64 a0_5):=(blk_cell BK182.out 5).trans rfl
     go_wp2_with (first | ((with_reducible refine gate_callee (f:=63) rfl ?_);refine goesL_ (some 27) rfl rfl Try.func63 (by kernel_rfl) rfl #[.int .i64 a0_2] rfl (by (try simp only [List.map_toArray,List.map_cons,List.map_nil]);first | done | rfl | (simp only [List.length_drop,List.length_take];rfl)) ?_;(with_reducible refine (spec_l6Name.calls a0_2 true _ A15.out).mono ?_);rintro e w' ⟨rfl,⟨nd,rfl⟩⟩;refine ⟨_,rfl,?_⟩))
     go_ret
     exact ⟨by first | rfl | (simp [*,errW_none,errW_some] <;> rfl),by repeat (with_reducible first | exact HB.out | apply below_alloc | apply pw_below_drewN | apply below_drew1 | refine below_set ?_ GE182.out)⟩
    rw [if_pos c18] at H
    have c18b0 : (a0_4 == 0) = true:=beq_iff_eq.mpr c18
    have c18b1 : (a0_4 != 0) = false:=bne_eq_false_iff_eq.mpr c18
    clear c18
    replace H:=Option.bind_eq_some_iff.mp H
    obtain ⟨t184,A190,H⟩:=H
    replace H : (some t184) = some r:=H
    have A19:=Aside0.mk A190
    clear A190
    obtain rfl:=Option.some.inj H
    have hcz20_0 : wc.cell? ⟨gb182,0,none⟩ = some (.int .i64 a0_0):=(blk_cell BK182.out 0).trans rfl
    have hcz20_1 : wc.cell? ⟨gb182,1,none⟩ = some (.int .i64 a0_1):=(blk_cell BK182.out 1).trans rfl
    have hcz20_2 : wc.cell? ⟨gb182,2,none⟩ = some (.int .i64 a0_2):=(blk_cell BK182.out 2).trans rfl
    have hcz20_3 : wc.cell? ⟨gb182,3,none⟩ = some (.int .i64 a0_3):=(blk_cell BK182.out 3).trans rfl
    have hcz20_4 : wc.cell? ⟨gb182,4,none⟩ = some (.int .i64 a0_4):=(blk_cell BK182.out 4).trans rfl
    have hcz20_5 : wc.cell? ⟨gb182,5,none⟩ = some (.int .i64 a0_5):=(blk_cell BK182.out 5).trans rfl
    go_wp2_with (first | ((with_reducible refine gate_callee (f:=63) rfl ?_);refine goesL_ (some 27) rfl rfl Try.func63 (by kernel_rfl) rfl #[.int .i64 a0_2] rfl (by (try simp only [List.map_toArray,List.map_cons,List.map_nil]);first | done | rfl | (simp only [List.length_drop,List.length_take];rfl)) ?_;(with_reducible refine (spec_l6Name.calls a0_2 true _ A15.out).mono ?_);rintro e w' ⟨rfl,⟨nd,rfl⟩⟩;refine ⟨_,rfl,?_⟩) | (go_at_call 37;(with_reducible refine (spec_l1In.calls a0_5 0 65535 t184 _ A19.out).mono ?_);rintro e w' ⟨rfl,⟨nd,rfl⟩⟩))
    go_ret
    exact ⟨by first | rfl | (simp [*,errW_none,errW_some] <;> rfl),by repeat (with_reducible first | exact HB.out | apply below_alloc | apply pw_below_drewN | apply below_drew1 | refine below_set ?_ GE182.out)⟩
   rw [if_neg c14] at H
   have c14b0 : (a0_0 == 1) = false:=beq_eq_false_iff_ne.mpr c14
   have c14b1 : (a0_0 != 1) = true:=bne_iff_ne.mpr c14
   have HC24:=Aside0.mk H
   clear H
   have hcz25_0 : wc.cell? ⟨gb182,0,none⟩ = some (.int .i64 a0_0):=(blk_cell BK182.out 0).trans rfl
   have hcz25_1 : wc.cell? ⟨gb182,1,none⟩ = some (.int .i64 a0_1):=(blk_cell BK182.out 1).trans rfl
   have hcz25_2 : wc.cell? ⟨gb182,2,none⟩ = some (.int .i64 a0_2):=(blk_cell BK182.out 2).trans rfl
   have hcz25_3 : wc.cell? ⟨gb182,3,none⟩ = some (.int .i64 a0_3):=(blk_cell BK182.out 3).trans rfl
   have hcz25_4 : wc.cell? ⟨gb182,4,none⟩ = some (.int .i64 a0_4):=(blk_cell BK182.out 4).trans rfl
   have hcz25_5 : wc.cell? ⟨gb182,5,none⟩ = some (.int .i64 a0_5):=(blk_cell BK182.out 5).trans rfl
   go_upto_if 43 with (fail)
   go_cut [43] (fun v43 wc => ∃ (kq : Nat) (x43_23 : Bool),v43 = .bool x43_23 ∧ Aside0 (spec_l6Flat.j1 kq a0_0 x43_23 a0_0 a0_1 a0_2 a0_3 a0_4 a0_5 = some r) ∧ Aside0 (kq ≤ kj1) ∧ Aside0 (wc.heap[gb182]? = some (.cells #[.int .i64 a0_0,.int .i64 a0_1,.int .i64 a0_2,.int .i64 a0_3,.int .i64 a0_4,.int .i64 a0_5] 79 (0,0))) ∧ Aside0 (Below w.heap.size w wc))
   case first =>
    have H:=HC24.out
    clear HC24
    by_cases c26 : a0_0 = 2
    rotate_left
    ·rw [if_neg c26] at H
     have c26b0 : (a0_0 == 2) = false:=beq_eq_false_iff_ne.mpr c26
     have c26b1 : (a0_0 != 2) = true:=bne_iff_ne.mpr c26
     (first | rw [c26b0] | (simp only [i64_w,i32_w];rw [c26b0]) | skip)
     have H':=Aside0.mk H
     clear H
     go_wp2
     go_meet
     case rel => exact ⟨_,((a0_0 == 4)),(by first | rfl | (simp;done) | (simp [*];done)),H',⟨by have:=HJ1.out;first | omega | exact Nat.le_refl _⟩,⟨by (with_reducible repeat (first | refine blk_drewN ?_ _ | refine blk_drew ?_ | refine blk_alloc ?_ _));exact BK182.out⟩,⟨by repeat (with_reducible first | exact HB.out | apply below_alloc | apply pw_below_drewN | apply below_drew1 | refine below_set ?_ GE182.out)⟩⟩
    rw [if_pos c26] at H
    have c26b0 : (a0_0 == 2) = true:=beq_iff_eq.mpr c26
    have c26b1 : (a0_0 != 2) = false:=bne_eq_false_iff_eq.mpr c26
    clear c26
    (first | rw [c26b0] | (simp only [i64_w,i32_w];rw [c26b0]) | skip)
    have H':=Aside0.mk H
    clear H
    go_wp2
    go_meet
    case rel => exact ⟨_,((a0_0 == 2)),(by first | rfl | (simp;done) | (simp [*];done)),H',⟨by have:=HJ1.out;first | omega | exact Nat.le_refl _⟩,⟨by (with_reducible repeat (first | refine blk_drewN ?_ _ | refine blk_drew ?_ | refine blk_alloc ?_ _));exact BK182.out⟩,⟨by repeat (with_reducible first | exact HB.out | apply below_alloc | apply pw_below_drewN | apply below_drew1 | refine below_set ?_ GE182.out)⟩⟩
   case rest =>
    clear HC24
    try clear c1
    try clear c2
    try clear p2
    try clear c4
    try clear c4b0
    try clear c4b1
    try clear c5
    try clear c5b0
    try clear c5b1
    try clear c6
    try clear c8
    try clear c8b0
    try clear c8b1
    try clear c9
    try clear c9b0
    try clear c9b1
    try clear c13
    try clear c14
    try clear c14b0
    try clear c14b1
    try clear c16
    try clear c17
    try clear c17b0
    try clear c17b1
    try clear c18
    try clear c18b0
    try clear c18b1
    try clear c26
    try clear c26b0
    try clear c26b1
    try clear hcz10_0
    try clear hcz10_1
    try clear hcz10_2
    try clear hcz10_3
    try clear hcz10_4
    try clear hcz10_5
    try clear hcz11_0
    try clear hcz11_1
    try clear hcz11_2
    try clear hcz11_3
    try clear hcz11_4
    try clear hcz11_5
    try clear hcz12_0
    try clear hcz12_1
    try clear hcz12_2
    try clear hcz12_3
    try clear hcz12_4
    try clear hcz12_5
    try clear hcz20_0
    try clear hcz20_1
    try clear hcz20_2
    try clear hcz20_3
    try clear hcz20_4
    try clear hcz20_5
    try clear hcz21_0
    try clear hcz21_1
    try clear hcz21_2
    try clear hcz21_3
    try clear hcz21_4
    try clear hcz21_5
    try clear hcz22_0
    try clear hcz22_1
    try clear hcz22_2
    try clear hcz22_3
    try clear hcz22_4
    try clear hcz22_5
    try clear hcz23_0
    try clear hcz23_1
    try clear hcz23_2
    try clear hcz23_3
    try clear hcz23_4
    try clear hcz23_5
    try clear hcz25_0
    try clear hcz25_1
    try clear hcz25_2
    try clear hcz25_3
    try clear hcz25_4
    try clear hcz25_5
    try clear hcz6_0
    try clear hcz6_1
    try clear hcz6_2
    try clear hcz6_3
    try clear hcz6_4
    try clear hcz6_5
    try clear hcz7_0
    try clear hcz7_1
    try clear hcz7_2
    try clear hcz7_3
    try clear hcz7_4
    try clear hcz7_5
    try clear p2
    obtain ⟨kq,x43_23,rfl,HA,HJ23,BK182,HB⟩:=hcut
    cases kq with
    | zero => exact absurd HA.out (by simp [spec_l6Flat.j1])
    | succ kj23 =>
     have H:=HA.out
     clear HA
     simp only [spec_l6Flat.j1] at H
     by_cases c27 : x43_23 = true
     ·subst c27
      have H1 : ((spec_l6Name.f a0_2).bind fun t185 => (if t185 = true then ((spec_l6Name.f a0_3).bind fun t186 => (if t186 = true then (some (a0_4 == 0)) else (some false))) else (some false))) = some r:=by rw [if_pos rfl] at H;exact H
      clear H
      have H:=H1
      clear H1
      replace H:=Option.bind_eq_some_iff.mp H
      obtain ⟨t185,A280,H⟩:=H
      replace H : (if t185 = true then ((spec_l6Name.f a0_3).bind fun t186 => (if t186 = true then (some (a0_4 == 0)) else (some false))) else (some false)) = some r:=H
      have A28:=Aside0.mk A280
      clear A280
      by_cases c29 : t185 = true
      rotate_left
      ·replace c29:=Bool.eq_false_iff.mpr c29
       subst c29
       have H1 : (some false) = some r:=by rw [if_neg (show ¬ (false = true) by decide)] at H;exact H
       clear H
       have H:=H1
       clear H1
       obtain rfl:=Option.some.inj H
       have hcz34_0 : wc.cell? ⟨gb182,0,none⟩ = some (.int .i64 a0_0):=(blk_cell BK182.out 0).trans rfl
       have hcz34_1 : wc.cell? ⟨gb182,1,none⟩ = some (.int .i64 a0_1):=(blk_cell BK182.out 1).trans rfl
       have hcz34_2 : wc.cell? ⟨gb182,2,none⟩ = some (.int .i64 a0_2):=(blk_cell BK182.out 2).trans rfl
       have hcz34_3 : wc.cell? ⟨gb182,3,none⟩ = some (.int .i64 a0_3):=(blk_cell BK182.out 3).trans rfl
       have hcz34_4 : wc.cell? ⟨gb182,4,none⟩ = some (.int .i64 a0_4):=(blk_cell BK182.out 4).trans rfl
       have hcz34_5 : wc.cell? ⟨gb182,5,none⟩ = some (.int .i64 a0_5):=(blk_cell BK182.out 5).trans rfl
       go_wp2_with (first | ((with_reducible refine gate_callee (f:=63) rfl ?_);refine goesL_ (some 48) rfl rfl Try.func63 (by kernel_rfl) rfl #[.int .i64 a0_2] rfl (by (try simp only [List.map_toArray,List.map_cons,List.map_nil]);first | done | rfl | (simp only [List.length_drop,List.length_take];rfl)) ?_;(with_reducible refine (spec_l6Name.calls a0_2 false _ A28.out).mono ?_);rintro e w' ⟨rfl,⟨nd,rfl⟩⟩;refine ⟨_,rfl,?_⟩))
       go_ret
       exact ⟨by first | rfl | (simp [*,errW_none,errW_some] <;> rfl),by repeat (with_reducible first | exact HB.out | apply below_alloc | apply pw_below_drewN | apply below_drew1 | refine below_set ?_ GE182.out)⟩
      subst c29
      have H1 : ((spec_l6Name.f a0_3).bind fun t186 => (if t186 = true then (some (a0_4 == 0)) else (some false))) = some r:=by rw [if_pos rfl] at H;exact H
      clear H
      have H:=H1
      clear H1
      replace H:=Option.bind_eq_some_iff.mp H
      obtain ⟨t186,A300,H⟩:=H
      replace H : (if t186 = true then (some (a0_4 == 0)) else (some false)) = some r:=H
      have A30:=Aside0.mk A300
      clear A300
      by_cases c31 : t186 = true
      ·subst c31
       have H1 : (some (a0_4 == 0)) = some r:=by rw [if_pos rfl] at H;exact H
       clear H
       have H:=H1
       clear H1
       obtain rfl:=Option.some.inj H
       have hcz32_0 : wc.cell? ⟨gb182,0,none⟩ = some (.int .i64 a0_0):=(blk_cell BK182.out 0).trans rfl
       have hcz32_1 : wc.cell? ⟨gb182,1,none⟩ = some (.int .i64 a0_1):=(blk_cell BK182.out 1).trans rfl
       have hcz32_2 : wc.cell? ⟨gb182,2,none⟩ = some (.int .i64 a0_2):=(blk_cell BK182.out 2).trans rfl
       have hcz32_3 : wc.cell? ⟨gb182,3,none⟩ = some (.int .i64 a0_3):=(blk_cell BK182.out 3).trans rfl
       have hcz32_4 : wc.cell? ⟨gb182,4,none⟩ = some (.int .i64 a0_4):=(blk_cell BK182.out 4).trans rfl
       have hcz32_5 : wc.cell? ⟨gb182,5,none⟩ = some (.int .i64 a0_5):=(blk_cell BK182.out 5).trans rfl
       go_wp2_with (first | ((with_reducible refine gate_callee (f:=63) rfl ?_);refine goesL_ (some 48) rfl rfl Try.func63 (by kernel_rfl) rfl #[.int .i64 a0_2] rfl (by (try simp only [List.map_toArray,List.map_cons,List.map_nil]);first | done | rfl | (simp only [List.length_drop,List.length_take];rfl)) ?_;(with_reducible refine (spec_l6Name.calls a0_2 true _ A28.out).mono ?_);rintro e w' ⟨rfl,⟨nd,rfl⟩⟩;refine ⟨_,rfl,?_⟩) | (go_at_call 63;(with_reducible refine (spec_l6Name.calls a0_3 true _ A30.out).mono ?_);rintro e w' ⟨rfl,⟨nd,rfl⟩⟩))
       go_ret
       exact ⟨by first | rfl | (simp [*,errW_none,errW_some] <;> rfl),by repeat (with_reducible first | exact HB.out | apply below_alloc | apply pw_below_drewN | apply below_drew1 | refine below_set ?_ GE182.out)⟩
      replace c31:=Bool.eq_false_iff.mpr c31
      subst c31
      have H1 : (some false) = some r:=by rw [if_neg (show ¬ (false = true) by decide)] at H;exact H
      clear H
      have H:=H1
      clear H1
      obtain rfl:=Option.some.inj H
      have hcz33_0 : wc.cell? ⟨gb182,0,none⟩ = some (.int .i64 a0_0):=(blk_cell BK182.out 0).trans rfl
      have hcz33_1 : wc.cell? ⟨gb182,1,none⟩ = some (.int .i64 a0_1):=(blk_cell BK182.out 1).trans rfl
      have hcz33_2 : wc.cell? ⟨gb182,2,none⟩ = some (.int .i64 a0_2):=(blk_cell BK182.out 2).trans rfl
      have hcz33_3 : wc.cell? ⟨gb182,3,none⟩ = some (.int .i64 a0_3):=(blk_cell BK182.out 3).trans rfl
      have hcz33_4 : wc.cell? ⟨gb182,4,none⟩ = some (.int .i64 a0_4):=(blk_cell BK182.out 4).trans rfl
      have hcz33_5 : wc.cell? ⟨gb182,5,none⟩ = some (.int .i64 a0_5):=(blk_cell BK182.out 5).trans rfl
      go_wp2_with (first | ((with_reducible refine gate_callee (f:=63) rfl ?_);refine goesL_ (some 48) rfl rfl Try.func63 (by kernel_rfl) rfl #[.int .i64 a0_2] rfl (by (try simp only [List.map_toArray,List.map_cons,List.map_nil]);first | done | rfl | (simp only [List.length_drop,List.length_take];rfl)) ?_;(with_reducible refine (spec_l6Name.calls a0_2 true _ A28.out).mono ?_);rintro e w' ⟨rfl,⟨nd,rfl⟩⟩;refine ⟨_,rfl,?_⟩) | (go_at_call 63;(with_reducible refine (spec_l6Name.calls a0_3 false _ A30.out).mono ?_);rintro e w' ⟨rfl,⟨nd,rfl⟩⟩))
      go_ret
      exact ⟨by first | rfl | (simp [*,errW_none,errW_some] <;> rfl),by repeat (with_reducible first | exact HB.out | apply below_alloc | apply pw_below_drewN | apply below_drew1 | refine below_set ?_ GE182.out)⟩
     replace c27:=Bool.eq_false_iff.mpr c27
     subst c27
     have H1 : (if a0_0 = 3 then ((spec_l6Name.f a0_2).bind fun t187 => (if t187 = true then ((spec_l6Name.f a0_3).bind fun t188 => (if t188 = true then ((spec_l6Name.f a0_4).bind fun t189 => (if t189 = true then ((spec_l1In.f a0_1 4 9).bind fun t190 => (some t190)) else (some false))) else (some false))) else (some false))) else (if a0_0 = 5 then (if a0_2 = 0 then ((spec_l6Name.f a0_3).bind fun t191 => (if t191 = true then ((spec_l6Name.f a0_4).bind fun t192 => (some t192)) else (some false))) else (some false)) else (if a0_0 = 6 then (if a0_2 = 0 then ((spec_l6Name.f a0_3).bind fun t193 => (if t193 = true then (some (a0_4 == 0)) else (some false))) else (some false)) else (some false)))) = some r:=by rw [if_neg (show ¬ (false = true) by decide)] at H;exact H
     clear H
     have H:=H1
     clear H1
     by_cases c35 : a0_0 = 3
     ·rw [if_pos c35] at H
      have c35b0 : (a0_0 == 3) = true:=beq_iff_eq.mpr c35
      have c35b1 : (a0_0 != 3) = false:=bne_eq_false_iff_eq.mpr c35
      clear c35
      replace H:=Option.bind_eq_some_iff.mp H
      obtain ⟨t187,A360,H⟩:=H
      replace H : (if t187 = true then ((spec_l6Name.f a0_3).bind fun t188 => (if t188 = true then ((spec_l6Name.f a0_4).bind fun t189 => (if t189 = true then ((spec_l1In.f a0_1 4 9).bind fun t190 => (some t190)) else (some false))) else (some false))) else (some false)) = some r:=H
      have A36:=Aside0.mk A360
      clear A360
      by_cases c37 : t187 = true
      rotate_left
      ·replace c37:=Bool.eq_false_iff.mpr c37
       subst c37
       have H1 : (some false) = some r:=by rw [if_neg (show ¬ (false = true) by decide)] at H;exact H
       clear H
       have H:=H1
       clear H1
       obtain rfl:=Option.some.inj H
       have hcz46_0 : wc.cell? ⟨gb182,0,none⟩ = some (.int .i64 a0_0):=(blk_cell BK182.out 0).trans rfl
       have hcz46_1 : wc.cell? ⟨gb182,1,none⟩ = some (.int .i64 a0_1):=(blk_cell BK182.out 1).trans rfl
       have hcz46_2 : wc.cell? ⟨gb182,2,none⟩ = some (.int .i64 a0_2):=(blk_cell BK182.out 2).trans rfl
       have hcz46_3 : wc.cell? ⟨gb182,3,none⟩ = some (.int .i64 a0_3):=(blk_cell BK182.out 3).trans rfl
       have hcz46_4 : wc.cell? ⟨gb182,4,none⟩ = some (.int .i64 a0_4):=(blk_cell BK182.out 4).trans rfl
       have hcz46_5 : wc.cell? ⟨gb182,5,none⟩ = some (.int .i64 a0_5):=(blk_cell BK182.out 5).trans rfl
       go_wp2_with (first | ((with_reducible refine gate_callee (f:=63) rfl ?_);refine goesL_ (some 63) rfl rfl Try.func63 (by kernel_rfl) rfl #[.int .i64 a0_2] rfl (by (try simp only [List.map_toArray,List.map_cons,List.map_nil]);first | done | rfl | (simp only [List.length_drop,List.length_take];rfl)) ?_;(with_reducible refine (spec_l6Name.calls a0_2 false _ A36.out).mono ?_);rintro e w' ⟨rfl,⟨nd,rfl⟩⟩;refine ⟨_,rfl,?_⟩))
       go_ret
       exact ⟨by first | rfl | (simp [*,errW_none,errW_some] <;> rfl),by repeat (with_reducible first | exact HB.out | apply below_alloc | apply pw_below_drewN | apply below_drew1 | refine below_set ?_ GE182.out)⟩
      subst c37
      have H1 : ((spec_l6Name.f a0_3).bind fun t188 => (if t188 = true then ((spec_l6Name.f a0_4).bind fun t189 => (if t189 = true then ((spec_l1In.f a0_1 4 9).bind fun t190 => (some t190)) else (some false))) else (some false))) = some r:=by rw [if_pos rfl] at H;exact H
      clear H
      have H:=H1
      clear H1
      replace H:=Option.bind_eq_some_iff.mp H
      obtain ⟨t188,A380,H⟩:=H
      replace H : (if t188 = true then ((spec_l6Name.f a0_4).bind fun t189 => (if t189 = true then ((spec_l1In.f a0_1 4 9).bind fun t190 => (some t190)) else (some false))) else (some false)) = some r:=H
      have A38:=Aside0.mk A380
      clear A380
      by_cases c39 : t188 = true
      rotate_left
      ·replace c39:=Bool.eq_false_iff.mpr c39
       subst c39
       have H1 : (some false) = some r:=by rw [if_neg (show ¬ (false = true) by decide)] at H;exact H
       clear H
       have H:=H1
       clear H1
       obtain rfl:=Option.some.inj H
       have hcz45_0 : wc.cell? ⟨gb182,0,none⟩ = some (.int .i64 a0_0):=(blk_cell BK182.out 0).trans rfl
       have hcz45_1 : wc.cell? ⟨gb182,1,none⟩ = some (.int .i64 a0_1):=(blk_cell BK182.out 1).trans rfl
       have hcz45_2 : wc.cell? ⟨gb182,2,none⟩ = some (.int .i64 a0_2):=(blk_cell BK182.out 2).trans rfl
       have hcz45_3 : wc.cell? ⟨gb182,3,none⟩ = some (.int .i64 a0_3):=(blk_cell BK182.out 3).trans rfl
       have hcz45_4 : wc.cell? ⟨gb182,4,none⟩ = some (.int .i64 a0_4):=(blk_cell BK182.out 4).trans rfl
       have hcz45_5 : wc.cell? ⟨gb182,5,none⟩ = some (.int .i64 a0_5):=(blk_cell BK182.out 5).trans rfl
       go_wp2_with (first | ((with_reducible refine gate_callee (f:=63) rfl ?_);refine goesL_ (some 63) rfl rfl Try.func63 (by kernel_rfl) rfl #[.int .i64 a0_2] rfl (by (try simp only [List.map_toArray,List.map_cons,List.map_nil]);first | done | rfl | (simp only [List.length_drop,List.length_take];rfl)) ?_;(with_reducible refine (spec_l6Name.calls a0_2 true _ A36.out).mono ?_);rintro e w' ⟨rfl,⟨nd,rfl⟩⟩;refine ⟨_,rfl,?_⟩) | (go_at_call 63;(with_reducible refine (spec_l6Name.calls a0_3 false _ A38.out).mono ?_);rintro e w' ⟨rfl,⟨nd,rfl⟩⟩))
       go_ret
       exact ⟨by first | rfl | (simp [*,errW_none,errW_some] <;> rfl),by repeat (with_reducible first | exact HB.out | apply below_alloc | apply pw_below_drewN | apply below_drew1 | refine below_set ?_ GE182.out)⟩
      subst c39
      have H1 : ((spec_l6Name.f a0_4).bind fun t189 => (if t189 = true then ((spec_l1In.f a0_1 4 9).bind fun t190 => (some t190)) else (some false))) = some r:=by rw [if_pos rfl] at H;exact H
      clear H
      have H:=H1
      clear H1
      replace H:=Option.bind_eq_some_iff.mp H
      obtain ⟨t189,A400,H⟩:=H
      replace H : (if t189 = true then ((spec_l1In.f a0_1 4 9).bind fun t190 => (some t190)) else (some false)) = some r:=H
      have A40:=Aside0.mk A400
      clear A400
      by_cases c41 : t189 = true
      rotate_left
      ·replace c41:=Bool.eq_false_iff.mpr c41
       subst c41
       have H1 : (some false) = some r:=by rw [if_neg (show ¬ (false = true) by decide)] at H;exact H
       clear H
       have H:=H1
       clear H1
       obtain rfl:=Option.some.inj H
       have hcz44_0 : wc.cell? ⟨gb182,0,none⟩ = some (.int .i64 a0_0):=(blk_cell BK182.out 0).trans rfl
       have hcz44_1 : wc.cell? ⟨gb182,1,none⟩ = some (.int .i64 a0_1):=(blk_cell BK182.out 1).trans rfl
       have hcz44_2 : wc.cell? ⟨gb182,2,none⟩ = some (.int .i64 a0_2):=(blk_cell BK182.out 2).trans rfl
       have hcz44_3 : wc.cell? ⟨gb182,3,none⟩ = some (.int .i64 a0_3):=(blk_cell BK182.out 3).trans rfl
       have hcz44_4 : wc.cell? ⟨gb182,4,none⟩ = some (.int .i64 a0_4):=(blk_cell BK182.out 4).trans rfl
       have hcz44_5 : wc.cell? ⟨gb182,5,none⟩ = some (.int .i64 a0_5):=(blk_cell BK182.out 5).trans rfl
       go_wp2_with (first | ((with_reducible refine gate_callee (f:=63) rfl ?_);refine goesL_ (some 63) rfl rfl Try.func63 (by kernel_rfl) rfl #[.int .i64 a0_2] rfl (by (try simp only [List.map_toArray,List.map_cons,List.map_nil]);first | done | rfl | (simp only [List.length_drop,List.length_take];rfl)) ?_;(with_reducible refine (spec_l6Name.calls a0_2 true _ A36.out).mono ?_);rintro e w' ⟨rfl,⟨nd,rfl⟩⟩;refine ⟨_,rfl,?_⟩) | (go_at_call 63;(with_reducible refine (spec_l6Name.calls a0_3 true _ A38.out).mono ?_);rintro e w' ⟨rfl,⟨nd,rfl⟩⟩) | (go_at_call 63;(with_reducible refine (spec_l6Name.calls a0_4 false _ A40.out).mono ?_);rintro e w' ⟨rfl,⟨nd,rfl⟩⟩))
       go_ret
       exact ⟨by first | rfl | (simp [*,errW_none,errW_some] <;> rfl),by repeat (with_reducible first | exact HB.out | apply below_alloc | apply pw_below_drewN | apply below_drew1 | refine below_set ?_ GE182.out)⟩
      subst c41
      have H1 : ((spec_l1In.f a0_1 4 9).bind fun t190 => (some t190)) = some r:=by rw [if_pos rfl] at H;exact H
      clear H
      have H:=H1
      clear H1
      replace H:=Option.bind_eq_some_iff.mp H
      obtain ⟨t190,A420,H⟩:=H
      replace H : (some t190) = some r:=H
      have A42:=Aside0.mk A420
      clear A420
      obtain rfl:=Option.some.inj H
      have hcz43_0 : wc.cell? ⟨gb182,0,none⟩ = some (.int .i64 a0_0):=(blk_cell BK182.out 0).trans rfl
      have hcz43_1 : wc.cell? ⟨gb182,1,none⟩ = some (.int .i64 a0_1):=(blk_cell BK182.out 1).trans rfl
      have hcz43_2 : wc.cell? ⟨gb182,2,none⟩ = some (.int .i64 a0_2):=(blk_cell BK182.out 2).trans rfl
      have hcz43_3 : wc.cell? ⟨gb182,3,none⟩ = some (.int .i64 a0_3):=(blk_cell BK182.out 3).trans rfl
      have hcz43_4 : wc.cell? ⟨gb182,4,none⟩ = some (.int .i64 a0_4):=(blk_cell BK182.out 4).trans rfl
      have hcz43_5 : wc.cell? ⟨gb182,5,none⟩ = some (.int .i64 a0_5):=(blk_cell BK182.out 5).trans rfl
      go_wp2_with (first | ((with_reducible refine gate_callee (f:=63) rfl ?_);refine goesL_ (some 63) rfl rfl Try.func63 (by kernel_rfl) rfl #[.int .i64 a0_2] rfl (by (try simp only [List.map_toArray,List.map_cons,List.map_nil]);first | done | rfl | (simp only [List.length_drop,List.length_take];rfl)) ?_;(with_reducible refine (spec_l6Name.calls a0_2 true _ A36.out).mono ?_);rintro e w' ⟨rfl,⟨nd,rfl⟩⟩;refine ⟨_,rfl,?_⟩) | (go_at_call 63;(with_reducible refine (spec_l6Name.calls a0_3 true _ A38.out).mono ?_);rintro e w' ⟨rfl,⟨nd,rfl⟩⟩) | (go_at_call 63;(with_reducible refine (spec_l6Name.calls a0_4 true _ A40.out).mono ?_);rintro e w' ⟨rfl,⟨nd,rfl⟩⟩) | (go_at_call 37;(with_reducible refine (spec_l1In.calls a0_1 4 9 t190 _ A42.out).mono ?_);rintro e w' ⟨rfl,⟨nd,rfl⟩⟩))
      go_ret
      exact ⟨by first | rfl | (simp [*,errW_none,errW_some] <;> rfl),by repeat (with_reducible first | exact HB.out | apply below_alloc | apply pw_below_drewN | apply below_drew1 | refine below_set ?_ GE182.out)⟩
     rw [if_neg c35] at H
     have c35b0 : (a0_0 == 3) = false:=beq_eq_false_iff_ne.mpr c35
     have c35b1 : (a0_0 != 3) = true:=bne_iff_ne.mpr c35
     by_cases c47 : a0_0 = 5
     ·rw [if_pos c47] at H
      have c47b0 : (a0_0 == 5) = true:=beq_iff_eq.mpr c47
      have c47b1 : (a0_0 != 5) = false:=bne_eq_false_iff_eq.mpr c47
      clear c47
      by_cases c48 : a0_2 = 0
      rotate_left
      ·rw [if_neg c48] at H
       have c48b0 : (a0_2 == 0) = false:=beq_eq_false_iff_ne.mpr c48
       have c48b1 : (a0_2 != 0) = true:=bne_iff_ne.mpr c48
       obtain rfl:=Option.some.inj H
       have hcz54_0 : wc.cell? ⟨gb182,0,none⟩ = some (.int .i64 a0_0):=(blk_cell BK182.out 0).trans rfl
       have hcz54_1 : wc.cell? ⟨gb182,1,none⟩ = some (.int .i64 a0_1):=(blk_cell BK182.out 1).trans rfl
       have hcz54_2 : wc.cell? ⟨gb182,2,none⟩ = some (.int .i64 a0_2):=(blk_cell BK182.out 2).trans rfl
       have hcz54_3 : wc.cell? ⟨gb182,3,none⟩ = some (.int .i64 a0_3):=(blk_cell BK182.out 3).trans rfl
       have hcz54_4 : wc.cell? ⟨gb182,4,none⟩ = some (.int .i64 a0_4):=(blk_cell BK182.out 4).trans rfl
       have hcz54_5 : wc.cell? ⟨gb182,5,none⟩ = some (.int .i64 a0_5):=(blk_cell BK182.out 5).trans rfl
       go_wp2
       go_ret
       exact ⟨by first | rfl | (simp [*,errW_none,errW_some] <;> rfl),by repeat (with_reducible first | exact HB.out | apply below_alloc | apply pw_below_drewN | apply below_drew1 | refine below_set ?_ GE182.out)⟩
      rw [if_pos c48] at H
      have c48b0 : (a0_2 == 0) = true:=beq_iff_eq.mpr c48
      have c48b1 : (a0_2 != 0) = false:=bne_eq_false_iff_eq.mpr c48
      clear c48
      replace H:=Option.bind_eq_some_iff.mp H
      obtain ⟨t191,A490,H⟩:=H
      replace H : (if t191 = true then ((spec_l6Name.f a0_4).bind fun t192 => (some t192)) else (some false)) = some r:=H
      have A49:=Aside0.mk A490
      clear A490
      by_cases c50 : t191 = true
      rotate_left
      ·replace c50:=Bool.eq_false_iff.mpr c50
       subst c50
       have H1 : (some false) = some r:=by rw [if_neg (show ¬ (false = true) by decide)] at H;exact H
       clear H
       have H:=H1
       clear H1
       obtain rfl:=Option.some.inj H
       have hcz53_0 : wc.cell? ⟨gb182,0,none⟩ = some (.int .i64 a0_0):=(blk_cell BK182.out 0).trans rfl
       have hcz53_1 : wc.cell? ⟨gb182,1,none⟩ = some (.int .i64 a0_1):=(blk_cell BK182.out 1).trans rfl
       have hcz53_2 : wc.cell? ⟨gb182,2,none⟩ = some (.int .i64 a0_2):=(blk_cell BK182.out 2).trans rfl
       have hcz53_3 : wc.cell? ⟨gb182,3,none⟩ = some (.int .i64 a0_3):=(blk_cell BK182.out 3).trans rfl
       have hcz53_4 : wc.cell? ⟨gb182,4,none⟩ = some (.int .i64 a0_4):=(blk_cell BK182.out 4).trans rfl
       have hcz53_5 : wc.cell? ⟨gb182,5,none⟩ = some (.int .i64 a0_5):=(blk_cell BK182.out 5).trans rfl
       go_wp2_with (first | (go_at_call 63;(with_reducible refine (spec_l6Name.calls a0_3 false _ A49.out).mono ?_);rintro e w' ⟨rfl,⟨nd,rfl⟩⟩))
       go_ret
       exact ⟨by first | rfl | (simp [*,errW_none,errW_some] <;> rfl),by repeat (with_reducible first | exact HB.out | apply below_alloc | apply pw_below_drewN | apply below_drew1 | refine below_set ?_ GE182.out)⟩
      subst c50
      have H1 : ((spec_l6Name.f a0_4).bind fun t192 => (some t192)) = some r:=by rw [if_pos rfl] at H;exact H
      clear H
      have H:=H1
      clear H1
      replace H:=Option.bind_eq_some_iff.mp H
      obtain ⟨t192,A510,H⟩:=H
      replace H : (some t192) = some r:=H
      have A51:=Aside0.mk A510
      clear A510
      obtain rfl:=Option.some.inj H
      have hcz52_0 : wc.cell? ⟨gb182,0,none⟩ = some (.int .i64 a0_0):=(blk_cell BK182.out 0).trans rfl
      have hcz52_1 : wc.cell? ⟨gb182,1,none⟩ = some (.int .i64 a0_1):=(blk_cell BK182.out 1).trans rfl
      have hcz52_2 : wc.cell? ⟨gb182,2,none⟩ = some (.int .i64 a0_2):=(blk_cell BK182.out 2).trans rfl
      have hcz52_3 : wc.cell? ⟨gb182,3,none⟩ = some (.int .i64 a0_3):=(blk_cell BK182.out 3).trans rfl
      have hcz52_4 : wc.cell? ⟨gb182,4,none⟩ = some (.int .i64 a0_4):=(blk_cell BK182.out 4).trans rfl
      have hcz52_5 : wc.cell? ⟨gb182,5,none⟩ = some (.int .i64 a0_5):=(blk_cell BK182.out 5).trans rfl
      go_wp2_with (first | (go_at_call 63;(with_reducible refine (spec_l6Name.calls a0_3 true _ A49.out).mono ?_);rintro e w' ⟨rfl,⟨nd,rfl⟩⟩) | (go_at_call 63;(with_reducible refine (spec_l6Name.calls a0_4 t192 _ A51.out).mono ?_);rintro e w' ⟨rfl,⟨nd,rfl⟩⟩))
      go_ret
      exact ⟨by first | rfl | (simp [*,errW_none,errW_some] <;> rfl),by repeat (with_reducible first | exact HB.out | apply below_alloc | apply pw_below_drewN | apply below_drew1 | refine below_set ?_ GE182.out)⟩
     rw [if_neg c47] at H
     have c47b0 : (a0_0 == 5) = false:=beq_eq_false_iff_ne.mpr c47
     have c47b1 : (a0_0 != 5) = true:=bne_iff_ne.mpr c47
     by_cases c55 : a0_0 = 6
     rotate_left
     ·rw [if_neg c55] at H
      have c55b0 : (a0_0 == 6) = false:=beq_eq_false_iff_ne.mpr c55
      have c55b1 : (a0_0 != 6) = true:=bne_iff_ne.mpr c55
      obtain rfl:=Option.some.inj H
      have hcz62_0 : wc.cell? ⟨gb182,0,none⟩ = some (.int .i64 a0_0):=(blk_cell BK182.out 0).trans rfl
      have hcz62_1 : wc.cell? ⟨gb182,1,none⟩ = some (.int .i64 a0_1):=(blk_cell BK182.out 1).trans rfl
      have hcz62_2 : wc.cell? ⟨gb182,2,none⟩ = some (.int .i64 a0_2):=(blk_cell BK182.out 2).trans rfl
      have hcz62_3 : wc.cell? ⟨gb182,3,none⟩ = some (.int .i64 a0_3):=(blk_cell BK182.out 3).trans rfl
      have hcz62_4 : wc.cell? ⟨gb182,4,none⟩ = some (.int .i64 a0_4):=(blk_cell BK182.out 4).trans rfl
      have hcz62_5 : wc.cell? ⟨gb182,5,none⟩ = some (.int .i64 a0_5):=(blk_cell BK182.out 5).trans rfl
      go_wp2
      go_ret
      exact ⟨by first | rfl | (simp [*,errW_none,errW_some] <;> rfl),by repeat (with_reducible first | exact HB.out | apply below_alloc | apply pw_below_drewN | apply below_drew1 | refine below_set ?_ GE182.out)⟩
     rw [if_pos c55] at H
     have c55b0 : (a0_0 == 6) = true:=beq_iff_eq.mpr c55
     have c55b1 : (a0_0 != 6) = false:=bne_eq_false_iff_eq.mpr c55
     clear c55
     by_cases c56 : a0_2 = 0
     rotate_left
     ·rw [if_neg c56] at H
      have c56b0 : (a0_2 == 0) = false:=beq_eq_false_iff_ne.mpr c56
      have c56b1 : (a0_2 != 0) = true:=bne_iff_ne.mpr c56
      obtain rfl:=Option.some.inj H
      have hcz61_0 : wc.cell? ⟨gb182,0,none⟩ = some (.int .i64 a0_0):=(blk_cell BK182.out 0).trans rfl
      have hcz61_1 : wc.cell? ⟨gb182,1,none⟩ = some (.int .i64 a0_1):=(blk_cell BK182.out 1).trans rfl
      have hcz61_2 : wc.cell? ⟨gb182,2,none⟩ = some (.int .i64 a0_2):=(blk_cell BK182.out 2).trans rfl
      have hcz61_3 : wc.cell? ⟨gb182,3,none⟩ = some (.int .i64 a0_3):=(blk_cell BK182.out 3).trans rfl
      have hcz61_4 : wc.cell? ⟨gb182,4,none⟩ = some (.int .i64 a0_4):=(blk_cell BK182.out 4).trans rfl
      have hcz61_5 : wc.cell? ⟨gb182,5,none⟩ = some (.int .i64 a0_5):=(blk_cell BK182.out 5).trans rfl
      go_wp2
      go_ret
      exact ⟨by first | rfl | (simp [*,errW_none,errW_some] <;> rfl),by repeat (with_reducible first | exact HB.out | apply below_alloc | apply pw_below_drewN | apply below_drew1 | refine below_set ?_ GE182.out)⟩
     rw [if_pos c56] at H
     have c56b0 : (a0_2 == 0) = true:=beq_iff_eq.mpr c56
     have c56b1 : (a0_2 != 0) = false:=bne_eq_false_iff_eq.mpr c56
     clear c56
     replace H:=Option.bind_eq_some_iff.mp H
     obtain ⟨t193,A570,H⟩:=H
     replace H : (if t193 = true then (some (a0_4 == 0)) else (some false)) = some r:=H
     have A57:=Aside0.mk A570
     clear A570
     by_cases c58 : t193 = true
     ·subst c58
      have H1 : (some (a0_4 == 0)) = some r:=by rw [if_pos rfl] at H;exact H
      clear H
      have H:=H1
      clear H1
      obtain rfl:=Option.some.inj H
      have hcz59_0 : wc.cell? ⟨gb182,0,none⟩ = some (.int .i64 a0_0):=(blk_cell BK182.out 0).trans rfl
      have hcz59_1 : wc.cell? ⟨gb182,1,none⟩ = some (.int .i64 a0_1):=(blk_cell BK182.out 1).trans rfl
      have hcz59_2 : wc.cell? ⟨gb182,2,none⟩ = some (.int .i64 a0_2):=(blk_cell BK182.out 2).trans rfl
      have hcz59_3 : wc.cell? ⟨gb182,3,none⟩ = some (.int .i64 a0_3):=(blk_cell BK182.out 3).trans rfl
      have hcz59_4 : wc.cell? ⟨gb182,4,none⟩ = some (.int .i64 a0_4):=(blk_cell BK182.out 4).trans rfl
      have hcz59_5 : wc.cell? ⟨gb182,5,none⟩ = some (.int .i64 a0_5):=(blk_cell BK182.out 5).trans rfl
      go_wp2_with (first | (go_at_call 63;(with_reducible refine (spec_l6Name.calls a0_3 true _ A57.out).mono ?_);rintro e w' ⟨rfl,⟨nd,rfl⟩⟩))
      go_ret
      exact ⟨by first | rfl | (simp [*,errW_none,errW_some] <;> rfl),by repeat (with_reducible first | exact HB.out | apply below_alloc | apply pw_below_drewN | apply below_drew1 | refine below_set ?_ GE182.out)⟩
     replace c58:=Bool.eq_false_iff.mpr c58
     subst c58
     have H1 : (some false) = some r:=by rw [if_neg (show ¬ (false = true) by decide)] at H;exact H
     clear H
     have H:=H1
     clear H1
     obtain rfl:=Option.some.inj H
     have hcz60_0 : wc.cell? ⟨gb182,0,none⟩ = some (.int .i64 a0_0):=(blk_cell BK182.out 0).trans rfl
     have hcz60_1 : wc.cell? ⟨gb182,1,none⟩ = some (.int .i64 a0_1):=(blk_cell BK182.out 1).trans rfl
     have hcz60_2 : wc.cell? ⟨gb182,2,none⟩ = some (.int .i64 a0_2):=(blk_cell BK182.out 2).trans rfl
     have hcz60_3 : wc.cell? ⟨gb182,3,none⟩ = some (.int .i64 a0_3):=(blk_cell BK182.out 3).trans rfl
     have hcz60_4 : wc.cell? ⟨gb182,4,none⟩ = some (.int .i64 a0_4):=(blk_cell BK182.out 4).trans rfl
     have hcz60_5 : wc.cell? ⟨gb182,5,none⟩ = some (.int .i64 a0_5):=(blk_cell BK182.out 5).trans rfl
     go_wp2_with (first | (go_at_call 63;(with_reducible refine (spec_l6Name.calls a0_3 false _ A57.out).mono ?_);rintro e w' ⟨rfl,⟨nd,rfl⟩⟩))
     go_ret
     exact ⟨by first | rfl | (simp [*,errW_none,errW_some] <;> rfl),by repeat (with_reducible first | exact HB.out | apply below_alloc | apply pw_below_drewN | apply below_drew1 | refine below_set ?_ GE182.out)⟩

end Go.Proofs.Ythgkhfhfahifmaa.Q
