-- WRITTEN BY A PROGRAM OF THIS SESSION
import Derived.Test.YthgkhfhfahifmaaWMi2
import Derived.Test.YthgkhfhfahifmaaQ0
import Derived.Test.YthgkhfhfahifmaaQ3
import Derived.Test.YthgkhfhfahifmaaQ49
namespace Go.Proofs.Ythgkhfhfahifmaa.Q
open Go.RowKit Go.Proofs.YthgkhfhfahifmaaW.PrintWords Go.Proofs.YthgkhfhfahifmaaW.PrintLast Go.Proofs.YthgkhfhfahifmaaW.PrintMore
attribute [local go_sem] max2_int min2_int max_two min_two max_three min_three max_four min_four   -- for this text's walks alone
set_option linter.unusedVariables false
set_option linter.unusedSimpArgs false

/-! ### spec_l6Reach: function 49 -/
mutual
def spec_l6Reach.l0 : Nat → List (S56) → List Int → Int → Option (List Int)
 | 0,_,_,_ => none
 | k + 1,x0,x3,x4 => if x4 < (x3.length : Int) then (if 0 ≤ x4 then (if 0 ≤ (rd x3 x4) then (if (rd x3 x4) < (x0.length : Int) then (spec_l6Reach.l1 k x0 x3 x4 ((rd_T56 x0 (rd x3 x4)).f3) (((rd_T56 x0 (rd x3 x4)).f3).length : Int) 0) else (none)) else (none)) else (none)) else (spec_l6Reach.l2 k ([] : List Int) x3 (x3.length : Int) 0)
def spec_l6Reach.l1 : Nat → List (S56) → List Int → Int → List Int → Int → Int → Option (List Int)
 | 0,_,_,_,_,_,_ => none
 | k + 1,x0,x3,x4,x24,x25,x26 => if x26 < x25 then (if 0 ≤ x26 then (if x26 < (x24.length : Int) then ((spec_l1Has.f k x3 (rd x24 x26)).bind fun t256 => (if t256 = true then (spec_l6Reach.l1 k x0 x3 x4 x24 x25 (wrap64 (x26 + 1))) else (if x3.length < 17592186044416 then (spec_l6Reach.l1 k x0 (x3 ++ [rd x24 x26]) x4 x24 x25 (wrap64 (x26 + 1))) else (none)))) else (none)) else (none)) else (spec_l6Reach.l0 k x0 x3 (wrap64 (x4 + 1)))
def spec_l6Reach.l2 : Nat → List Int → List Int → Int → Int → Option (List Int)
 | 0,_,_,_,_ => none
 | k + 1,x7,x39,x40,x41 => if x41 < x40 then (if 0 ≤ x41 then (if x41 < (x39.length : Int) then ((spec_l1Put.f k x7 (rd x39 x41)).bind fun t261 => (spec_l6Reach.l2 k t261 x39 x40 (wrap64 (x41 + 1)))) else (none)) else (none)) else (some x7)
end
def spec_l6Reach.f (k : Nat) (l0 : List (S56)) : Option (List Int):=spec_l6Reach.l0 k l0 (([0] : List Int)) 0
theorem spec_l6Reach.mono_l : ∀ k,(∀ y0 y1 y2,LeO (spec_l6Reach.l0 k y0 y1 y2) (spec_l6Reach.l0 (k + 1) y0 y1 y2)) ∧ (∀ y0 y1 y2 y3 y4 y5,LeO (spec_l6Reach.l1 k y0 y1 y2 y3 y4 y5) (spec_l6Reach.l1 (k + 1) y0 y1 y2 y3 y4 y5)) ∧ (∀ y0 y1 y2 y3,LeO (spec_l6Reach.l2 k y0 y1 y2 y3) (spec_l6Reach.l2 (k + 1) y0 y1 y2 y3))
 | 0 => ⟨fun _ _ _ r h => by simp [spec_l6Reach.l0] at h,fun _ _ _ _ _ _ r h => by simp [spec_l6Reach.l1] at h,fun _ _ _ _ r h => by simp [spec_l6Reach.l2] at h⟩
 | k + 1 => by
  obtain ⟨ih0,ih1,ih2⟩:=spec_l6Reach.mono_l k
  refine ⟨?_,?_,?_⟩
  ·intro y0 y1 y2
   unfold spec_l6Reach.l0
   repeat' first
   | (with_reducible exact ih0 _ _ _)
   | (with_reducible exact ih1 _ _ _ _ _ _)
   | (with_reducible exact ih2 _ _ _ _)
   | (with_reducible exact spec_l1Has.mono _ _ _)
   | (with_reducible exact spec_l1Put.mono _ _ _)
   | (with_reducible exact LeO.refl _)
   | (with_reducible exact LeO.none _)
   | (with_reducible refine LeO.ite ?_ ?_)
   | (with_reducible refine LeO.bind ?_ (fun _ => ?_))
   | exact ih0 _ _ _
   | exact ih1 _ _ _ _ _ _
   | exact ih2 _ _ _ _
   | exact spec_l1Has.mono _ _ _
   | exact spec_l1Put.mono _ _ _
   | exact LeO.none _
   | refine LeO.ite ?_ ?_
   | refine LeO.bind ?_ (fun _ => ?_)
  ·intro y0 y1 y2 y3 y4 y5
   unfold spec_l6Reach.l1
   repeat' first
   | (with_reducible exact ih0 _ _ _)
   | (with_reducible exact ih1 _ _ _ _ _ _)
   | (with_reducible exact ih2 _ _ _ _)
   | (with_reducible exact spec_l1Has.mono _ _ _)
   | (with_reducible exact spec_l1Put.mono _ _ _)
   | (with_reducible exact LeO.refl _)
   | (with_reducible exact LeO.none _)
   | (with_reducible refine LeO.ite ?_ ?_)
   | (with_reducible refine LeO.bind ?_ (fun _ => ?_))
   | exact ih0 _ _ _
   | exact ih1 _ _ _ _ _ _
   | exact ih2 _ _ _ _
   | exact spec_l1Has.mono _ _ _
   | exact spec_l1Put.mono _ _ _
   | exact LeO.none _
   | refine LeO.ite ?_ ?_
   | refine LeO.bind ?_ (fun _ => ?_)
  ·intro y0 y1 y2 y3
   unfold spec_l6Reach.l2
   repeat' first
   | (with_reducible exact ih0 _ _ _)
   | (with_reducible exact ih1 _ _ _ _ _ _)
   | (with_reducible exact ih2 _ _ _ _)
   | (with_reducible exact spec_l1Has.mono _ _ _)
   | (with_reducible exact spec_l1Put.mono _ _ _)
   | (with_reducible exact LeO.refl _)
   | (with_reducible exact LeO.none _)
   | (with_reducible refine LeO.ite ?_ ?_)
   | (with_reducible refine LeO.bind ?_ (fun _ => ?_))
   | exact ih0 _ _ _
   | exact ih1 _ _ _ _ _ _
   | exact ih2 _ _ _ _
   | exact spec_l1Has.mono _ _ _
   | exact spec_l1Put.mono _ _ _
   | exact LeO.none _
   | refine LeO.ite ?_ ?_
   | refine LeO.bind ?_ (fun _ => ?_)
theorem spec_l6Reach.mono : ∀ a0 k,LeO (spec_l6Reach.f k a0) (spec_l6Reach.f (k + 1) a0):=by
 intro a0 k
 obtain ⟨ih0,ih1,ih2⟩:=spec_l6Reach.mono_l k
 unfold spec_l6Reach.f
 repeat' first
   | (with_reducible exact ih0 _ _ _)
   | (with_reducible exact ih1 _ _ _ _ _ _)
   | (with_reducible exact ih2 _ _ _ _)
   | (with_reducible exact spec_l1Has.mono _ _ _)
   | (with_reducible exact spec_l1Put.mono _ _ _)
   | (with_reducible exact LeO.refl _)
   | (with_reducible exact LeO.none _)
   | (with_reducible refine LeO.ite ?_ ?_)
   | (with_reducible refine LeO.bind ?_ (fun _ => ?_))
   | exact ih0 _ _ _
   | exact ih1 _ _ _ _ _ _
   | exact ih2 _ _ _ _
   | exact spec_l1Has.mono _ _ _
   | exact spec_l1Put.mono _ _ _
   | exact LeO.none _
   | refine LeO.ite ?_ ?_
   | refine LeO.bind ?_ (fun _ => ?_)
set_option maxHeartbeats 8000000 in
set_option maxRecDepth 100000 in
theorem spec_l6Reach.calls (k : Nat) (A0 : Option Addr) (c0 : Nat) (l0 : List (S56)) (r : List Int) (w : World) (hr0 : Kd.C k56 w A0 l0.length l0) (hc0 : l0.length ≤ c0) (h : spec_l6Reach.f k l0 = some r) :
  Calls Try.prog 49 #[.slice A0 l0.length c0] w fun e w' => ∃ v0_ : Value,e = .returned (v0_) ∧ Kd.R (Kd.int .i64) 3 w' w.heap.size (fun _ => True) v0_ r ∧ Below w.heap.size w w':=by
 have HR0:=Aside0.mk hr0
 have HC0:=Aside0.mk hc0
 clear hr0 hc0
 have HB:=Aside0.mk (Below.refl w.heap.size w)
 have H : (spec_l6Reach.l0 k l0 (([0] : List Int)) 0) = some r:=h
 clear h
 obtain ⟨y250,hy250⟩ : ∃ y_ : List Int,y_ = (([0] : List Int)):=⟨_,rfl⟩
 replace H : (spec_l6Reach.l0 k l0 y250 0) = some r:=by first | (rw [hy250];with_reducible exact H) | (have H2_:=(Option.bind_some _ _).symm.trans H;rw [hy250];with_reducible exact H2_) | (have H2_:=(Option.bind_some _ _).symm.trans H;with_reducible exact H2_) | with_reducible exact H | (rw [hy250];exact H) | exact H
 have Ny250:=Aside0.mk hy250
 clear hy250
 have H':=Aside0.mk H
 clear H
 go_enter Try.func49,Try.ntmps49
 go_wp2_with (first | ((with_reducible refine gate_dst (N:=10) rfl ?_);refine Kd.R_lit (Kd.int .i64) _ 3 ?hg (N:=10) ?hd (xs:=([0] : List Int)) (inner:=[.int .i64 0]) (ok:=fun _ => True) (okp:=fun _ => True) ?hr ?hp (fun _ hk => hk) trivial (Below.refl _ _) (Nat.le_refl _) (by simp) ?_;(case hd => rfl);(case hg => rfl);(case hr => first | (go_simp;done) | (go_simp;rfl));(case hp => exact (Reps.one (show Kd.M (Kd.int .i64) _ _ _ 0 [.int .i64 0] from rfl) (Reps.none _ _)));intro v251 w2 ho3 hb hg_ hnew_;clear hg_ hnew_;(first | rw [← Ny250.out] at ho3 | (simp only [Int.reduceToNat] at ho3;rw [← Ny250.out] at ho3));have n0_:=Aside0.mk (Kd.R_lower ho3 (below_size (by repeat (first | (with_reducible first | exact HB.out | apply below_alloc | apply pw_below_drewN | apply below_drew1) | exact HB.out))));have n1_:=Aside0.mk (below_step (by repeat (first | (with_reducible first | exact HB.out | apply below_alloc | apply pw_below_drewN | apply below_drew1) | exact HB.out)) hb);clear HB;have HO252:=n0_;have HB:=n1_;clear n0_ n1_;clear hb ho3))
 go_loopg [3,4] k (fun kq v3 v4 w' => ∃ (x3_1 : List Int) (x4_1 : Int),v4 = .int .i64 x4_1 ∧ Aside0 (spec_l6Reach.l0 kq l0 x3_1 x4_1 = some r) ∧ Aside0 (kq ≤ k) ∧ Aside0 (Kd.R (Kd.int .i64) 3 w' w.heap.size (fun _ => True) v3 x3_1) ∧ Aside0 (Below w.heap.size w w'))
 case atStart => exact ⟨(y250),(0),(by first | rfl | (simp;done) | (simp [*];done)),H',⟨Nat.le_refl _⟩,⟨by (with_reducible repeat (first | apply Kd.R_alloc | apply Kd.R_drewN | apply Kd.R_drew));exact HO252.out⟩,⟨by repeat (first | (with_reducible first | exact HB.out | apply below_alloc | apply pw_below_drewN | apply below_drew1) | exact HB.out)⟩⟩
 case round =>
  clear H'
  try clear p2
  obtain ⟨x3_1,x4_1,rfl,HA,HK1,HO_3,HB⟩:=hrel
  cases gk with
  | zero => exact absurd HA.out (by simp [spec_l6Reach.l0])
  | succ k1 =>
   have H:=HA.out
   clear HA
   simp only [spec_l6Reach.l0] at H
   by_cases c4 : x4_1 < (x3_1.length : Int)
   ·rw [if_pos c4] at H
    have c4b0 : decide (x4_1 < (x3_1.length : Int)) = true:=decide_eq_true c4
    clear c4
    by_cases c5 : 0 ≤ x4_1
    ·rw [if_pos c5] at H
     have c5b0 : decide (0 ≤ x4_1) = true:=decide_eq_true c5
     clear c5
     by_cases c6 : 0 ≤ (rd x3_1 x4_1)
     ·rw [if_pos c6] at H
      have c6b0 : decide (0 ≤ (rd x3_1 x4_1)) = true:=decide_eq_true c6
      clear c6
      by_cases c7 : (rd x3_1 x4_1) < (l0.length : Int)
      ·rw [if_pos c7] at H
       have c7b0 : decide ((rd x3_1 x4_1) < (l0.length : Int)) = true:=decide_eq_true c7
       clear c7
       have H':=Aside0.mk H
       clear H
       obtain ⟨Ao8,co8,eo8⟩:=Kd.R_slice HO_3.out
       subst eo8
       have p253 : 0 ≤ (x4_1 : Int):=of_decide_eq_true (by first | (with_reducible assumption) | assumption)
       have q253 : x4_1 < (x3_1.length : Int):=of_decide_eq_true (by first | (with_reducible assumption) | assumption)
       obtain ⟨ad253,e253,hx253_0⟩:=Kd.at_int (Kd.R_reads' HO_3.out).2.2 x4_1 p253 q253
       cases e253
       replace p253:=eq_true p253
       replace q253:=eq_true q253
       have p254 : 0 ≤ ((rd x3_1 x4_1) : Int):=of_decide_eq_true (by first | (with_reducible assumption) | assumption)
       have q254 : (rd x3_1 x4_1) < (l0.length : Int):=of_decide_eq_true (by first | (with_reducible assumption) | assumption)
       obtain ⟨ad254,A254_0,c254_0,A254_3,c254_3,e254,hx254_0,hx254_1,hx254_2,hx254_3,hl254_0,hi254_0,hl254_3,hi254_3⟩:=at_T56 HR0.out (rd x3_1 x4_1) p254 q254
       cases e254
       replace hx254_0:=(HB.out.cell (World.block_lt_of_cell? w _ hx254_0)).trans hx254_0
       replace hx254_1:=(HB.out.cell (World.block_lt_of_cell? w _ hx254_1)).trans hx254_1
       replace hx254_2:=(HB.out.cell (World.block_lt_of_cell? w _ hx254_2)).trans hx254_2
       replace hx254_3:=(HB.out.cell (World.block_lt_of_cell? w _ hx254_3)).trans hx254_3
       have HR254_0:=Aside0.mk hi254_0
       have HC254_0:=Aside0.mk hl254_0
       clear hi254_0 hl254_0
       have HR254_3:=Aside0.mk hi254_3
       have HC254_3:=Aside0.mk hl254_3
       clear hi254_3 hl254_3
       replace p254:=eq_true p254
       replace q254:=eq_true q254
       go_wp2
       go_loopg [3,26] k1 (fun kq v3 v26 w' => ∃ (x3_2 : List Int) (x26_2 : Int),v26 = .int .i64 x26_2 ∧ Aside0 (spec_l6Reach.l1 kq l0 x3_2 x4_1 ((rd_T56 l0 (rd x3_1 x4_1)).f3) (((rd_T56 l0 (rd x3_1 x4_1)).f3).length : Int) x26_2 = some r) ∧ Aside0 (kq ≤ k1) ∧ Aside0 (Kd.R (Kd.int .i64) 3 w' w.heap.size (fun _ => True) v3 x3_2) ∧ Aside0 (Below w.heap.size w w'))
       case atStart => exact ⟨(x3_1),(0),(by first | rfl | (simp;done) | (simp [*];done)),H',⟨Nat.le_refl _⟩,⟨by (with_reducible repeat (first | apply Kd.R_alloc | apply Kd.R_drewN | apply Kd.R_drew));exact HO_3.out⟩,⟨by repeat (first | (with_reducible first | exact HB.out | apply below_alloc | apply pw_below_drewN | apply below_drew1) | exact HB.out)⟩⟩
       case round =>
        clear H'
        try clear c2
        try clear p2
        try clear q2
        try clear hx2
        try clear c4
        try clear c4b0
        try clear c5
        try clear c5b0
        try clear c6
        try clear c6b0
        try clear c7
        try clear c7b0
        try clear hx253_0
        try clear hx254_0
        try clear hx254_1
        try clear hx254_2
        try clear hx254_3
        try clear p2
        try clear p253
        try clear p254
        try clear q253
        try clear q254
        obtain ⟨x3_2,x26_2,rfl,HA,HK2,HO_3,HB⟩:=hrel
        cases gk with
        | zero => exact absurd HA.out (by simp [spec_l6Reach.l1])
        | succ k2 =>
         have H:=HA.out
         clear HA
         simp only [spec_l6Reach.l1] at H
         by_cases c9 : x26_2 < (((rd_T56 l0 (rd x3_1 x4_1)).f3).length : Int)
         ·rw [if_pos c9] at H
          have c9b0 : decide (x26_2 < (((rd_T56 l0 (rd x3_1 x4_1)).f3).length : Int)) = true:=decide_eq_true c9
          clear c9
          by_cases c10 : 0 ≤ x26_2
          ·rw [if_pos c10] at H
           have c10b0 : decide (0 ≤ x26_2) = true:=decide_eq_true c10
           clear c10
           by_cases c11 : x26_2 < (((rd_T56 l0 (rd x3_1 x4_1)).f3).length : Int)
           ·rw [if_pos c11] at H
            have c11b0 : decide (x26_2 < (((rd_T56 l0 (rd x3_1 x4_1)).f3).length : Int)) = true:=decide_eq_true c11
            clear c11
            replace H:=Option.bind_eq_some_iff.mp H
            obtain ⟨t256,A120,H⟩:=H
            replace H : (if t256 = true then (spec_l6Reach.l1 k2 l0 x3_2 x4_1 ((rd_T56 l0 (rd x3_1 x4_1)).f3) (((rd_T56 l0 (rd x3_1 x4_1)).f3).length : Int) (wrap64 (x26_2 + 1))) else (if x3_2.length < 17592186044416 then (spec_l6Reach.l1 k2 l0 (x3_2 ++ [rd ((rd_T56 l0 (rd x3_1 x4_1)).f3) x26_2]) x4_1 ((rd_T56 l0 (rd x3_1 x4_1)).f3) (((rd_T56 l0 (rd x3_1 x4_1)).f3).length : Int) (wrap64 (x26_2 + 1))) else (none))) = some r:=H
            have A12:=Aside0.mk A120
            clear A120
            by_cases c13 : t256 = true
            ·subst c13
             have H1 : (spec_l6Reach.l1 k2 l0 x3_2 x4_1 ((rd_T56 l0 (rd x3_1 x4_1)).f3) (((rd_T56 l0 (rd x3_1 x4_1)).f3).length : Int) (wrap64 (x26_2 + 1))) = some r:=by rw [if_pos rfl] at H;exact H
             clear H
             have H:=H1
             clear H1
             have H':=Aside0.mk H
             clear H
             have p255 : 0 ≤ (x26_2 : Int):=of_decide_eq_true (by first | (with_reducible assumption) | assumption)
             have q255 : x26_2 < (((rd_T56 l0 (rd x3_1 x4_1)).f3).length : Int):=of_decide_eq_true (by first | (with_reducible assumption) | assumption)
             obtain ⟨ad255,e255,hx255_0⟩:=Kd.at_int HR254_3.out x26_2 p255 q255
             cases e255
             replace hx255_0:=(HB.out.cell (World.block_lt_of_cell? w _ hx255_0)).trans hx255_0
             replace p255:=eq_true p255
             replace q255:=eq_true q255
             obtain ⟨Ao14,co14,eo14⟩:=Kd.R_slice HO_3.out
             subst eo14
             go_wp2_with (first | ((with_reducible refine gate_callee (f:=78) rfl ?_);refine goesL_ (some 32) rfl rfl Try.func78 (by kernel_rfl) rfl #[.slice Ao14 x3_2.length co14,.int .i64 (rd ((rd_T56 l0 (rd x3_1 x4_1)).f3) x26_2)] rfl (by (try simp only [List.map_toArray,List.map_cons,List.map_nil]);first | done | rfl | (simp only [List.length_drop,List.length_take];rfl)) ?_;(with_reducible refine (spec_l1Has.calls k2 _ _ x3_2 (rd ((rd_T56 l0 (rd x3_1 x4_1)).f3) x26_2) true _ ?side1 ?side2 A12.out).mono ?_);(case side1 => repeat (first | exact (Kd.R_reads' HO_3.out).2.2 | (with_reducible refine Kd.C_alloc ?_ _) | (with_reducible refine Kd.C_drewN ?_ _) | (with_reducible refine Kd.C_drew ?_)));(case side2 => exact (Kd.R_reads' HO_3.out).2.1);rintro e w' ⟨rfl,⟨nd,rfl⟩⟩;refine ⟨_,rfl,?_⟩))
             go_roundg k2
             case measure => have:=HK1.out;have:=HK2.out;omega
             case rel => exact ⟨(x3_2),(wrap64 (x26_2 + 1)),(by first | rfl | (simp;done) | (simp [*];done)),H',⟨by have:=HK1.out;have:=HK2.out;omega⟩,⟨by (with_reducible repeat (first | apply Kd.R_alloc | apply Kd.R_drewN | apply Kd.R_drew));exact HO_3.out⟩,⟨by repeat (first | (with_reducible first | exact HB.out | apply below_alloc | apply pw_below_drewN | apply below_drew1) | exact HB.out)⟩⟩
            ·replace c13:=Bool.eq_false_iff.mpr c13
             subst c13
             have H1 : (if x3_2.length < 17592186044416 then (spec_l6Reach.l1 k2 l0 (x3_2 ++ [rd ((rd_T56 l0 (rd x3_1 x4_1)).f3) x26_2]) x4_1 ((rd_T56 l0 (rd x3_1 x4_1)).f3) (((rd_T56 l0 (rd x3_1 x4_1)).f3).length : Int) (wrap64 (x26_2 + 1))) else (none)) = some r:=by rw [if_neg (show ¬ (false = true) by decide)] at H;exact H
             clear H
             have H:=H1
             clear H1
             by_cases c15 : x3_2.length < 17592186044416
             ·rw [if_pos c15] at H
              have LMc15:=Aside0.mk c15
              clear c15
              obtain ⟨y257,hy257⟩ : ∃ y_ : List Int,y_ = (x3_2 ++ [rd ((rd_T56 l0 (rd x3_1 x4_1)).f3) x26_2]):=⟨_,rfl⟩
              replace H : (spec_l6Reach.l1 k2 l0 y257 x4_1 ((rd_T56 l0 (rd x3_1 x4_1)).f3) (((rd_T56 l0 (rd x3_1 x4_1)).f3).length : Int) (wrap64 (x26_2 + 1))) = some r:=by first | (rw [hy257];with_reducible exact H) | (have H2_:=(Option.bind_some _ _).symm.trans H;rw [hy257];with_reducible exact H2_) | (have H2_:=(Option.bind_some _ _).symm.trans H;with_reducible exact H2_) | with_reducible exact H | (rw [hy257];exact H) | exact H
              have Ny257:=Aside0.mk hy257
              clear hy257
              have H':=Aside0.mk H
              clear H
              have p255 : 0 ≤ (x26_2 : Int):=of_decide_eq_true (by first | (with_reducible assumption) | assumption)
              have q255 : x26_2 < (((rd_T56 l0 (rd x3_1 x4_1)).f3).length : Int):=of_decide_eq_true (by first | (with_reducible assumption) | assumption)
              obtain ⟨ad255,e255,hx255_0⟩:=Kd.at_int HR254_3.out x26_2 p255 q255
              cases e255
              replace hx255_0:=(HB.out.cell (World.block_lt_of_cell? w _ hx255_0)).trans hx255_0
              replace p255:=eq_true p255
              replace q255:=eq_true q255
              obtain ⟨Ao16,co16,eo16⟩:=Kd.R_slice HO_3.out
              subst eo16
              go_wp2_with (first | ((with_reducible refine gate_callee (f:=78) rfl ?_);refine goesL_ (some 32) rfl rfl Try.func78 (by kernel_rfl) rfl #[.slice Ao16 x3_2.length co16,.int .i64 (rd ((rd_T56 l0 (rd x3_1 x4_1)).f3) x26_2)] rfl (by (try simp only [List.map_toArray,List.map_cons,List.map_nil]);first | done | rfl | (simp only [List.length_drop,List.length_take];rfl)) ?_;(with_reducible refine (spec_l1Has.calls k2 _ _ x3_2 (rd ((rd_T56 l0 (rd x3_1 x4_1)).f3) x26_2) false _ ?side1 ?side2 A12.out).mono ?_);(case side1 => repeat (first | exact (Kd.R_reads' HO_3.out).2.2 | (with_reducible refine Kd.C_alloc ?_ _) | (with_reducible refine Kd.C_drewN ?_ _) | (with_reducible refine Kd.C_drew ?_)));(case side2 => exact (Kd.R_reads' HO_3.out).2.1);rintro e w' ⟨rfl,⟨nd,rfl⟩⟩;refine ⟨_,rfl,?_⟩) | ((with_reducible refine gate_builtin (b:=.append) (xs:=#[.tmp 34,.tmp 36]) rfl ?_);at_builtin;refine Kd.R_append (Kd.int .i64) (w0:=w) w.heap.size rfl (.tmp 34) (.tmp 36) 37 3 (.int .i64 0) 8 rfl Try.underlying37 info3 rfl (by decide) (by omega) (.slice Ao16 x3_2.length co16) x3_2 (rd ((rd_T56 l0 (rd x3_1 x4_1)).f3) x26_2) [.int .i64 (rd ((rd_T56 l0 (rd x3_1 x4_1)).f3) x26_2)] (fun _ => True) (fun _ => False) rfl rfl ?aP (fun _ hk => hk.elim) ?aF ?aO ?aB ?aS ?aL ?_;(case aP => exact rfl);(case aB => exact (by repeat (first | (with_reducible first | exact HB.out | apply below_alloc | apply pw_below_drewN | apply below_drew1) | exact HB.out)));(case aF => exact (fun _ _ => trivial));(case aO => exact (by (with_reducible repeat (first | apply Kd.R_alloc | apply Kd.R_drewN | apply Kd.R_drew));exact HO_3.out));(case aS => exact (below_size (by repeat (first | (with_reducible first | exact HB.out | apply below_alloc | apply pw_below_drewN | apply below_drew1) | exact HB.out))));(case aL => have:=LMc15.out;omega);intro v258 w17 ho hb hg hat;rw [← Ny257.out] at ho;have n0_:=Aside0.mk (hb);have n1_:=Aside0.mk (ho);clear HB;clear HO_3;have HB:=n0_;have HO259:=n1_;clear n0_ n1_;clear ho hb hg hat))
              go_roundg k2
              case measure => have:=HK1.out;have:=HK2.out;omega
              case rel => exact ⟨(y257),(wrap64 (x26_2 + 1)),(by first | rfl | (simp;done) | (simp [*];done)),H',⟨by have:=HK1.out;have:=HK2.out;omega⟩,⟨by (with_reducible repeat (first | apply Kd.R_alloc | apply Kd.R_drewN | apply Kd.R_drew));exact HO259.out⟩,⟨by repeat (first | (with_reducible first | exact HB.out | apply below_alloc | apply pw_below_drewN | apply below_drew1) | exact HB.out)⟩⟩
             ·rw [if_neg c15] at H
              exact absurd H (by simp)
           ·rw [if_neg c11] at H
            exact absurd H (by simp)
          ·rw [if_neg c10] at H
           exact absurd H (by simp)
         ·rw [if_neg c9] at H
          have c9b0 : decide (x26_2 < (((rd_T56 l0 (rd x3_1 x4_1)).f3).length : Int)) = false:=decide_eq_false c9
          clear c9
          have H':=Aside0.mk H
          clear H
          go_wp2
          go_roundg k2
          case measure => have:=HK1.out;have:=HK2.out;omega
          case rel => exact ⟨(x3_2),(wrap64 (x4_1 + 1)),(by first | rfl | (simp;done) | (simp [*];done)),H',⟨by have:=HK1.out;have:=HK2.out;omega⟩,⟨by (with_reducible repeat (first | apply Kd.R_alloc | apply Kd.R_drewN | apply Kd.R_drew));exact HO_3.out⟩,⟨by repeat (first | (with_reducible first | exact HB.out | apply below_alloc | apply pw_below_drewN | apply below_drew1) | exact HB.out)⟩⟩
      ·rw [if_neg c7] at H
       exact absurd H (by simp)
     ·rw [if_neg c6] at H
      exact absurd H (by simp)
    ·rw [if_neg c5] at H
     exact absurd H (by simp)
   ·rw [if_neg c4] at H
    have c4b0 : decide (x4_1 < (x3_1.length : Int)) = false:=decide_eq_false c4
    clear c4
    have H':=Aside0.mk H
    clear H
    obtain ⟨Ao18,co18,eo18⟩:=Kd.R_slice HO_3.out
    subst eo18
    go_wp2
    go_loopg [7,41] k1 (fun kq v7 v41 w' => ∃ (x7_2 : List Int) (x41_2 : Int),v41 = .int .i64 x41_2 ∧ Aside0 (spec_l6Reach.l2 kq x7_2 x3_1 (x3_1.length : Int) x41_2 = some r) ∧ Aside0 (kq ≤ k1) ∧ Aside0 (Kd.R (Kd.int .i64) 3 w' w.heap.size (fun k_ => some k_ ≠ ((.slice Ao18 x3_1.length co18) : Value).ownBlock) v7 x7_2) ∧ Aside0 (Kd.R (Kd.int .i64) 3 w' w.heap.size (fun k_ => some k_ ≠ (v7 : Value).ownBlock) (.slice Ao18 x3_1.length co18) x3_1) ∧ Aside0 (Below w.heap.size w w'))
    case atStart => exact ⟨(([] : List Int)),(0),(by first | rfl | (simp;done) | (simp [*];done)),H',⟨Nat.le_refl _⟩,⟨by first | exact Kd.R_nil _ _ _ _ _ | exact Kd.N_nil _ _ _ _ _ | exact Kd.V_nil _ _ _ _ _ | exact Kd.Q_nil _ _ _ _ _ | exact Kd.S_nil _ _ _ _ _⟩,⟨by (with_reducible repeat (first | apply Kd.R_alloc | apply Kd.R_drewN | apply Kd.R_drew));exact Kd.R_mono HO_3.out (fun _ hk => (by simp [Value.ownBlock]))⟩,⟨by repeat (first | (with_reducible first | exact HB.out | apply below_alloc | apply pw_below_drewN | apply below_drew1) | exact HB.out)⟩⟩
    case round =>
     clear H'
     try clear c1
     try clear c2
     try clear p2
     try clear q2
     try clear hx2
     try clear c4
     try clear c4b0
     try clear c5
     try clear c5b0
     try clear c6
     try clear c6b0
     try clear p6
     try clear c7
     try clear c7b0
     try clear c9
     try clear c9b0
     try clear c10
     try clear c10b0
     try clear c11
     try clear c11b0
     try clear c13
     try clear c15
     try clear hx253_0
     try clear hx254_0
     try clear hx254_1
     try clear hx254_2
     try clear hx254_3
     try clear hx255_0
     try clear p2
     try clear p253
     try clear p254
     try clear p255
     try clear q2
     try clear q253
     try clear q254
     try clear q255
     obtain ⟨x7_2,x41_2,rfl,HA,HK2,HO_7,HO_39,HB⟩:=hrel
     cases gk with
     | zero => exact absurd HA.out (by simp [spec_l6Reach.l2])
     | succ k2 =>
      have H:=HA.out
      clear HA
      simp only [spec_l6Reach.l2] at H
      by_cases c19 : x41_2 < (x3_1.length : Int)
      ·rw [if_pos c19] at H
       have c19b0 : decide (x41_2 < (x3_1.length : Int)) = true:=decide_eq_true c19
       clear c19
       by_cases c20 : 0 ≤ x41_2
       ·rw [if_pos c20] at H
        have c20b0 : decide (0 ≤ x41_2) = true:=decide_eq_true c20
        clear c20
        by_cases c21 : x41_2 < (x3_1.length : Int)
        ·rw [if_pos c21] at H
         have c21b0 : decide (x41_2 < (x3_1.length : Int)) = true:=decide_eq_true c21
         clear c21
         replace H:=Option.bind_eq_some_iff.mp H
         obtain ⟨t261,A220,H⟩:=H
         replace H : (spec_l6Reach.l2 k2 t261 x3_1 (x3_1.length : Int) (wrap64 (x41_2 + 1))) = some r:=H
         have A22:=Aside0.mk A220
         clear A220
         have H':=Aside0.mk H
         clear H
         have p260 : 0 ≤ (x41_2 : Int):=of_decide_eq_true (by first | (with_reducible assumption) | assumption)
         have q260 : x41_2 < (x3_1.length : Int):=of_decide_eq_true (by first | (with_reducible assumption) | assumption)
         obtain ⟨ad260,e260,hx260_0⟩:=Kd.at_int (Kd.R_reads' HO_39.out).2.2 x41_2 p260 q260
         cases e260
         replace p260:=eq_true p260
         replace q260:=eq_true q260
         obtain ⟨Ao23,co23,eo23⟩:=Kd.R_slice HO_7.out
         subst eo23
         go_wp2_with (first | ((with_reducible refine gate_callee (f:=74) rfl ?_);refine goesL_ (some 47) rfl rfl Try.func74 (by kernel_rfl) rfl #[.slice Ao23 x7_2.length co23,.int .i64 (rd x3_1 x41_2)] rfl (by (try simp only [List.map_toArray,List.map_cons,List.map_nil]);first | done | rfl | (simp only [List.length_drop,List.length_take];rfl)) ?_;(with_reducible refine (spec_l1Put.calls k2 (fun k_ => some k_ = (.slice Ao23 x7_2.length co23 : Value).ownBlock) (.slice Ao23 x7_2.length co23) x7_2 (rd x3_1 x41_2) t261 w _ ?side1 ?side2 A22.out).mono ?_);(case side1 => repeat (first | (with_reducible first | exact HB.out | apply below_alloc | apply pw_below_drewN | apply below_drew1) | exact HB.out));(case side2 => exact Kd.R_tight rfl HO_7.out);rintro e w24 ⟨v262,rfl,ho0,hb,hkp⟩;refine ⟨_,rfl,?_⟩;have n0_:=Aside0.mk (Kd.R_mono (ok':=fun k_ => some k_ ≠ (v262 : Value).ownBlock) (Kd.R_keptB (HO_39.out) hkp (fun k_ hk_ hs_ => (hk_) hs_)) (fun k_ hk_ => fun e_ => Or.elim (ho0.1 k_ e_.symm) (fun hs_ => hk_.2.1 hs_) (fun hn_ => Nat.not_le.2 hk_.2.2 hn_)));have n1_:=Aside0.mk (Kd.R_mono (ok':=fun k_ => some k_ ≠ (.slice (some ad260) x3_1.length co18 : Value).ownBlock) ho0 (fun k_ hk_ => Or.elim hk_ (fun hs_ => fun e_ => (((HO_39.out).1 k_ e_.symm)) hs_) (fun hn_ => (Kd.fresh' (Kd.R_lt (by (with_reducible repeat (first | apply Kd.R_alloc | apply Kd.R_drewN | apply Kd.R_drew));exact HO_39.out)) k_ hn_))));have n2_:=Aside0.mk (hb);clear HO_39;clear HB;clear HO_7;have HO_39:=n0_;have HO263:=n1_;have HB:=n2_;clear n0_ n1_ n2_;(try clear hb);(try clear hkp);(try clear ho0)))
         go_roundg k2
         case measure => have:=HK1.out;have:=HK2.out;omega
         case rel => exact ⟨(t261),(wrap64 (x41_2 + 1)),(by first | rfl | (simp;done) | (simp [*];done)),H',⟨by have:=HK1.out;have:=HK2.out;omega⟩,⟨by (with_reducible repeat (first | apply Kd.R_alloc | apply Kd.R_drewN | apply Kd.R_drew));exact HO263.out⟩,⟨by (with_reducible repeat (first | apply Kd.R_alloc | apply Kd.R_drewN | apply Kd.R_drew));exact HO_39.out⟩,⟨by repeat (first | (with_reducible first | exact HB.out | apply below_alloc | apply pw_below_drewN | apply below_drew1) | exact HB.out)⟩⟩
        ·rw [if_neg c21] at H
         exact absurd H (by simp)
       ·rw [if_neg c20] at H
        exact absurd H (by simp)
      ·rw [if_neg c19] at H
       have c19b0 : decide (x41_2 < (x3_1.length : Int)) = false:=decide_eq_false c19
       clear c19
       obtain rfl:=Option.some.inj H
       go_wp2
       go_ret
       exact ⟨_,by first | rfl | (simp [errW_none,errW_some] <;> rfl) | (simp [*,errW_none,errW_some] <;> rfl),by (with_reducible repeat (first | apply Kd.R_alloc | apply Kd.R_drewN | apply Kd.R_drew));exact Kd.R_mono HO_7.out (fun _ hk => trivial),by repeat (first | (with_reducible first | exact HB.out | apply below_alloc | apply pw_below_drewN | apply below_drew1) | exact HB.out)⟩

/-! ### spec_l6Preds: function 52 (by hand: an element's row is handed to what writes it) -/
mutual
def spec_l6Preds.l0 : Nat → List S56 → List Int → List (List Int) → Int → Option (List (List Int))
 | 0,_,_,_,_ => none
 | k + 1,f,rs,x,i => if i < (rs.length : Int) then (if 0 ≤ i then (if 0 ≤ rd rs i then (if rd rs i < (f.length : Int) then (spec_l6Preds.l1 k f rs (rd_T56 f (rd rs i)).f3 (rd rs i) x i 0) else none) else none) else none) else some x
def spec_l6Preds.l1 : Nat → List S56 → List Int → List Int → Int → List (List Int) → Int → Int → Option (List (List Int))
 | 0,_,_,_,_,_,_,_ => none
 | k + 1,f,rs,row,kk,x,i,j => if j < (row.length : Int) then (if 0 ≤ j then (if 0 ≤ rd row j then (if rd row j < (x.length : Int) then ((spec_l1Put.f k (x.getD (rd row j).toNat []) kk).bind fun y => (spec_l6Preds.l1 k f rs row kk (x.set (rd row j).toNat y) i (wrap64 (j + 1)))) else none) else none) else none) else spec_l6Preds.l0 k f rs x (wrap64 (i + 1))
end
def spec_l6Preds.f (k : Nat) (f : List S56) : Option (List (List Int)):=if f.length ≤ 11728124029610 then ((spec_l6Reach.f k f).bind fun rs => (spec_l6Preds.l0 k f rs (List.replicate f.length []) 0)) else none
theorem spec_l6Preds.mono_l : ∀ k,(∀ y0 y1 y2 y3,LeO (spec_l6Preds.l0 k y0 y1 y2 y3) (spec_l6Preds.l0 (k + 1) y0 y1 y2 y3)) ∧ (∀ y0 y1 y2 y3 y4 y5 y6,LeO (spec_l6Preds.l1 k y0 y1 y2 y3 y4 y5 y6) (spec_l6Preds.l1 (k + 1) y0 y1 y2 y3 y4 y5 y6))
 | 0 => ⟨fun _ _ _ _ r h => by simp [spec_l6Preds.l0] at h,fun _ _ _ _ _ _ _ r h => by simp [spec_l6Preds.l1] at h⟩
 | k + 1 => by
  obtain ⟨ih0,ih1⟩:=spec_l6Preds.mono_l k
  refine ⟨?_,?_⟩
  ·intro y0 y1 y2 y3
   unfold spec_l6Preds.l0
   repeat' first
   | (with_reducible exact ih0 _ _ _ _)
   | (with_reducible exact ih1 _ _ _ _ _ _ _)
   | (with_reducible exact spec_l6Reach.mono _ _)
   | (with_reducible exact spec_l1Put.mono _ _ _)
   | (with_reducible exact LeO.refl _)
   | (with_reducible exact LeO.none _)
   | (with_reducible refine LeO.ite ?_ ?_)
   | (with_reducible refine LeO.bind ?_ (fun _ => ?_))
  ·intro y0 y1 y2 y3 y4 y5 y6
   unfold spec_l6Preds.l1
   repeat' first
   | (with_reducible exact ih0 _ _ _ _)
   | (with_reducible exact ih1 _ _ _ _ _ _ _)
   | (with_reducible exact spec_l6Reach.mono _ _)
   | (with_reducible exact spec_l1Put.mono _ _ _)
   | (with_reducible exact LeO.refl _)
   | (with_reducible exact LeO.none _)
   | (with_reducible refine LeO.ite ?_ ?_)
   | (with_reducible refine LeO.bind ?_ (fun _ => ?_))
theorem spec_l6Preds.mono : ∀ a0 k,LeO (spec_l6Preds.f k a0) (spec_l6Preds.f (k + 1) a0):=by
 intro a0 k
 obtain ⟨ih0,ih1⟩:=spec_l6Preds.mono_l k
 unfold spec_l6Preds.f
 repeat' first
   | (with_reducible exact ih0 _ _ _ _)
   | (with_reducible exact ih1 _ _ _ _ _ _ _)
   | (with_reducible exact spec_l6Reach.mono _ _)
   | (with_reducible exact spec_l1Put.mono _ _ _)
   | (with_reducible exact LeO.refl _)
   | (with_reducible exact LeO.none _)
   | (with_reducible refine LeO.ite ?_ ?_)
   | (with_reducible refine LeO.bind ?_ (fun _ => ?_))
set_option maxHeartbeats 8000000 in
set_option maxRecDepth 100000 in
theorem spec_l6Preds.calls (k : Nat) (A0 : Option Addr) (c0 : Nat) (l0 : List S56) (r : List (List Int)) (w : World) (hr0 : Kd.C k56 w A0 l0.length l0) (hc0 : l0.length ≤ c0) (h : spec_l6Preds.f k l0 = some r) :
  Calls Try.prog 52 #[.slice A0 l0.length c0] w fun e w' => ∃ v0_ : Value,e = .returned (v0_) ∧ Kd.S (Kd.slice 3 (Kd.int .i64)) 37 w' w.heap.size (fun _ => True) v0_ r ∧ Below w.heap.size w w':=by
 have hu56:=Try.underlying56
 have HR0:=Aside0.mk hr0
 have HC0:=Aside0.mk hc0
 clear hr0 hc0
 unfold spec_l6Preds.f at h
 by_cases c1 : l0.length ≤ 11728124029610
 rotate_left
 ·rw [if_neg c1] at h;exact absurd h (by simp)
 rw [if_pos c1] at h
 obtain ⟨rs,A1,H⟩:=Option.bind_eq_some_iff.mp h
 have A:=Aside0.mk A1
 have H':=Aside0.mk H
 clear h A1 H
 have c2 : decide (0 ≤ (l0.length : Int)) = true:=decide_eq_true (by omega)
 have c3 : (0 ≤ (l0.length : Int)) = True:=eq_true (by omega)
 obtain ⟨y,hy⟩ : ∃ y : List (List Int),y = List.replicate (l0.length : Int).toNat []:=⟨_,rfl⟩
 have HY:=Aside0.mk hy
 rw [Int.toNat_natCast] at hy
 rw [← hy] at H'
 have HM:=Aside0.mk c1
 clear c1 hy
 go_enter Try.func52,Try.ntmps52
 go_wp2_with (first | ((with_reducible refine gate_dst (N:=10) rfl ?_);refine Kd.S_make (Kd.slice 3 (Kd.int .i64)) _ 37 rfl (N:=10) rfl 29 _ _ rfl (l0.length : Int) rfl rfl Try.underlying29 (.slice none 0 0) 24 (by kernel_rfl) rfl (by decide) (by omega) [] (ok:=fun _ => True) (okp:=fun _ => True) ⟨_,rfl,Kd.R_nil _ _ _ _ _⟩ (fun _ hk => hk) trivial (by omega) (by have:=HM.out;rw [Int.toNat_natCast];omega) (Below.refl _ _) (Nat.le_refl _) ?_;intro vo w2 ho5 hb hg_ hnew_;clear hg_ hnew_;rw [← HY.out] at ho5;have HO:=Aside0.mk ho5;have HB2:=Aside0.mk hb;clear hb ho5))
 refine (spec_l6Reach.calls k _ _ l0 rs _ (Kd.C_below HR0.out HB2.out) HC0.out A.out).mono ?_
 rintro e w3 ⟨vr,rfl,ho0,hb⟩
 have HI:=Aside0.mk (show RInv (Kd.int .i64) 3 37 (Kd.int .i64) 3 w w3 vo vr y rs (fun k => some k = vr.ownBlock) from ⟨below_step HB2.out hb,Kd.S_mono (Kd.S_below (Kd.S_bound HO.out) hb) (fun k hk e => by have:=Kd.R_base ho0 k e.symm;have:=hk.2.2.1;omega),Kd.R_tight rfl (Kd.R_lower ho0 HB2.out.size),fun k e => e,fun k e => Kd.R_lt ho0 k e.symm⟩)
 clear hb ho0 HB2 HO
 obtain ⟨Ar,cr,er⟩:=Kd.R_slice HI.out.row
 subst er
 obtain ⟨Ao,co,eo⟩:=Kd.S_slice HI.out.out
 subst eo
 go_wp2
 obtain ⟨F,HI⟩ : ∃ F,Aside0 (RInv (Kd.int .i64) 3 37 (Kd.int .i64) 3 w w3 (.slice Ao y.length co) (.slice Ar rs.length cr) y rs F):=⟨_,HI⟩
 go_loopg [14] k (fun kq v14 w' => ∃ (x : List (List Int)) (i : Int),v14 = .int .i64 i ∧ Aside0 (spec_l6Preds.l0 kq l0 rs x i = some r) ∧ Aside0 (kq ≤ k) ∧ Aside0 (RInv (Kd.int .i64) 3 37 (Kd.int .i64) 3 w w' (.slice Ao y.length co) (.slice Ar rs.length cr) x rs F))
 case atStart => exact ⟨y,0,rfl,H',⟨Nat.le_refl _⟩,HI⟩
 case round =>
  clear H' HI HY
  obtain ⟨x,i,rfl,HA,HK1,HI⟩:=hrel
  cases gk with
  | zero => exact absurd HA.out (by simp [spec_l6Preds.l0])
  | succ k1 =>
   have H:=HA.out
   clear HA
   simp only [spec_l6Preds.l0] at H
   by_cases c3 : i < (rs.length : Int)
   ·rw [if_pos c3] at H
    by_cases c4 : 0 ≤ i
    ·rw [if_pos c4] at H
     by_cases c5 : 0 ≤ rd rs i
     ·rw [if_pos c5] at H
      by_cases c6 : rd rs i < (l0.length : Int)
      ·rw [if_pos c6] at H
       obtain ⟨kk,hkk⟩ : ∃ kk,kk = rd rs i:=⟨_,rfl⟩
       have hrr:=Kd.R_reads' HI.out.row
       obtain ⟨adr,e1,hx1⟩:=Kd.at_int hrr.2.2 i c4 c3
       cases e1
       rw [← hkk] at H c5 c6 hx1
       obtain ⟨ad2,A0_,c0_,A3_,c3_,e2,_,_,_,hx30,_,_,hl3,hc3⟩:=at_T56 HR0.out kk c5 c6
       cases e2
       obtain ⟨row,hrow⟩ : ∃ row,row = (rd_T56 l0 kk).f3:=⟨_,rfl⟩
       rw [← hrow] at H hx30 hl3 hc3
       have hx3:=pw_cell_below HI.out.below hx30
       have H':=Aside0.mk H
       have HROW:=Aside0.mk hc3
       have c3b0 : decide (i < (rs.length : Int)) = true:=decide_eq_true c3
       have c4b0 : decide (0 ≤ i) = true:=decide_eq_true c4
       have c5b0 : decide (0 ≤ kk) = true:=decide_eq_true c5
       have c6b0 : decide (kk < (l0.length : Int)) = true:=decide_eq_true c6
       have p3:=eq_true c3
       have p4:=eq_true c4
       have p5:=eq_true c5
       have p6:=eq_true c6
       clear H hrr c3 c4 c5 c6 hkk hrow hl3 hc3 hx30
       go_wp2
       clear hx1 hx3 c3b0 c4b0 c5b0 c6b0 p3 p4 p5 p6
       go_loopg [24] k1 (fun kq v24 w' => ∃ (x : List (List Int)) (j : Int),v24 = .int .i64 j ∧ Aside0 (spec_l6Preds.l1 kq l0 rs row kk x i j = some r) ∧ Aside0 (kq ≤ k1) ∧ Aside0 (RInv (Kd.int .i64) 3 37 (Kd.int .i64) 3 w w' (.slice Ao y.length co) (.slice (some adr) rs.length cr) x rs F))
       case atStart => exact ⟨x,0,rfl,H',⟨Nat.le_refl _⟩,HI⟩
       case round =>
        clear H' HI
        obtain ⟨x,j,rfl,HA,HK2,HI⟩:=hrel
        cases gk with
        | zero => exact absurd HA.out (by simp [spec_l6Preds.l1])
        | succ k2 =>
         have H:=HA.out
         clear HA
         simp only [spec_l6Preds.l1] at H
         by_cases c5 : j < (row.length : Int)
         ·rw [if_pos c5] at H
          by_cases c6 : 0 ≤ j
          ·rw [if_pos c6] at H
           by_cases c7 : 0 ≤ rd row j
           ·rw [if_pos c7] at H
            by_cases c8 : rd row j < (x.length : Int)
            ·rw [if_pos c8] at H
             obtain ⟨z,A1,H⟩:=Option.bind_eq_some_iff.mp H
             have A7:=Aside0.mk A1
             have H':=Aside0.mk H
             obtain ⟨ad,e1,hx1⟩:=Kd.at_int (Kd.C_below HROW.out HI.out.below) j c6 c5
             cases e1
             have hlen:=(Kd.S_reads' HI.out.out).1
             obtain ⟨g,oki,ve,rfl,hx2,hf2,hR,hoki,hPg,hbg,hH⟩:=S_row HI.out.out (rd row j) c7 (by omega)
             have HH:=Aside0.mk hH
             have HR:=Aside0.mk hR
             have HKI:=Aside0.mk hoki
             have HPG:=Aside0.mk hPg
             have HBG:=Aside0.mk hbg
             have c5b : decide (j < (row.length : Int)) = true:=decide_eq_true c5
             have c6b : decide (0 ≤ j) = true:=decide_eq_true c6
             have c7b : decide (0 ≤ rd row j) = true:=decide_eq_true c7
             have c8b : decide (rd row j < (y.length : Int)) = true:=decide_eq_true (by omega)
             have p5:=eq_true c5
             have p6:=eq_true c6
             have p7:=eq_true c7
             have p8 : (rd row j < (y.length : Int)) = True:=eq_true (by omega)
             have HQ:=Aside0.mk (show rd row j < (y.length : Int) by omega)
             have HQ0:=Aside0.mk c7
             clear A1 H hH hR hoki hPg hbg hlen c5 c6 c7 c8
             go_wp2_with (first | (go_at_call 74;(refine (spec_l1Put.calls k2 oki ve (x.getD (rd row j).toNat []) kk z w _ HI.out.below HR.out A7.out).mono ?_);rintro e w7 ⟨v0,rfl,hr0,hb,hkp⟩;obtain ⟨A0v,c0v,e0v⟩:=Kd.R_slice hr0;subst e0v;have hput:=HI.out.put HH.out HQ0.out HQ.out HPG.out HBG.out hkp hb hr0;have hx7 : w7.cell? ⟨g,(rd row j).toNat,none⟩ = some ve:=cell_kept hx2 hkp (fun h_ => (HKI.out g h_).2 rfl);have hf7 : w7.frozen? ⟨g,(rd row j).toNat,none⟩ = false:=(frozen_kept hkp (fun h_ => (HKI.out g h_).2 rfl) (World.block_lt_of_cell? _ _ hx2)).trans hf2;have HI7:=Aside0.mk hput.1;clear hput hr0 hb hkp HR HH HKI HPG HBG HI hx2 hf2 hx1))
             go_roundg k2
             case measure => have:=HK2.out;omega
             case rel => exact ⟨_,_,rfl,H',⟨by have:=HK2.out;omega⟩,HI7⟩
            ·rw [if_neg c8] at H;exact absurd H (by simp)
           ·rw [if_neg c7] at H;exact absurd H (by simp)
          ·rw [if_neg c6] at H;exact absurd H (by simp)
         ·rw [if_neg c5] at H
          have H':=Aside0.mk H
          have c5b0 : decide (j < (row.length : Int)) = false:=decide_eq_false c5
          clear H c5
          go_wp2
          go_roundg k2
          case measure => have:=HK2.out;have:=HK1.out;omega
          case rel => exact ⟨x,_,rfl,H',⟨by have:=HK2.out;have:=HK1.out;omega⟩,HI⟩
      ·rw [if_neg c6] at H;exact absurd H (by simp)
     ·rw [if_neg c5] at H;exact absurd H (by simp)
    ·rw [if_neg c4] at H;exact absurd H (by simp)
   ·rw [if_neg c3] at H
    obtain rfl:=Option.some.inj H
    have c3b0 : decide (i < (rs.length : Int)) = false:=decide_eq_false c3
    clear c3
    go_wp2
    go_ret
    exact ⟨_,rfl,Kd.S_mono HI.out.out (fun _ _ => trivial),HI.out.below⟩

/-! ### spec_PredsOf: function 25 -/
def spec_PredsOf.f (k : Nat) (l0 : List (S56)) : Option ((List (List Int)) × Bool):=(spec_GoodFlow.f k l0).bind fun t264 => (if t264 = true then ((spec_l6Preds.f k l0).bind fun t265 => (some (t265,true))) else (some (([] : List (List Int)),false)))
theorem spec_PredsOf.mono : ∀ a0 k,LeO (spec_PredsOf.f k a0) (spec_PredsOf.f (k + 1) a0):=by
 intro a0 k
 unfold spec_PredsOf.f
 repeat' first
   | (with_reducible exact spec_GoodFlow.mono _ _)
   | (with_reducible exact spec_l6Preds.mono _ _)
   | (with_reducible exact LeO.refl _)
   | (with_reducible exact LeO.none _)
   | (with_reducible refine LeO.ite ?_ ?_)
   | (with_reducible refine LeO.bind ?_ (fun _ => ?_))
   | exact spec_GoodFlow.mono _ _
   | exact spec_l6Preds.mono _ _
   | exact LeO.none _
   | refine LeO.ite ?_ ?_
   | refine LeO.bind ?_ (fun _ => ?_)
set_option maxHeartbeats 8000000 in
set_option maxRecDepth 100000 in
theorem spec_PredsOf.calls (k : Nat) (A0 : Option Addr) (c0 : Nat) (l0 : List (S56)) (r1 : List (List Int)) (r2 : Bool) (w : World) (hr0 : Kd.C k56 w A0 l0.length l0) (hc0 : l0.length ≤ c0) (h : spec_PredsOf.f k l0 = some (r1,r2)) :
  Calls Try.prog 25 #[.slice A0 l0.length c0] w fun e w' => ∃ v0_ : Value,e = .returned (.tuple #[v0_,.bool r2]) ∧ Kd.S (Kd.slice 3 (Kd.int .i64)) 37 w' w.heap.size (fun _ => True) v0_ r1 ∧ Below w.heap.size w w':=by
 have HR0:=Aside0.mk hr0
 have HC0:=Aside0.mk hc0
 clear hr0 hc0
 have HB:=Aside0.mk (Below.refl w.heap.size w)
 have H : ((spec_GoodFlow.f k l0).bind fun t264 => (if t264 = true then ((spec_l6Preds.f k l0).bind fun t265 => (some (t265,true))) else (some (([] : List (List Int)),false)))) = some (r1,r2):=h
 clear h
 replace H:=Option.bind_eq_some_iff.mp H
 obtain ⟨t264,A20,H⟩:=H
 replace H : (if t264 = true then ((spec_l6Preds.f k l0).bind fun t265 => (some (t265,true))) else (some (([] : List (List Int)),false))) = some (r1,r2):=H
 have A2:=Aside0.mk A20
 clear A20
 by_cases c3 : t264 = true
 ·subst c3
  have H1 : ((spec_l6Preds.f k l0).bind fun t265 => (some (t265,true))) = some (r1,r2):=by rw [if_pos rfl] at H;exact H
  clear H
  have H:=H1
  clear H1
  replace H:=Option.bind_eq_some_iff.mp H
  obtain ⟨t265,A40,H⟩:=H
  replace H : (some (t265,true)) = some (r1,r2):=H
  have A4:=Aside0.mk A40
  clear A40
  simp only [Option.some.injEq,Prod.mk.injEq] at H
  obtain ⟨rfl,rfl⟩:=H
  go_enter Try.func25,Try.ntmps25
  go_wp2_with (first | ((with_reducible refine gate_callee (f:=10) rfl ?_);refine goesL_ (some 5) rfl rfl Try.func10 (by kernel_rfl) rfl #[.slice A0 l0.length c0] rfl (by (try simp only [List.map_toArray,List.map_cons,List.map_nil]);first | done | rfl | (simp only [List.length_drop,List.length_take];rfl)) ?_;(with_reducible refine (spec_GoodFlow.calls k _ _ l0 true _ ?side1 ?side2 A2.out).mono ?_);(case side1 => repeat (first | exact HR0.out | (with_reducible refine Kd.C_alloc ?_ _) | (with_reducible refine Kd.C_drewN ?_ _) | (with_reducible refine Kd.C_drew ?_)));(case side2 => exact HC0.out);rintro e w5 ⟨rfl,hb⟩;refine ⟨_,rfl,?_⟩;have n0_:=Aside0.mk (below_step (by repeat (first | (with_reducible first | exact HB.out | apply below_alloc | apply pw_below_drewN | apply below_drew1) | exact HB.out)) hb);clear HB;have HB:=n0_;clear n0_;(try clear hb);(try clear hb2);(try clear hk);(try clear hi)) | ((with_reducible refine gate_callee (f:=52) rfl ?_);refine goesL_ (some 8) rfl rfl Try.func52 (by kernel_rfl) rfl #[.slice A0 l0.length c0] rfl (by (try simp only [List.map_toArray,List.map_cons,List.map_nil]);first | done | rfl | (simp only [List.length_drop,List.length_take];rfl)) ?_;(with_reducible refine (spec_l6Preds.calls k _ _ l0 t265 _ ?side1 ?side2 A4.out).mono ?_);(case side1 => repeat (first | exact (Kd.C_below HR0.out HB.out) | (with_reducible refine Kd.C_alloc ?_ _) | (with_reducible refine Kd.C_drewN ?_ _) | (with_reducible refine Kd.C_drew ?_)));(case side2 => exact HC0.out);rintro e w6 ⟨v266,rfl,ho0,hb⟩;refine ⟨_,rfl,?_⟩;have n0_:=Aside0.mk (Kd.S_lower ho0 (below_size (by repeat (first | (with_reducible first | exact HB.out | apply below_alloc | apply pw_below_drewN | apply below_drew1) | exact HB.out))));have n1_:=Aside0.mk (below_step (by repeat (first | (with_reducible first | exact HB.out | apply below_alloc | apply pw_below_drewN | apply below_drew1) | exact HB.out)) hb);clear HB;have HO267:=n0_;have HB:=n1_;clear n0_ n1_;(try clear hb);(try clear hb2);(try clear hk);(try clear hi);(try clear ho0)))
  go_ret2
  exact ⟨_,by first | rfl | (simp [errW_none,errW_some] <;> rfl) | (simp [*,errW_none,errW_some] <;> rfl),by (with_reducible repeat (first | apply Kd.S_alloc | apply Kd.S_drewN | apply Kd.S_drew));exact HO267.out,by repeat (first | (with_reducible first | exact HB.out | apply below_alloc | apply pw_below_drewN | apply below_drew1) | exact HB.out)⟩
 ·replace c3:=Bool.eq_false_iff.mpr c3
  subst c3
  have H1 : (some (([] : List (List Int)),false)) = some (r1,r2):=by rw [if_neg (show ¬ (false = true) by decide)] at H;exact H
  clear H
  have H:=H1
  clear H1
  simp only [Option.some.injEq,Prod.mk.injEq] at H
  obtain ⟨rfl,rfl⟩:=H
  go_enter Try.func25,Try.ntmps25
  go_wp2_with (first | ((with_reducible refine gate_callee (f:=10) rfl ?_);refine goesL_ (some 5) rfl rfl Try.func10 (by kernel_rfl) rfl #[.slice A0 l0.length c0] rfl (by (try simp only [List.map_toArray,List.map_cons,List.map_nil]);first | done | rfl | (simp only [List.length_drop,List.length_take];rfl)) ?_;(with_reducible refine (spec_GoodFlow.calls k _ _ l0 false _ ?side1 ?side2 A2.out).mono ?_);(case side1 => repeat (first | exact HR0.out | (with_reducible refine Kd.C_alloc ?_ _) | (with_reducible refine Kd.C_drewN ?_ _) | (with_reducible refine Kd.C_drew ?_)));(case side2 => exact HC0.out);rintro e w7 ⟨rfl,hb⟩;refine ⟨_,rfl,?_⟩;have n0_:=Aside0.mk (below_step (by repeat (first | (with_reducible first | exact HB.out | apply below_alloc | apply pw_below_drewN | apply below_drew1) | exact HB.out)) hb);clear HB;have HB:=n0_;clear n0_;(try clear hb);(try clear hb2);(try clear hk);(try clear hi)))
  go_ret2
  exact ⟨_,by first | rfl | (simp [errW_none,errW_some] <;> rfl) | (simp [*,errW_none,errW_some] <;> rfl),by first | exact Kd.S_nil _ _ _ _ _ | exact Kd.N_nil _ _ _ _ _ | exact Kd.V_nil _ _ _ _ _ | exact Kd.Q_nil _ _ _ _ _ | exact Kd.R_nil _ _ _ _ _,by repeat (first | (with_reducible first | exact HB.out | apply below_alloc | apply pw_below_drewN | apply below_drew1) | exact HB.out)⟩

end Go.Proofs.Ythgkhfhfahifmaa.Q
