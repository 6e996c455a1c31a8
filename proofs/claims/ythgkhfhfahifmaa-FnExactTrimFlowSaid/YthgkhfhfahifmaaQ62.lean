-- WRITTEN BY A PROGRAM OF THIS SESSION
import Derived.Test.YthgkhfhfahifmaaWMi3
import Derived.Test.YthgkhfhfahifmaaQ0
import Derived.Test.YthgkhfhfahifmaaQ61
namespace Go.Proofs.Ythgkhfhfahifmaa.Q
open Go.RowKit Go.Proofs.YthgkhfhfahifmaaW.PrintWords Go.Proofs.YthgkhfhfahifmaaW.PrintLast Go.Proofs.YthgkhfhfahifmaaW.PrintMore
attribute [local go_sem] max2_int min2_int max_two min_two max_three min_three max_four min_four   -- for this text's walks alone
set_option linter.unusedVariables false
set_option linter.unusedSimpArgs false

/-! ### spec_l6Reach: function 49 -/
mutual
def spec_l6Reach.l0 : Nat → List (S56) → List Int → Int → Option (List Int)
 | 0,_,_,_ => none
 | k + 1,x0,x3,x4 => if x4 < (x3.length : Int) then (if 0 ≤ x4 then (if 0 ≤ (rd x3 x4) then (if (rd x3 x4) < (x0.length : Int) then (spec_l6Reach.l1 k x0 x3 x4 ((rd_T56 x0 (rd x3 x4)).f3) (((rd_T56 x0 (rd x3 x4)).f3).length : Int) 0) else (none)) else (none)) else (none)) else (spec_l6Reach.l2 k ([] : List Int) x3 (x3.length : Int) 0)
def spec_l6Reach.l1 : Nat → List (S56) → List Int → Int → List Int → Int → Int → Option (List Int)
 | 0,_,_,_,_,_,_ => none
 | k + 1,x0,x3,x4,x24,x25,x26 => if x26 < x25 then (if 0 ≤ x26 then (if x26 < (x24.length : Int) then ((spec_l1Has.f k x3 (rd x24 x26)).bind fun t257 => (if t257 = true then (spec_l6Reach.l1 k x0 x3 x4 x24 x25 (wrap64 (x26 + 1))) else (if x3.length < 17592186044416 then (spec_l6Reach.l1 k x0 (x3 ++ [rd x24 x26]) x4 x24 x25 (wrap64 (x26 + 1))) else (none)))) else (none)) else (none)) else (spec_l6Reach.l0 k x0 x3 (wrap64 (x4 + 1)))
def spec_l6Reach.l2 : Nat → List Int → List Int → Int → Int → Option (List Int)
 | 0,_,_,_,_ => none
 | k + 1,x7,x39,x40,x41 => if x41 < x40 then (if 0 ≤ x41 then (if x41 < (x39.length : Int) then ((spec_l1Put.f k x7 (rd x39 x41)).bind fun t262 => (spec_l6Reach.l2 k t262 x39 x40 (wrap64 (x41 + 1)))) else (none)) else (none)) else (some x7)
end
def spec_l6Reach.f (k : Nat) (l0 : List (S56)) : Option (List Int):=spec_l6Reach.l0 k l0 (([0] : List Int)) 0
theorem spec_l6Reach.mono_l : ∀ k,(∀ y0 y1 y2,LeO (spec_l6Reach.l0 k y0 y1 y2) (spec_l6Reach.l0 (k + 1) y0 y1 y2)) ∧ (∀ y0 y1 y2 y3 y4 y5,LeO (spec_l6Reach.l1 k y0 y1 y2 y3 y4 y5) (spec_l6Reach.l1 (k + 1) y0 y1 y2 y3 y4 y5)) ∧ (∀ y0 y1 y2 y3,LeO (spec_l6Reach.l2 k y0 y1 y2 y3) (spec_l6Reach.l2 (k + 1) y0 y1 y2 y3))
 | 0 => ⟨fun _ _ _ r h => by simp [spec_l6Reach.l0] at h,fun _ _ _ _ _ _ r h => by simp [spec_l6Reach.l1] at h,fun _ _ _ _ r h => by simp [spec_l6Reach.l2] at h⟩
 | k + 1 => by
  obtain ⟨ih0,ih1,ih2⟩:=spec_l6Reach.mono_l k
  refine ⟨?_,?_,?_⟩
  ·intro y0 y1 y2
   unfold spec_l6Reach.l0
   repeat' first
   | (with_reducible exact ih0 _ _ _)
   | (with_reducible exact ih1 _ _ _ _ _ _)
   | (with_reducible exact ih2 _ _ _ _)
   | (with_reducible exact spec_l1Has.mono _ _ _)
   | (with_reducible exact spec_l1Put.mono _ _ _)
   | (with_reducible exact LeO.refl _)
   | (with_reducible exact LeO.none _)
   | (with_reducible refine LeO.ite ?_ ?_)
   | (with_reducible refine LeO.bind ?_ (fun _ => ?_))
   | exact ih0 _ _ _
   | exact ih1 _ _ _ _ _ _
   | exact ih2 _ _ _ _
   | exact spec_l1Has.mono _ _ _
   | exact spec_l1Put.mono _ _ _
   | exact LeO.none _
   | refine LeO.ite ?_ ?_
   | refine LeO.bind ?_ (fun _ => ?_)
  ·intro y0 y1 y2 y3 y4 y5
   unfold spec_l6Reach.l1
   repeat' first
   | (with_reducible exact ih0 _ _ _)
   | (with_reducible exact ih1 _ _ _ _ _ _)
   | (with_reducible exact ih2 _ _ _ _)
   | (with_reducible exact spec_l1Has.mono _ _ _)
   | (with_reducible exact spec_l1Put.mono _ _ _)
   | (with_reducible exact LeO.refl _)
   | (with_reducible exact LeO.none _)
   | (with_reducible refine LeO.ite ?_ ?_)
   | (with_reducible refine LeO.bind ?_ (fun _ => ?_))
   | exact ih0 _ _ _
   | exact ih1 _ _ _ _ _ _
   | exact ih2 _ _ _ _
   | exact spec_l1Has.mono _ _ _
   | exact spec_l1Put.mono _ _ _
   | exact LeO.none _
   | refine LeO.ite ?_ ?_
   | refine LeO.bind ?_ (fun _ => ?_)
  ·intro y0 y1 y2 y3
   unfold spec_l6Reach.l2
   repeat' first
   | (with_reducible exact ih0 _ _ _)
   | (with_reducible exact ih1 _ _ _ _ _ _)
   | (with_reducible exact ih2 _ _ _ _)
   | (with_reducible exact spec_l1Has.mono _ _ _)
   | (with_reducible exact spec_l1Put.mono _ _ _)
   | (with_reducible exact LeO.refl _)
   | (with_reducible exact LeO.none _)
   | (with_reducible refine LeO.ite ?_ ?_)
   | (with_reducible refine LeO.bind ?_ (fun _ => ?_))
   | exact ih0 _ _ _
   | exact ih1 _ _ _ _ _ _
   | exact ih2 _ _ _ _
   | exact spec_l1Has.mono _ _ _
   | exact spec_l1Put.mono _ _ _
   | exact LeO.none _
   | refine LeO.ite ?_ ?_
   | refine LeO.bind ?_ (fun _ => ?_)
theorem spec_l6Reach.mono : ∀ a0 k,LeO (spec_l6Reach.f k a0) (spec_l6Reach.f (k + 1) a0):=by
 intro a0 k
 obtain ⟨ih0,ih1,ih2⟩:=spec_l6Reach.mono_l k
 unfold spec_l6Reach.f
 repeat' first
   | (with_reducible exact ih0 _ _ _)
   | (with_reducible exact ih1 _ _ _ _ _ _)
   | (with_reducible exact ih2 _ _ _ _)
   | (with_reducible exact spec_l1Has.mono _ _ _)
   | (with_reducible exact spec_l1Put.mono _ _ _)
   | (with_reducible exact LeO.refl _)
   | (with_reducible exact LeO.none _)
   | (with_reducible refine LeO.ite ?_ ?_)
   | (with_reducible refine LeO.bind ?_ (fun _ => ?_))
   | exact ih0 _ _ _
   | exact ih1 _ _ _ _ _ _
   | exact ih2 _ _ _ _
   | exact spec_l1Has.mono _ _ _
   | exact spec_l1Put.mono _ _ _
   | exact LeO.none _
   | refine LeO.ite ?_ ?_
   | refine LeO.bind ?_ (fun _ => ?_)
set_option maxHeartbeats 8000000 in
set_option maxRecDepth 100000 in
theorem spec_l6Reach.calls (k : Nat) (A0 : Option Addr) (c0 : Nat) (l0 : List (S56)) (r : List Int) (w : World) (hr0 : Kd.C k56 w A0 l0.length l0) (hc0 : l0.length ≤ c0) (h : spec_l6Reach.f k l0 = some r) :
  Calls Try.prog 49 #[.slice A0 l0.length c0] w fun e w' => ∃ v0_ : Value,e = .returned (v0_) ∧ Kd.R (Kd.int .i64) 3 w' w.heap.size (fun _ => True) v0_ r ∧ Below w.heap.size w w':=by
 have HR0:=Aside0.mk hr0
 have HC0:=Aside0.mk hc0
 clear hr0 hc0
 have HB:=Aside0.mk (Below.refl w.heap.size w)
 have H : (spec_l6Reach.l0 k l0 (([0] : List Int)) 0) = some r:=h
 clear h
 obtain ⟨y251,hy251⟩ : ∃ y_ : List Int,y_ = (([0] : List Int)):=⟨_,rfl⟩
 replace H : (spec_l6Reach.l0 k l0 y251 0) = some r:=by first | (rw [hy251];with_reducible exact H) | (have H2_:=(Option.bind_some _ _).symm.trans H;rw [hy251];with_reducible exact H2_) | (have H2_:=(Option.bind_some _ _).symm.trans H;with_reducible exact H2_) | with_reducible exact H | (rw [hy251];exact H) | exact H
 have Ny251:=Aside0.mk hy251
 clear hy251
 have H':=Aside0.mk H
 clear H
 go_enter Try.func49,Try.ntmps49
 go_wp2_with (first | ((with_reducible refine gate_dst (N:=10) rfl ?_);refine Kd.R_lit (Kd.int .i64) _ 3 ?hg (N:=10) ?hd (xs:=([0] : List Int)) (inner:=[.int .i64 0]) (ok:=fun _ => True) (okp:=fun _ => True) ?hr ?hp (fun _ hk => hk) trivial (Below.refl _ _) (Nat.le_refl _) (by simp) ?_;(case hd => rfl);(case hg => rfl);(case hr => first | (go_simp;done) | (go_simp;rfl));(case hp => exact (Reps.one (show Kd.M (Kd.int .i64) _ _ _ 0 [.int .i64 0] from rfl) (Reps.none _ _)));intro v252 w2 ho3 hb hg_ hnew_;clear hg_ hnew_;(first | rw [← Ny251.out] at ho3 | (simp only [Int.reduceToNat] at ho3;rw [← Ny251.out] at ho3));have n0_:=Aside0.mk (Kd.R_lower ho3 (below_size (by repeat (first | (with_reducible first | exact HB.out | apply below_alloc | apply pw_below_drewN | apply below_drew1) | exact HB.out))));have n1_:=Aside0.mk (below_step (by repeat (first | (with_reducible first | exact HB.out | apply below_alloc | apply pw_below_drewN | apply below_drew1) | exact HB.out)) hb);clear HB;have HO253:=n0_;have HB:=n1_;clear n0_ n1_;clear hb ho3))
 go_loopg [3,4] k (fun kq v3 v4 w' => ∃ (x3_1 : List Int) (x4_1 : Int),v4 = .int .i64 x4_1 ∧ Aside0 (spec_l6Reach.l0 kq l0 x3_1 x4_1 = some r) ∧ Aside0 (kq ≤ k) ∧ Aside0 (Kd.R (Kd.int .i64) 3 w' w.heap.size (fun _ => True) v3 x3_1) ∧ Aside0 (Below w.heap.size w w'))
 case atStart => exact ⟨(y251),(0),(by first | rfl | (simp;done) | (simp [*];done)),H',⟨Nat.le_refl _⟩,⟨by (with_reducible repeat (first | apply Kd.R_alloc | apply Kd.R_drewN | apply Kd.R_drew));exact HO253.out⟩,⟨by repeat (first | (with_reducible first | exact HB.out | apply below_alloc | apply pw_below_drewN | apply below_drew1) | exact HB.out)⟩⟩
 case round =>
  clear H'
  try clear p2
  obtain ⟨x3_1,x4_1,rfl,HA,HK1,HO_3,HB⟩:=hrel
  cases gk with
  | zero => exact absurd HA.out (by simp [spec_l6Reach.l0])
  | succ k1 =>
   have H:=HA.out
   clear HA
   simp only [spec_l6Reach.l0] at H
   by_cases c4 : x4_1 < (x3_1.length : Int)
   ·rw [if_pos c4] at H
    have c4b0 : decide (x4_1 < (x3_1.length : Int)) = true:=decide_eq_true c4
    clear c4
    by_cases c5 : 0 ≤ x4_1
    ·rw [if_pos c5] at H
     have c5b0 : decide (0 ≤ x4_1) = true:=decide_eq_true c5
     clear c5
     by_cases c6 : 0 ≤ (rd x3_1 x4_1)
     ·rw [if_pos c6] at H
      have c6b0 : decide (0 ≤ (rd x3_1 x4_1)) = true:=decide_eq_true c6
      clear c6
      by_cases c7 : (rd x3_1 x4_1) < (l0.length : Int)
      ·rw [if_pos c7] at H
       have c7b0 : decide ((rd x3_1 x4_1) < (l0.length : Int)) = true:=decide_eq_true c7
       clear c7
       have H':=Aside0.mk H
       clear H
       obtain ⟨Ao8,co8,eo8⟩:=Kd.R_slice HO_3.out
       subst eo8
       have p254 : 0 ≤ (x4_1 : Int):=of_decide_eq_true (by first | (with_reducible assumption) | assumption)
       have q254 : x4_1 < (x3_1.length : Int):=of_decide_eq_true (by first | (with_reducible assumption) | assumption)
       obtain ⟨ad254,e254,hx254_0⟩:=Kd.at_int (Kd.R_reads' HO_3.out).2.2 x4_1 p254 q254
       cases e254
       replace p254:=eq_true p254
       replace q254:=eq_true q254
       have p255 : 0 ≤ ((rd x3_1 x4_1) : Int):=of_decide_eq_true (by first | (with_reducible assumption) | assumption)
       have q255 : (rd x3_1 x4_1) < (l0.length : Int):=of_decide_eq_true (by first | (with_reducible assumption) | assumption)
       obtain ⟨ad255,A255_0,c255_0,A255_3,c255_3,e255,hx255_0,hx255_1,hx255_2,hx255_3,hl255_0,hi255_0,hl255_3,hi255_3⟩:=at_T56 HR0.out (rd x3_1 x4_1) p255 q255
       cases e255
       replace hx255_0:=(HB.out.cell (World.block_lt_of_cell? w _ hx255_0)).trans hx255_0
       replace hx255_1:=(HB.out.cell (World.block_lt_of_cell? w _ hx255_1)).trans hx255_1
       replace hx255_2:=(HB.out.cell (World.block_lt_of_cell? w _ hx255_2)).trans hx255_2
       replace hx255_3:=(HB.out.cell (World.block_lt_of_cell? w _ hx255_3)).trans hx255_3
       have HR255_0:=Aside0.mk hi255_0
       have HC255_0:=Aside0.mk hl255_0
       clear hi255_0 hl255_0
       have HR255_3:=Aside0.mk hi255_3
       have HC255_3:=Aside0.mk hl255_3
       clear hi255_3 hl255_3
       replace p255:=eq_true p255
       replace q255:=eq_true q255
       go_wp2
       go_loopg [3,26] k1 (fun kq v3 v26 w' => ∃ (x3_2 : List Int) (x26_2 : Int),v26 = .int .i64 x26_2 ∧ Aside0 (spec_l6Reach.l1 kq l0 x3_2 x4_1 ((rd_T56 l0 (rd x3_1 x4_1)).f3) (((rd_T56 l0 (rd x3_1 x4_1)).f3).length : Int) x26_2 = some r) ∧ Aside0 (kq ≤ k1) ∧ Aside0 (Kd.R (Kd.int .i64) 3 w' w.heap.size (fun _ => True) v3 x3_2) ∧ Aside0 (Below w.heap.size w w'))
       case atStart => exact ⟨(x3_1),(0),(by first | rfl | (simp;done) | (simp [*];done)),H',⟨Nat.le_refl _⟩,⟨by (with_reducible repeat (first | apply Kd.R_alloc | apply Kd.R_drewN | apply Kd.R_drew));exact HO_3.out⟩,⟨by repeat (first | (with_reducible first | exact HB.out | apply below_alloc | apply pw_below_drewN | apply below_drew1) | exact HB.out)⟩⟩
       case round =>
        clear H'
        try clear c2
        try clear p2
        try clear q2
        try clear hx2
        try clear c4
        try clear c4b0
        try clear c5
        try clear c5b0
        try clear c6
        try clear c6b0
        try clear c7
        try clear c7b0
        try clear hx254_0
        try clear hx255_0
        try clear hx255_1
        try clear hx255_2
        try clear hx255_3
        try clear p2
        try clear p254
        try clear p255
        try clear q254
        try clear q255
        obtain ⟨x3_2,x26_2,rfl,HA,HK2,HO_3,HB⟩:=hrel
        cases gk with
        | zero => exact absurd HA.out (by simp [spec_l6Reach.l1])
        | succ k2 =>
         have H:=HA.out
         clear HA
         simp only [spec_l6Reach.l1] at H
         by_cases c9 : x26_2 < (((rd_T56 l0 (rd x3_1 x4_1)).f3).length : Int)
         ·rw [if_pos c9] at H
          have c9b0 : decide (x26_2 < (((rd_T56 l0 (rd x3_1 x4_1)).f3).length : Int)) = true:=decide_eq_true c9
          clear c9
          by_cases c10 : 0 ≤ x26_2
          ·rw [if_pos c10] at H
           have c10b0 : decide (0 ≤ x26_2) = true:=decide_eq_true c10
           clear c10
           by_cases c11 : x26_2 < (((rd_T56 l0 (rd x3_1 x4_1)).f3).length : Int)
           ·rw [if_pos c11] at H
            have c11b0 : decide (x26_2 < (((rd_T56 l0 (rd x3_1 x4_1)).f3).length : Int)) = true:=decide_eq_true c11
            clear c11
            replace H:=Option.bind_eq_some_iff.mp H
            obtain ⟨t257,A120,H⟩:=H
            replace H : (if t257 = true then (spec_l6Reach.l1 k2 l0 x3_2 x4_1 ((rd_T56 l0 (rd x3_1 x4_1)).f3) (((rd_T56 l0 (rd x3_1 x4_1)).f3).length : Int) (wrap64 (x26_2 + 1))) else (if x3_2.length < 17592186044416 then (spec_l6Reach.l1 k2 l0 (x3_2 ++ [rd ((rd_T56 l0 (rd x3_1 x4_1)).f3) x26_2]) x4_1 ((rd_T56 l0 (rd x3_1 x4_1)).f3) (((rd_T56 l0 (rd x3_1 x4_1)).f3).length : Int) (wrap64 (x26_2 + 1))) else (none))) = some r:=H
            have A12:=Aside0.mk A120
            clear A120
            by_cases c13 : t257 = true
            ·subst c13
             have H1 : (spec_l6Reach.l1 k2 l0 x3_2 x4_1 ((rd_T56 l0 (rd x3_1 x4_1)).f3) (((rd_T56 l0 (rd x3_1 x4_1)).f3).length : Int) (wrap64 (x26_2 + 1))) = some r:=by rw [if_pos rfl] at H;exact H
             clear H
             have H:=H1
             clear H1
             have H':=Aside0.mk H
             clear H
             have p256 : 0 ≤ (x26_2 : Int):=of_decide_eq_true (by first | (with_reducible assumption) | assumption)
             have q256 : x26_2 < (((rd_T56 l0 (rd x3_1 x4_1)).f3).length : Int):=of_decide_eq_true (by first | (with_reducible assumption) | assumption)
             obtain ⟨ad256,e256,hx256_0⟩:=Kd.at_int HR255_3.out x26_2 p256 q256
             cases e256
             replace hx256_0:=(HB.out.cell (World.block_lt_of_cell? w _ hx256_0)).trans hx256_0
             replace p256:=eq_true p256
             replace q256:=eq_true q256
             obtain ⟨Ao14,co14,eo14⟩:=Kd.R_slice HO_3.out
             subst eo14
             go_wp2_with (first | ((with_reducible refine gate_callee (f:=78) rfl ?_);refine goesL_ (some 32) rfl rfl Try.func78 (by kernel_rfl) rfl #[.slice Ao14 x3_2.length co14,.int .i64 (rd ((rd_T56 l0 (rd x3_1 x4_1)).f3) x26_2)] rfl (by (try simp only [List.map_toArray,List.map_cons,List.map_nil]);first | done | rfl | (simp only [List.length_drop,List.length_take];rfl)) ?_;(with_reducible refine (spec_l1Has.calls k2 _ _ x3_2 (rd ((rd_T56 l0 (rd x3_1 x4_1)).f3) x26_2) true _ ?side1 ?side2 A12.out).mono ?_);(case side1 => repeat (first | exact (Kd.R_reads' HO_3.out).2.2 | (with_reducible refine Kd.C_alloc ?_ _) | (with_reducible refine Kd.C_drewN ?_ _) | (with_reducible refine Kd.C_drew ?_)));(case side2 => exact (Kd.R_reads' HO_3.out).2.1);rintro e w' ⟨rfl,⟨nd,rfl⟩⟩;refine ⟨_,rfl,?_⟩))
             go_roundg k2
             case measure => have:=HK1.out;have:=HK2.out;omega
             case rel => exact ⟨(x3_2),(wrap64 (x26_2 + 1)),(by first | rfl | (simp;done) | (simp [*];done)),H',⟨by have:=HK1.out;have:=HK2.out;omega⟩,⟨by (with_reducible repeat (first | apply Kd.R_alloc | apply Kd.R_drewN | apply Kd.R_drew));exact HO_3.out⟩,⟨by repeat (first | (with_reducible first | exact HB.out | apply below_alloc | apply pw_below_drewN | apply below_drew1) | exact HB.out)⟩⟩
            ·replace c13:=Bool.eq_false_iff.mpr c13
             subst c13
             have H1 : (if x3_2.length < 17592186044416 then (spec_l6Reach.l1 k2 l0 (x3_2 ++ [rd ((rd_T56 l0 (rd x3_1 x4_1)).f3) x26_2]) x4_1 ((rd_T56 l0 (rd x3_1 x4_1)).f3) (((rd_T56 l0 (rd x3_1 x4_1)).f3).length : Int) (wrap64 (x26_2 + 1))) else (none)) = some r:=by rw [if_neg (show ¬ (false = true) by decide)] at H;exact H
             clear H
             have H:=H1
             clear H1
             by_cases c15 : x3_2.length < 17592186044416
             ·rw [if_pos c15] at H
              have LMc15:=Aside0.mk c15
              clear c15
              obtain ⟨y258,hy258⟩ : ∃ y_ : List Int,y_ = (x3_2 ++ [rd ((rd_T56 l0 (rd x3_1 x4_1)).f3) x26_2]):=⟨_,rfl⟩
              replace H : (spec_l6Reach.l1 k2 l0 y258 x4_1 ((rd_T56 l0 (rd x3_1 x4_1)).f3) (((rd_T56 l0 (rd x3_1 x4_1)).f3).length : Int) (wrap64 (x26_2 + 1))) = some r:=by first | (rw [hy258];with_reducible exact H) | (have H2_:=(Option.bind_some _ _).symm.trans H;rw [hy258];with_reducible exact H2_) | (have H2_:=(Option.bind_some _ _).symm.trans H;with_reducible exact H2_) | with_reducible exact H | (rw [hy258];exact H) | exact H
              have Ny258:=Aside0.mk hy258
              clear hy258
              have H':=Aside0.mk H
              clear H
              have p256 : 0 ≤ (x26_2 : Int):=of_decide_eq_true (by first | (with_reducible assumption) | assumption)
              have q256 : x26_2 < (((rd_T56 l0 (rd x3_1 x4_1)).f3).length : Int):=of_decide_eq_true (by first | (with_reducible assumption) | assumption)
              obtain ⟨ad256,e256,hx256_0⟩:=Kd.at_int HR255_3.out x26_2 p256 q256
              cases e256
              replace hx256_0:=(HB.out.cell (World.block_lt_of_cell? w _ hx256_0)).trans hx256_0
              replace p256:=eq_true p256
              replace q256:=eq_true q256
              obtain ⟨Ao16,co16,eo16⟩:=Kd.R_slice HO_3.out
              subst eo16
              go_wp2_with (first | ((with_reducible refine gate_callee (f:=78) rfl ?_);refine goesL_ (some 32) rfl rfl Try.func78 (by kernel_rfl) rfl #[.slice Ao16 x3_2.length co16,.int .i64 (rd ((rd_T56 l0 (rd x3_1 x4_1)).f3) x26_2)] rfl (by (try simp only [List.map_toArray,List.map_cons,List.map_nil]);first | done | rfl | (simp only [List.length_drop,List.length_take];rfl)) ?_;(with_reducible refine (spec_l1Has.calls k2 _ _ x3_2 (rd ((rd_T56 l0 (rd x3_1 x4_1)).f3) x26_2) false _ ?side1 ?side2 A12.out).mono ?_);(case side1 => repeat (first | exact (Kd.R_reads' HO_3.out).2.2 | (with_reducible refine Kd.C_alloc ?_ _) | (with_reducible refine Kd.C_drewN ?_ _) | (with_reducible refine Kd.C_drew ?_)));(case side2 => exact (Kd.R_reads' HO_3.out).2.1);rintro e w' ⟨rfl,⟨nd,rfl⟩⟩;refine ⟨_,rfl,?_⟩) | ((with_reducible refine gate_builtin (b:=.append) (xs:=#[.tmp 34,.tmp 36]) rfl ?_);at_builtin;refine Kd.R_append (Kd.int .i64) (w0:=w) w.heap.size rfl (.tmp 34) (.tmp 36) 37 3 (.int .i64 0) 8 rfl Try.underlying37 info3 rfl (by decide) (by omega) (.slice Ao16 x3_2.length co16) x3_2 (rd ((rd_T56 l0 (rd x3_1 x4_1)).f3) x26_2) [.int .i64 (rd ((rd_T56 l0 (rd x3_1 x4_1)).f3) x26_2)] (fun _ => True) (fun _ => False) rfl rfl ?aP (fun _ hk => hk.elim) ?aF ?aO ?aB ?aS ?aL ?_;(case aP => exact rfl);(case aB => exact (by repeat (first | (with_reducible first | exact HB.out | apply below_alloc | apply pw_below_drewN | apply below_drew1) | exact HB.out)));(case aF => exact (fun _ _ => trivial));(case aO => exact (by (with_reducible repeat (first | apply Kd.R_alloc | apply Kd.R_drewN | apply Kd.R_drew));exact HO_3.out));(case aS => exact (below_size (by repeat (first | (with_reducible first | exact HB.out | apply below_alloc | apply pw_below_drewN | apply below_drew1) | exact HB.out))));(case aL => have:=LMc15.out;omega);intro v259 w17 ho hb hg hat;rw [← Ny258.out] at ho;have n0_:=Aside0.mk (hb);have n1_:=Aside0.mk (ho);clear HB;clear HO_3;have HB:=n0_;have HO260:=n1_;clear n0_ n1_;clear ho hb hg hat))
              go_roundg k2
              case measure => have:=HK1.out;have:=HK2.out;omega
              case rel => exact ⟨(y258),(wrap64 (x26_2 + 1)),(by first | rfl | (simp;done) | (simp [*];done)),H',⟨by have:=HK1.out;have:=HK2.out;omega⟩,⟨by (with_reducible repeat (first | apply Kd.R_alloc | apply Kd.R_drewN | apply Kd.R_drew));exact HO260.out⟩,⟨by repeat (first | (with_reducible first | exact HB.out | apply below_alloc | apply pw_below_drewN | apply below_drew1) | exact HB.out)⟩⟩
             ·rw [if_neg c15] at H
              exact absurd H (by simp)
           ·rw [if_neg c11] at H
            exact absurd H (by simp)
          ·rw [if_neg c10] at H
           exact absurd H (by simp)
         ·rw [if_neg c9] at H
          have c9b0 : decide (x26_2 < (((rd_T56 l0 (rd x3_1 x4_1)).f3).length : Int)) = false:=decide_eq_false c9
          clear c9
          have H':=Aside0.mk H
          clear H
          go_wp2
          go_roundg k2
          case measure => have:=HK1.out;have:=HK2.out;omega
          case rel => exact ⟨(x3_2),(wrap64 (x4_1 + 1)),(by first | rfl | (simp;done) | (simp [*];done)),H',⟨by have:=HK1.out;have:=HK2.out;omega⟩,⟨by (with_reducible repeat (first | apply Kd.R_alloc | apply Kd.R_drewN | apply Kd.R_drew));exact HO_3.out⟩,⟨by repeat (first | (with_reducible first | exact HB.out | apply below_alloc | apply pw_below_drewN | apply below_drew1) | exact HB.out)⟩⟩
      ·rw [if_neg c7] at H
       exact absurd H (by simp)
     ·rw [if_neg c6] at H
      exact absurd H (by simp)
    ·rw [if_neg c5] at H
     exact absurd H (by simp)
   ·rw [if_neg c4] at H
    have c4b0 : decide (x4_1 < (x3_1.length : Int)) = false:=decide_eq_false c4
    clear c4
    have H':=Aside0.mk H
    clear H
    obtain ⟨Ao18,co18,eo18⟩:=Kd.R_slice HO_3.out
    subst eo18
    go_wp2
    go_loopg [7,41] k1 (fun kq v7 v41 w' => ∃ (x7_2 : List Int) (x41_2 : Int),v41 = .int .i64 x41_2 ∧ Aside0 (spec_l6Reach.l2 kq x7_2 x3_1 (x3_1.length : Int) x41_2 = some r) ∧ Aside0 (kq ≤ k1) ∧ Aside0 (Kd.R (Kd.int .i64) 3 w' w.heap.size (fun k_ => some k_ ≠ ((.slice Ao18 x3_1.length co18) : Value).ownBlock) v7 x7_2) ∧ Aside0 (Kd.R (Kd.int .i64) 3 w' w.heap.size (fun k_ => some k_ ≠ (v7 : Value).ownBlock) (.slice Ao18 x3_1.length co18) x3_1) ∧ Aside0 (Below w.heap.size w w'))
    case atStart => exact ⟨(([] : List Int)),(0),(by first | rfl | (simp;done) | (simp [*];done)),H',⟨Nat.le_refl _⟩,⟨by first | exact Kd.R_nil _ _ _ _ _ | exact Kd.N_nil _ _ _ _ _ | exact Kd.V_nil _ _ _ _ _ | exact Kd.Q_nil _ _ _ _ _ | exact Kd.S_nil _ _ _ _ _⟩,⟨by (with_reducible repeat (first | apply Kd.R_alloc | apply Kd.R_drewN | apply Kd.R_drew));exact Kd.R_mono HO_3.out (fun _ hk => (by simp [Value.ownBlock]))⟩,⟨by repeat (first | (with_reducible first | exact HB.out | apply below_alloc | apply pw_below_drewN | apply below_drew1) | exact HB.out)⟩⟩
    case round =>
     clear H'
     try clear c1
     try clear c2
     try clear p2
     try clear q2
     try clear hx2
     try clear c4
     try clear c4b0
     try clear c5
     try clear c5b0
     try clear c6
     try clear c6b0
     try clear p6
     try clear c7
     try clear c7b0
     try clear c9
     try clear c9b0
     try clear c10
     try clear c10b0
     try clear c11
     try clear c11b0
     try clear c13
     try clear c15
     try clear hx254_0
     try clear hx255_0
     try clear hx255_1
     try clear hx255_2
     try clear hx255_3
     try clear hx256_0
     try clear p2
     try clear p254
     try clear p255
     try clear p256
     try clear q2
     try clear q254
     try clear q255
     try clear q256
     obtain ⟨x7_2,x41_2,rfl,HA,HK2,HO_7,HO_39,HB⟩:=hrel
     cases gk with
     | zero => exact absurd HA.out (by simp [spec_l6Reach.l2])
     | succ k2 =>
      have H:=HA.out
      clear HA
      simp only [spec_l6Reach.l2] at H
      by_cases c19 : x41_2 < (x3_1.length : Int)
      ·rw [if_pos c19] at H
       have c19b0 : decide (x41_2 < (x3_1.length : Int)) = true:=decide_eq_true c19
       clear c19
       by_cases c20 : 0 ≤ x41_2
       ·rw [if_pos c20] at H
        have c20b0 : decide (0 ≤ x41_2) = true:=decide_eq_true c20
        clear c20
        by_cases c21 : x41_2 < (x3_1.length : Int)
        ·rw [if_pos c21] at H
         have c21b0 : decide (x41_2 < (x3_1.length : Int)) = true:=decide_eq_true c21
         clear c21
         replace H:=Option.bind_eq_some_iff.mp H
         obtain ⟨t262,A220,H⟩:=H
         replace H : (spec_l6Reach.l2 k2 t262 x3_1 (x3_1.length : Int) (wrap64 (x41_2 + 1))) = some r:=H
         have A22:=Aside0.mk A220
         clear A220
         have H':=Aside0.mk H
         clear H
         have p261 : 0 ≤ (x41_2 : Int):=of_decide_eq_true (by first | (with_reducible assumption) | assumption)
         have q261 : x41_2 < (x3_1.length : Int):=of_decide_eq_true (by first | (with_reducible assumption) | assumption)
         obtain ⟨ad261,e261,hx261_0⟩:=Kd.at_int (Kd.R_reads' HO_39.out).2.2 x41_2 p261 q261
         cases e261
         replace p261:=eq_true p261
         replace q261:=eq_true q261
         obtain ⟨Ao23,co23,eo23⟩:=Kd.R_slice HO_7.out
         subst eo23
         go_wp2_with (first | ((with_reducible refine gate_callee (f:=74) rfl ?_);refine goesL_ (some 47) rfl rfl Try.func74 (by kernel_rfl) rfl #[.slice Ao23 x7_2.length co23,.int .i64 (rd x3_1 x41_2)] rfl (by (try simp only [List.map_toArray,List.map_cons,List.map_nil]);first | done | rfl | (simp only [List.length_drop,List.length_take];rfl)) ?_;(with_reducible refine (spec_l1Put.calls k2 (fun k_ => some k_ = (.slice Ao23 x7_2.length co23 : Value).ownBlock) (.slice Ao23 x7_2.length co23) x7_2 (rd x3_1 x41_2) t262 w _ ?side1 ?side2 A22.out).mono ?_);(case side1 => repeat (first | (with_reducible first | exact HB.out | apply below_alloc | apply pw_below_drewN | apply below_drew1) | exact HB.out));(case side2 => exact Kd.R_tight rfl HO_7.out);rintro e w24 ⟨v263,rfl,ho0,hb,hkp⟩;refine ⟨_,rfl,?_⟩;have n0_:=Aside0.mk (Kd.R_mono (ok':=fun k_ => some k_ ≠ (v263 : Value).ownBlock) (Kd.R_keptB (HO_39.out) hkp (fun k_ hk_ hs_ => (hk_) hs_)) (fun k_ hk_ => fun e_ => Or.elim (ho0.1 k_ e_.symm) (fun hs_ => hk_.2.1 hs_) (fun hn_ => Nat.not_le.2 hk_.2.2 hn_)));have n1_:=Aside0.mk (Kd.R_mono (ok':=fun k_ => some k_ ≠ (.slice (some ad261) x3_1.length co18 : Value).ownBlock) ho0 (fun k_ hk_ => Or.elim hk_ (fun hs_ => fun e_ => (((HO_39.out).1 k_ e_.symm)) hs_) (fun hn_ => (Kd.fresh' (Kd.R_lt (by (with_reducible repeat (first | apply Kd.R_alloc | apply Kd.R_drewN | apply Kd.R_drew));exact HO_39.out)) k_ hn_))));have n2_:=Aside0.mk (hb);clear HO_39;clear HB;clear HO_7;have HO_39:=n0_;have HO264:=n1_;have HB:=n2_;clear n0_ n1_ n2_;(try clear hb);(try clear hkp);(try clear ho0)))
         go_roundg k2
         case measure => have:=HK1.out;have:=HK2.out;omega
         case rel => exact ⟨(t262),(wrap64 (x41_2 + 1)),(by first | rfl | (simp;done) | (simp [*];done)),H',⟨by have:=HK1.out;have:=HK2.out;omega⟩,⟨by (with_reducible repeat (first | apply Kd.R_alloc | apply Kd.R_drewN | apply Kd.R_drew));exact HO264.out⟩,⟨by (with_reducible repeat (first | apply Kd.R_alloc | apply Kd.R_drewN | apply Kd.R_drew));exact HO_39.out⟩,⟨by repeat (first | (with_reducible first | exact HB.out | apply below_alloc | apply pw_below_drewN | apply below_drew1) | exact HB.out)⟩⟩
        ·rw [if_neg c21] at H
         exact absurd H (by simp)
       ·rw [if_neg c20] at H
        exact absurd H (by simp)
      ·rw [if_neg c19] at H
       have c19b0 : decide (x41_2 < (x3_1.length : Int)) = false:=decide_eq_false c19
       clear c19
       obtain rfl:=Option.some.inj H
       go_wp2
       go_ret
       exact ⟨_,by first | rfl | (simp [errW_none,errW_some] <;> rfl) | (simp [*,errW_none,errW_some] <;> rfl),by (with_reducible repeat (first | apply Kd.R_alloc | apply Kd.R_drewN | apply Kd.R_drew));exact Kd.R_mono HO_7.out (fun _ hk => trivial),by repeat (first | (with_reducible first | exact HB.out | apply below_alloc | apply pw_below_drewN | apply below_drew1) | exact HB.out)⟩

/-! ### spec_l6Own: function 80 -/
def spec_l6Own.f (l0_0 : List (S79)) (a0_1 : Int) (a0_2 : Int) (l0_3 : List Int) : Option ((List (S79)) × Int × Int × List Int):=(some (([] : List (S79)) : List (S79))).bind fun y267 => (if y267.length + l0_0.length < 2932031007402 then ((some (([] : List Int) : List Int)).bind fun y273 => (if y273.length + l0_3.length < 17592186044416 then (some ((y267 ++ l0_0),a0_1,a0_2,(y273 ++ l0_3))) else (none))) else (none))
set_option maxHeartbeats 8000000 in
set_option maxRecDepth 100000 in
theorem spec_l6Own.calls (A0_0 : Option Addr) (c0_0 : Nat) (l0_0 : List (S79)) (a0_1 : Int) (a0_2 : Int) (A0_3 : Option Addr) (c0_3 : Nat) (l0_3 : List Int) (r1 : List (S79)) (r2 : Int) (r3 : Int) (r4 : List Int) (w : World) (hr0_0 : Kd.C k79 w A0_0 l0_0.length l0_0) (hc0_0 : l0_0.length ≤ c0_0) (hr0_3 : Kd.C (Kd.int .i64) w A0_3 l0_3.length l0_3) (hc0_3 : l0_3.length ≤ c0_3) (h : spec_l6Own.f l0_0 a0_1 a0_2 l0_3 = some (r1,r2,r3,r4)) :
  Calls Try.prog 80 #[.agg #[.slice A0_0 l0_0.length c0_0,.int .i64 a0_1,.int .i64 a0_2,.slice A0_3 l0_3.length c0_3]] w fun e w' => ∃ v0_ v3_ : Value,e = .returned (.agg #[v0_,.int .i64 r2,.int .i64 r3,v3_]) ∧ Kd.R k79 79 w' w.heap.size (fun _ => True) v0_ r1 ∧ Kd.R (Kd.int .i64) 3 w' w.heap.size (fun _ => True) v3_ r4 ∧ Below w.heap.size w w':=by
 have hu56:=Try.underlying56
 have HR0_0:=Aside0.mk hr0_0
 have HC0_0:=Aside0.mk hc0_0
 clear hr0_0 hc0_0
 have HR0_3:=Aside0.mk hr0_3
 have HC0_3:=Aside0.mk hc0_3
 clear hr0_3 hc0_3
 have HB:=Aside0.mk (Below.refl w.heap.size w)
 have H : ((some (([] : List (S79)) : List (S79))).bind fun y267 => (if y267.length + l0_0.length < 2932031007402 then ((some (([] : List Int) : List Int)).bind fun y273 => (if y273.length + l0_3.length < 17592186044416 then (some ((y267 ++ l0_0),a0_1,a0_2,(y273 ++ l0_3))) else (none))) else (none))) = some (r1,r2,r3,r4):=h
 clear h
 obtain ⟨y267,hy267⟩ : ∃ y_ : List (S79),y_ = (([] : List (S79))):=⟨_,rfl⟩
 replace H : (if y267.length + l0_0.length < 2932031007402 then ((some (([] : List Int) : List Int)).bind fun y273 => (if y273.length + l0_3.length < 17592186044416 then (some ((y267 ++ l0_0),a0_1,a0_2,(y273 ++ l0_3))) else (none))) else (none)) = some (r1,r2,r3,r4):=by first | (rw [hy267];with_reducible exact H) | (have H2_:=(Option.bind_some _ _).symm.trans H;rw [hy267];with_reducible exact H2_) | (have H2_:=(Option.bind_some _ _).symm.trans H;with_reducible exact H2_) | with_reducible exact H | (rw [hy267];exact H) | exact H
 have Ny267:=Aside0.mk hy267
 clear hy267
 by_cases c2 : y267.length + l0_0.length < 2932031007402
 ·rw [if_pos c2] at H
  have LMc2:=Aside0.mk c2
  clear c2
  obtain ⟨y270,hy270⟩ : ∃ y_ : List (S79),y_ = (y267 ++ l0_0):=⟨_,rfl⟩
  replace H : ((some (([] : List Int) : List Int)).bind fun y273 => (if y273.length + l0_3.length < 17592186044416 then (some (y270,a0_1,a0_2,(y273 ++ l0_3))) else (none))) = some (r1,r2,r3,r4):=by first | (rw [hy270];with_reducible exact H) | (have H2_:=(Option.bind_some _ _).symm.trans H;rw [hy270];with_reducible exact H2_) | (have H2_:=(Option.bind_some _ _).symm.trans H;with_reducible exact H2_) | with_reducible exact H | (rw [hy270];exact H) | exact H
  have Ny270:=Aside0.mk hy270
  clear hy270
  obtain ⟨y273,hy273⟩ : ∃ y_ : List Int,y_ = (([] : List Int)):=⟨_,rfl⟩
  replace H : (if y273.length + l0_3.length < 17592186044416 then (some (y270,a0_1,a0_2,(y273 ++ l0_3))) else (none)) = some (r1,r2,r3,r4):=by first | (rw [hy273];with_reducible exact H) | (have H2_:=(Option.bind_some _ _).symm.trans H;rw [hy273];with_reducible exact H2_) | (have H2_:=(Option.bind_some _ _).symm.trans H;with_reducible exact H2_) | with_reducible exact H | (rw [hy273];exact H) | exact H
  have Ny273:=Aside0.mk hy273
  clear hy273
  by_cases c3 : y273.length + l0_3.length < 17592186044416
  ·rw [if_pos c3] at H
   have LMc3:=Aside0.mk c3
   clear c3
   obtain ⟨y276,hy276⟩ : ∃ y_ : List Int,y_ = (y273 ++ l0_3):=⟨_,rfl⟩
   replace H : (some (y270,a0_1,a0_2,y276)) = some (r1,r2,r3,r4):=by first | (rw [hy276];with_reducible exact H) | (have H2_:=(Option.bind_some _ _).symm.trans H;rw [hy276];with_reducible exact H2_) | (have H2_:=(Option.bind_some _ _).symm.trans H;with_reducible exact H2_) | with_reducible exact H | (rw [hy276];exact H) | exact H
   have Ny276:=Aside0.mk hy276
   clear hy276
   simp only [Option.some.injEq,Prod.mk.injEq] at H
   obtain ⟨rfl,rfl,rfl,rfl⟩:=H
   go_enter Try.func80,Try.ntmps80
   go_wp2_with (first | ((with_reducible refine gate_dst (N:=1) rfl ?_);refine box_event ?hg (N:=1) ?hd (cs:=#[.slice A0_0 l0_0.length c0_0,.int .i64 a0_1,.int .i64 a0_2,.slice A0_3 l0_3.length c0_3]) (t:=56) ?hr ?_;(case hd => rfl);(case hg => rfl);(case hr => first | (go_simp;done) | (go_simp;rfl));intro gb265 hg w4 hbox hb;have n0_:=Aside0.mk (below_step (by repeat (first | (with_reducible first | exact HB.out | apply below_alloc | apply pw_below_drewN | apply below_drew1) | exact HB.out)) hb);have n1_:=Aside0.mk (hbox);have n2_:=Aside0.mk ((by rw [hg];exact (below_size (by repeat (first | (with_reducible first | exact HB.out | apply below_alloc | apply pw_below_drewN | apply below_drew1) | exact HB.out))) : w.heap.size ≤ gb265));have n3_:=Aside0.mk ((by rw [hg];exact (below_size (by repeat (first | (with_reducible first | exact HB.out | apply below_alloc | apply pw_below_drewN | apply below_drew1) | exact HB.out))) : w.heap.size ≤ gb265));clear HB;have HB:=n0_;have BK265:=n1_;have GW265:=n2_;have GE265:=n3_;clear n0_ n1_ n2_ n3_;clear hb hbox hg) | ((with_reducible refine gate_dst (N:=2) rfl ?_);refine box_event ?hg (N:=2) ?hd (cs:=#[.slice none 0 0,.int .i64 0,.int .i64 0,.slice none 0 0]) (t:=56) ?hr ?_;(case hd => rfl);(case hg => rfl);(case hr => first | (go_simp;done) | (go_simp;rfl));intro gb266 hg w5 hbox hb;have n0_:=Aside0.mk (blk_below (g:=gb265) (o:=.cells #[.slice A0_0 l0_0.length c0_0,.int .i64 a0_1,.int .i64 a0_2,.slice A0_3 l0_3.length c0_3] 56 (0,0)) (by (with_reducible repeat (first | refine blk_drewN ?_ _ | refine blk_drew ?_ | refine blk_alloc ?_ _));exact BK265.out) hb);have n1_:=Aside0.mk (below_step (by repeat (first | (with_reducible first | exact HB.out | apply below_alloc | apply pw_below_drewN | apply below_drew1 | refine below_set ?_ GE265.out) | exact HB.out)) hb);have n2_:=Aside0.mk (hbox);have n3_:=Aside0.mk ((by rw [hg];exact (below_size (by repeat (first | (with_reducible first | exact HB.out | apply below_alloc | apply pw_below_drewN | apply below_drew1 | refine below_set ?_ GE265.out) | exact HB.out))) : w.heap.size ≤ gb266));have n4_:=Aside0.mk ((by rw [hg];exact (below_size (by repeat (first | (with_reducible first | exact HB.out | apply below_alloc | apply pw_below_drewN | apply below_drew1 | refine below_set ?_ GE265.out) | exact HB.out))) : w.heap.size ≤ gb266));have n5_:=Aside0.mk ((by rw [hg];exact Nat.ne_of_lt (blk_lt (g:=gb265) (o:=.cells #[.slice A0_0 l0_0.length c0_0,.int .i64 a0_1,.int .i64 a0_2,.slice A0_3 l0_3.length c0_3] 56 (0,0)) (by (with_reducible repeat (first | refine blk_drewN ?_ _ | refine blk_drew ?_ | refine blk_alloc ?_ _));exact BK265.out)) : gb265 ≠ gb266));have n6_:=Aside0.mk ((by rw [hg];exact Nat.ne_of_gt (blk_lt (g:=gb265) (o:=.cells #[.slice A0_0 l0_0.length c0_0,.int .i64 a0_1,.int .i64 a0_2,.slice A0_3 l0_3.length c0_3] 56 (0,0)) (by (with_reducible repeat (first | refine blk_drewN ?_ _ | refine blk_drew ?_ | refine blk_alloc ?_ _));exact BK265.out)) : gb266 ≠ gb265));clear BK265;clear HB;have BK265:=n0_;have HB:=n1_;have BK266:=n2_;have GW266:=n3_;have GE266:=n4_;have NB265_266:=n5_;have NB266_265:=n6_;clear n0_ n1_ n2_ n3_ n4_ n5_ n6_;clear hb hbox hg) | ((with_reducible refine gate_dst (N:=3) rfl ?_);refine Kd.R_lit k79 _ 79 ?hg (N:=3) ?hd (xs:=([] : List (S79))) (inner:=[]) (ok:=fun _ => True) (okp:=fun _ => True) ?hr ?hp (fun _ hk => hk) trivial (Below.refl _ _) (Nat.le_refl _) (by simp) ?_;(case hd => rfl);(case hg => rfl);(case hr => first | (go_simp;done) | (go_simp;rfl));(case hp => exact (Reps.none _ _));intro v268 w6 ho7 hb hg_ hnew_;clear hg_ hnew_;(first | rw [← Ny267.out] at ho7 | (simp only [Int.reduceToNat] at ho7;rw [← Ny267.out] at ho7));have n0_:=Aside0.mk (Kd.R_lower ho7 (below_size (by repeat (first | (with_reducible first | exact HB.out | apply below_alloc | apply pw_below_drewN | apply below_drew1 | refine below_set ?_ GE265.out | refine below_set ?_ GE266.out) | exact HB.out))));have n1_:=Aside0.mk (blk_below (g:=gb265) (o:=.cells #[.slice A0_0 l0_0.length c0_0,.int .i64 a0_1,.int .i64 a0_2,.slice A0_3 l0_3.length c0_3] 56 (0,0)) (by (with_reducible repeat (first | refine blk_drewN ?_ _ | refine blk_drew ?_ | refine blk_alloc ?_ _));exact BK265.out) hb);have n2_:=Aside0.mk (blk_below (g:=gb266) (o:=.cells #[.slice none 0 0,.int .i64 0,.int .i64 0,.slice none 0 0] 56 (0,0)) (by (with_reducible repeat (first | refine blk_drewN ?_ _ | refine blk_drew ?_ | refine blk_alloc ?_ _));exact BK266.out) hb);have n3_:=Aside0.mk (below_step (by repeat (first | (with_reducible first | exact HB.out | apply below_alloc | apply pw_below_drewN | apply below_drew1 | refine below_set ?_ GE265.out | refine below_set ?_ GE266.out) | exact HB.out)) hb);clear BK265;clear BK266;clear HB;have HO269:=n0_;have BK265:=n1_;have BK266:=n2_;have HB:=n3_;clear n0_ n1_ n2_ n3_;clear hb ho7;have hnb8:=NB265_266.out;have hnc8:=NB266_265.out;have hcz9_0 : w6.cell? ⟨gb265,0,none⟩ = some (.slice A0_0 l0_0.length c0_0):=(blk_cell BK265.out 0).trans rfl;have hcz9_1 : w6.cell? ⟨gb265,1,none⟩ = some (.int .i64 a0_1):=(blk_cell BK265.out 1).trans rfl;have hcz9_2 : w6.cell? ⟨gb265,2,none⟩ = some (.int .i64 a0_2):=(blk_cell BK265.out 2).trans rfl;have hcz9_3 : w6.cell? ⟨gb265,3,none⟩ = some (.slice A0_3 l0_3.length c0_3):=(blk_cell BK265.out 3).trans rfl;have hfz9_0:=blk_frozen BK265.out 0;have hfz9_1:=blk_frozen BK265.out 1;have hfz9_2:=blk_frozen BK265.out 2;have hfz9_3:=blk_frozen BK265.out 3) | ((with_reducible refine gate_builtin (b:=.append) (xs:=#[.tmp 3,.tmp 5]) rfl ?_);at_builtin;refine Kd.R_append_rows k79 (w0:=w) w.heap.size rfl (.tmp 3) (.tmp 5) 54 79 (.agg #[(.int .i64 0),(.int .i64 0),(.int .i64 0),(.int .i64 0),(.int .i64 0),(.int .i64 0)]) 48 rfl Try.underlying54 info79 rfl (by decide) (by omega) v268 y267 l0_0 _ _ _ (fun _ => True) (fun _ => False) rfl rfl ?aO ?aR (fun _ _ h => h) (fun _ h => h.elim) ?aF ?aB ?aS ?aL ?_;(case aR => repeat (first | exact (Kd.C_below HR0_0.out HB.out) | (with_reducible refine Kd.C_alloc ?_ _) | (with_reducible refine Kd.C_drewN ?_ _) | (with_reducible refine Kd.C_drew ?_)));(case aB => exact (by repeat (first | (with_reducible first | exact HB.out | apply below_alloc | apply pw_below_drewN | apply below_drew1 | refine below_set ?_ GE265.out | refine below_set ?_ GE266.out) | exact HB.out)));(case aF => exact (fun _ _ => trivial));(case aO => exact (by (with_reducible repeat (first | apply Kd.R_alloc | apply Kd.R_drewN | apply Kd.R_drew));exact HO269.out));(case aS => exact (below_size (by repeat (first | (with_reducible first | exact HB.out | apply below_alloc | apply pw_below_drewN | apply below_drew1 | refine below_set ?_ GE265.out | refine below_set ?_ GE266.out) | exact HB.out))));(case aL => have:=LMc2.out;omega);intro v271 w10 ho hb hg hat;rw [← Ny270.out] at ho;have n0_:=Aside0.mk (blk_grown (g:=gb265) (o:=.cells #[.slice A0_0 l0_0.length c0_0,.int .i64 a0_1,.int .i64 a0_2,.slice A0_3 l0_3.length c0_3] 56 (0,0)) (by (with_reducible repeat (first | refine blk_drewN ?_ _ | refine blk_drew ?_ | refine blk_alloc ?_ _));exact BK265.out) hg (Kd.R_ne HO269.out BK265.out (by decide)));have n1_:=Aside0.mk (blk_grown (g:=gb266) (o:=.cells #[.slice none 0 0,.int .i64 0,.int .i64 0,.slice none 0 0] 56 (0,0)) (by (with_reducible repeat (first | refine blk_drewN ?_ _ | refine blk_drew ?_ | refine blk_alloc ?_ _));exact BK266.out) hg (Kd.R_ne HO269.out BK266.out (by decide)));have n2_:=Aside0.mk (hb);have n3_:=Aside0.mk (ho);clear BK265;clear BK266;clear HB;clear HO269;have BK265:=n0_;have BK266:=n1_;have HB:=n2_;have HO272:=n3_;clear n0_ n1_ n2_ n3_;clear ho hb hg hat;obtain ⟨Ao11,co11,eo11⟩:=Kd.R_slice HO272.out;subst eo11;have hcz12_0 : w10.cell? ⟨gb265,0,none⟩ = some (.slice A0_0 l0_0.length c0_0):=(blk_cell BK265.out 0).trans rfl;have hcz12_1 : w10.cell? ⟨gb265,1,none⟩ = some (.int .i64 a0_1):=(blk_cell BK265.out 1).trans rfl;have hcz12_2 : w10.cell? ⟨gb265,2,none⟩ = some (.int .i64 a0_2):=(blk_cell BK265.out 2).trans rfl;have hcz12_3 : w10.cell? ⟨gb265,3,none⟩ = some (.slice A0_3 l0_3.length c0_3):=(blk_cell BK265.out 3).trans rfl;have hfz12_0:=blk_frozen BK265.out 0;have hfz12_1:=blk_frozen BK265.out 1;have hfz12_2:=blk_frozen BK265.out 2;have hfz12_3:=blk_frozen BK265.out 3) | ((with_reducible refine gate_dst (N:=8) rfl ?_);refine Kd.R_lit (Kd.int .i64) _ 3 ?hg (N:=8) ?hd (xs:=([] : List Int)) (inner:=[]) (ok:=fun _ => True) (okp:=fun _ => True) ?hr ?hp (fun _ hk => hk) trivial (Below.refl _ _) (Nat.le_refl _) (by simp) ?_;(case hd => rfl);(case hg => rfl);(case hr => first | (go_simp;done) | (go_simp;rfl));(case hp => exact (Reps.none _ _));intro v274 w13 ho14 hb hg_ hnew_;clear hg_ hnew_;(first | rw [← Ny273.out] at ho14 | (simp only [Int.reduceToNat] at ho14;rw [← Ny273.out] at ho14));have n0_:=Aside0.mk (Kd.R_below (by (with_reducible repeat (first | apply Kd.R_alloc | apply Kd.R_drewN | apply Kd.R_drew));exact (Kd.R_mono (Kd.R_far (p:=⟨gb265,0,none⟩) (Kd.R_types HO272.out BK265.out (by decide)) (fun _ hk => hk.2) (.slice Ao11 y270.length co11)) (fun _ h_ => h_.1))) hb);have n1_:=Aside0.mk (Kd.R_lower ho14 (below_size (by repeat (first | (with_reducible first | exact HB.out | apply below_alloc | apply pw_below_drewN | apply below_drew1 | refine below_set ?_ GE265.out | refine below_set ?_ GE266.out) | exact HB.out))));have n2_:=Aside0.mk (blk_below (g:=gb265) (o:=.cells #[.slice Ao11 y270.length co11,.int .i64 a0_1,.int .i64 a0_2,.slice A0_3 l0_3.length c0_3] 56 (0,0)) (by (with_reducible repeat (first | refine blk_drewN ?_ _ | refine blk_drew ?_ | refine blk_alloc ?_ _));refine blk_put (cs:=#[.slice A0_0 l0_0.length c0_0,.int .i64 a0_1,.int .i64 a0_2,.slice A0_3 l0_3.length c0_3]) ?_ 0 _ rfl;(with_reducible repeat (first | refine blk_drewN ?_ _ | refine blk_drew ?_ | refine blk_alloc ?_ _));exact BK265.out) hb);have n3_:=Aside0.mk (blk_below (g:=gb266) (o:=.cells #[.slice none 0 0,.int .i64 0,.int .i64 0,.slice none 0 0] 56 (0,0)) (by (with_reducible repeat (first | refine blk_drewN ?_ _ | refine blk_drew ?_ | refine blk_alloc ?_ _));refine blk_far ?_ NB266_265.out _;(with_reducible repeat (first | refine blk_drewN ?_ _ | refine blk_drew ?_ | refine blk_alloc ?_ _));exact BK266.out) hb);have n4_:=Aside0.mk (below_step (by repeat (first | (with_reducible first | exact HB.out | apply below_alloc | apply pw_below_drewN | apply below_drew1 | refine below_set ?_ GE265.out | refine below_set ?_ GE266.out) | exact HB.out)) hb);clear HO272;clear BK265;clear BK266;clear HB;have HO272:=n0_;have HO275:=n1_;have BK265:=n2_;have BK266:=n3_;have HB:=n4_;clear n0_ n1_ n2_ n3_ n4_;clear hb ho14;have hcz15_0 : w13.cell? ⟨gb265,0,none⟩ = some (.slice Ao11 y270.length co11):=(blk_cell BK265.out 0).trans rfl;have hcz15_1 : w13.cell? ⟨gb265,1,none⟩ = some (.int .i64 a0_1):=(blk_cell BK265.out 1).trans rfl;have hcz15_2 : w13.cell? ⟨gb265,2,none⟩ = some (.int .i64 a0_2):=(blk_cell BK265.out 2).trans rfl;have hcz15_3 : w13.cell? ⟨gb265,3,none⟩ = some (.slice A0_3 l0_3.length c0_3):=(blk_cell BK265.out 3).trans rfl;have hfz15_0:=blk_frozen BK265.out 0;have hfz15_1:=blk_frozen BK265.out 1;have hfz15_2:=blk_frozen BK265.out 2;have hfz15_3:=blk_frozen BK265.out 3) | ((with_reducible refine gate_builtin (b:=.append) (xs:=#[.tmp 8,.tmp 10]) rfl ?_);at_builtin;refine Kd.R_append_rows (Kd.int .i64) (w0:=w) w.heap.size rfl (.tmp 8) (.tmp 10) 37 3 (.int .i64 0) 8 rfl Try.underlying37 info3 rfl (by decide) (by omega) v274 y273 l0_3 _ _ _ (fun _ => True) (fun _ => False) rfl rfl ?aO ?aR (fun _ _ h => h) (fun _ h => h.elim) ?aF ?aB ?aS ?aL ?_;(case aR => repeat (first | exact (Kd.C_below HR0_3.out HB.out) | (with_reducible refine Kd.C_alloc ?_ _) | (with_reducible refine Kd.C_drewN ?_ _) | (with_reducible refine Kd.C_drew ?_)));(case aB => exact (by repeat (first | (with_reducible first | exact HB.out | apply below_alloc | apply pw_below_drewN | apply below_drew1 | refine below_set ?_ GE265.out | refine below_set ?_ GE266.out) | exact HB.out)));(case aF => exact (fun _ _ => trivial));(case aO => exact (by (with_reducible repeat (first | apply Kd.R_alloc | apply Kd.R_drewN | apply Kd.R_drew));exact HO275.out));(case aS => exact (below_size (by repeat (first | (with_reducible first | exact HB.out | apply below_alloc | apply pw_below_drewN | apply below_drew1 | refine below_set ?_ GE265.out | refine below_set ?_ GE266.out) | exact HB.out))));(case aL => have:=LMc3.out;omega);intro v277 w16 ho hb hg hat;rw [← Ny276.out] at ho;have n0_:=Aside0.mk (blk_grown (g:=gb265) (o:=.cells #[.slice Ao11 y270.length co11,.int .i64 a0_1,.int .i64 a0_2,.slice A0_3 l0_3.length c0_3] 56 (0,0)) (by (with_reducible repeat (first | refine blk_drewN ?_ _ | refine blk_drew ?_ | refine blk_alloc ?_ _));exact BK265.out) hg (Kd.R_ne HO275.out BK265.out (by decide)));have n1_:=Aside0.mk (blk_grown (g:=gb266) (o:=.cells #[.slice none 0 0,.int .i64 0,.int .i64 0,.slice none 0 0] 56 (0,0)) (by (with_reducible repeat (first | refine blk_drewN ?_ _ | refine blk_drew ?_ | refine blk_alloc ?_ _));exact BK266.out) hg (Kd.R_ne HO275.out BK266.out (by decide)));have n2_:=Aside0.mk (Kd.R_over' (by (with_reducible repeat (first | apply Kd.R_alloc | apply Kd.R_drewN | apply Kd.R_drew));exact HO272.out) (Kd.R_typed (by (with_reducible repeat (first | apply Kd.R_alloc | apply Kd.R_drewN | apply Kd.R_drew));exact HO275.out)) (by decide) hg);have n3_:=Aside0.mk (hb);have n4_:=Aside0.mk (ho);clear BK265;clear BK266;clear HO272;clear HB;clear HO275;have BK265:=n0_;have BK266:=n1_;have HO272:=n2_;have HB:=n3_;have HO278:=n4_;clear n0_ n1_ n2_ n3_ n4_;clear ho hb hg hat;obtain ⟨Ao17,co17,eo17⟩:=Kd.R_slice HO278.out;subst eo17;have hcz18_0 : w16.cell? ⟨gb265,0,none⟩ = some (.slice Ao11 y270.length co11):=(blk_cell BK265.out 0).trans rfl;have hcz18_1 : w16.cell? ⟨gb265,1,none⟩ = some (.int .i64 a0_1):=(blk_cell BK265.out 1).trans rfl;have hcz18_2 : w16.cell? ⟨gb265,2,none⟩ = some (.int .i64 a0_2):=(blk_cell BK265.out 2).trans rfl;have hcz18_3 : w16.cell? ⟨gb265,3,none⟩ = some (.slice A0_3 l0_3.length c0_3):=(blk_cell BK265.out 3).trans rfl;have hfz18_0:=blk_frozen BK265.out 0;have hfz18_1:=blk_frozen BK265.out 1;have hfz18_2:=blk_frozen BK265.out 2;have hfz18_3:=blk_frozen BK265.out 3;have hcz19_0 : w16.cell? ⟨gb266,0,none⟩ = some (.slice none 0 0):=(blk_cell BK266.out 0).trans rfl;have hcz19_1 : w16.cell? ⟨gb266,1,none⟩ = some (.int .i64 0):=(blk_cell BK266.out 1).trans rfl;have hcz19_2 : w16.cell? ⟨gb266,2,none⟩ = some (.int .i64 0):=(blk_cell BK266.out 2).trans rfl;have hcz19_3 : w16.cell? ⟨gb266,3,none⟩ = some (.slice none 0 0):=(blk_cell BK266.out 3).trans rfl;have hfz19_0:=blk_frozen BK266.out 0;have hfz19_1:=blk_frozen BK266.out 1;have hfz19_2:=blk_frozen BK266.out 2;have hfz19_3:=blk_frozen BK266.out 3))
   refine bodyPost_ret (results_cell_row rfl _ _ gb266 56 #[.slice Ao11 y270.length co11,.int .i64 a0_1,.int .i64 a0_2,.slice Ao17 y276.length co17] (0,0) _ rfl (by (with_reducible repeat (first | refine blk_drewN ?_ _ | refine blk_drew ?_ | refine blk_alloc ?_ _));refine blk_put (cs:=#[.slice Ao11 y270.length co11,.int .i64 a0_1,.int .i64 a0_2,.slice none 0 0]) ?_ 3 _ rfl;(with_reducible repeat (first | refine blk_drewN ?_ _ | refine blk_drew ?_ | refine blk_alloc ?_ _));refine blk_put (cs:=#[.slice Ao11 y270.length co11,.int .i64 a0_1,.int .i64 0,.slice none 0 0]) ?_ 2 _ rfl;(with_reducible repeat (first | refine blk_drewN ?_ _ | refine blk_drew ?_ | refine blk_alloc ?_ _));refine blk_put (cs:=#[.slice Ao11 y270.length co11,.int .i64 0,.int .i64 0,.slice none 0 0]) ?_ 1 _ rfl;(with_reducible repeat (first | refine blk_drewN ?_ _ | refine blk_drew ?_ | refine blk_alloc ?_ _));refine blk_put (cs:=#[.slice none 0 0,.int .i64 0,.int .i64 0,.slice none 0 0]) ?_ 0 _ rfl;(with_reducible repeat (first | refine blk_drewN ?_ _ | refine blk_drew ?_ | refine blk_alloc ?_ _));refine blk_far ?_ NB266_265.out _;(with_reducible repeat (first | refine blk_drewN ?_ _ | refine blk_drew ?_ | refine blk_alloc ?_ _));exact BK266.out) Try.underlying56 rfl (by kernel_rfl)) rfl ?_
   exact ⟨_,_,by first | rfl | (simp [errW_none,errW_some] <;> rfl) | (simp [*,errW_none,errW_some] <;> rfl),by (with_reducible repeat (first | apply Kd.R_alloc | apply Kd.R_drewN | apply Kd.R_drew));exact Kd.R_mono (Kd.R_far (p:=⟨gb266,3,none⟩) (Kd.R_far (p:=⟨gb266,2,none⟩) (Kd.R_far (p:=⟨gb266,1,none⟩) (Kd.R_far (p:=⟨gb266,0,none⟩) (Kd.R_far (p:=⟨gb265,3,none⟩) (Kd.R_types (Kd.R_types HO272.out BK265.out (by decide)) BK266.out (by decide)) (fun _ hk => hk.1.2) (.slice Ao17 y276.length co17)) (fun _ hk => hk.2) (.slice Ao11 y270.length co11)) (fun _ hk => hk.2) (.int .i64 a0_1)) (fun _ hk => hk.2) (.int .i64 a0_2)) (fun _ hk => hk.2) (.slice Ao17 y276.length co17)) (fun _ hk => trivial),by (with_reducible repeat (first | apply Kd.R_alloc | apply Kd.R_drewN | apply Kd.R_drew));exact Kd.R_mono (Kd.R_far (p:=⟨gb266,3,none⟩) (Kd.R_far (p:=⟨gb266,2,none⟩) (Kd.R_far (p:=⟨gb266,1,none⟩) (Kd.R_far (p:=⟨gb266,0,none⟩) (Kd.R_far (p:=⟨gb265,3,none⟩) (Kd.R_types (Kd.R_types HO278.out BK265.out (by decide)) BK266.out (by decide)) (fun _ hk => hk.1.2) (.slice Ao17 y276.length co17)) (fun _ hk => hk.2) (.slice Ao11 y270.length co11)) (fun _ hk => hk.2) (.int .i64 a0_1)) (fun _ hk => hk.2) (.int .i64 a0_2)) (fun _ hk => hk.2) (.slice Ao17 y276.length co17)) (fun _ hk => trivial),by repeat (first | (with_reducible first | exact HB.out | apply below_alloc | apply pw_below_drewN | apply below_drew1 | refine below_set ?_ GE265.out | refine below_set ?_ GE266.out) | exact HB.out)⟩
  ·rw [if_neg c3] at H
   exact absurd H (by simp)
 ·rw [if_neg c2] at H
  exact absurd H (by simp)

/-! ### spec_l6Trim: function 54 (by hand: blocks with rows of their own are made, written and laid behind others) -/
/-- What holds between the rounds: what is laid out so far, the numbers, the list. -/
structure SpTrInv (b B : Nat) (w W : World) (vo vn vl : Value) (out : List S56) (ns ls : List Int) : Prop where
 below : Below B w W
 hBW : B ≤ W.heap.size
 out : Kd.S k56 56 W B (fun k => some k ≠ vn.ownBlock ∧ some k ≠ vl.ownBlock) vo out
 ns : (Kd.int .i64).R 3 W b (fun k => some k = vn.ownBlock) vn ns
 ls : (Kd.int .i64).R 3 W b (fun k => some k = vl.ownBlock) vl ls
theorem SpTr_weak {w0 w w1 : World} {B : Nat} (h : Below w0.heap.size w0 w) (hB : w0.heap.size ≤ B) (k : Below B w w1) : Below w0.heap.size w0 w1:=h.trans ⟨k.os,k.tape,k.output,k.size,fun i hi => k.block i (Nat.lt_of_lt_of_le hi hB)⟩
theorem SpTrInv.step {b B : Nat} {w W W' : World} {vo vn vl : Value} {out : List S56} {ns ls : List Int} (h : SpTrInv b B w W vo vn vl out ns ls) (hb : Below W.heap.size W W') : SpTrInv b B w W' vo vn vl out ns ls:=⟨below_then h.below h.hBW hb,Nat.le_trans h.hBW hb.size,Kd.S_below h.out hb,Kd.R_below h.ns hb,Kd.R_below h.ls hb⟩
/-- The same, within a round: a block in a variable, with two rows of its own. -/
structure SpTrIn (b B : Nat) (w W : World) (m gb : Nat) (vo vn vl v0 v3 : Value) (out : List S56) (ns ls : List Int) (code : List S79) (go tst : Int) (nx : List Int) : Prop where
 below : Below B w W
 hm : B ≤ m
 hmW : m ≤ W.heap.size
 out : Kd.S k56 56 W B (fun k => (some k ≠ vn.ownBlock ∧ some k ≠ vl.ownBlock) ∧ k < m) vo out
 ns : (Kd.int .i64).R 3 W b (fun k => some k = vn.ownBlock) vn ns
 ls : (Kd.int .i64).R 3 W b (fun k => some k = vl.ownBlock) vl ls
 nlt : ∀ k,some k = vn.ownBlock → k < m
 llt : ∀ k,some k = vl.ownBlock → k < m
 r0 : k79.R 79 W m (fun k => some k = v0.ownBlock) v0 code
 r3 : (Kd.int .i64).R 3 W m (fun k => some k = v3.ownBlock) v3 nx
 hgb : m ≤ gb
 box : W.heap[gb]? = some (.cells #[v0,.int .i64 go,.int .i64 tst,v3] 56 (0,0))
section
variable {b B : Nat} {w W W' : World} {m gb : Nat} {vo vn vl v0 v3 : Value} {out : List S56} {ns ls : List Int} {code : List S79} {go tst : Int} {nx : List Int}
theorem SpTrIn.step (h : SpTrIn b B w W m gb vo vn vl v0 v3 out ns ls code go tst nx) (hb : Below W.heap.size W W') : SpTrIn b B w W' m gb vo vn vl v0 v3 out ns ls code go tst nx :=
 ⟨below_then h.below (Nat.le_trans h.hm h.hmW) hb,h.hm,Nat.le_trans h.hmW hb.size,Kd.S_below h.out hb,Kd.R_below h.ns hb,Kd.R_below h.ls hb,h.nlt,h.llt,Kd.R_below h.r0 hb,Kd.R_below h.r3 hb,h.hgb,blk_below h.box hb⟩
theorem SpTrIn.drewN (h : SpTrIn b B w W m gb vo vn vl v0 v3 out ns ls code go tst nx) (n : Nat) : SpTrIn b B w (W.drewN n) m gb vo vn vl v0 v3 out ns ls code go tst nx:=h.step (pw_below_drewN (Below.refl _ _) n)
theorem SpTrInv.start {ok0 ok3 : Nat → Prop} (h : SpTrInv b B w W vo vn vl out ns ls) (hb : Below W.heap.size W W') (h0 : k79.R 79 W' W.heap.size ok0 v0 code) (h3 : (Kd.int .i64).R 3 W' W.heap.size ok3 v3 nx) (gb : Nat) (hgb : W.heap.size ≤ gb) (hbx : W'.heap[gb]? = some (.cells #[v0,.int .i64 go,.int .i64 tst,v3] 56 (0,0))) :
  SpTrIn b B w W' W.heap.size gb vo vn vl v0 v3 out ns ls code go tst nx :=
 ⟨below_then h.below h.hBW hb,h.hBW,hb.size,Kd.S_below (Kd.S_mono (Kd.S_bound h.out) (fun k hk => ⟨hk.1,hk.2.2.1⟩)) hb,Kd.R_below h.ns hb,Kd.R_below h.ls hb,fun k hk => Kd.R_lt h.ns k hk.symm,fun k hk => Kd.R_lt h.ls k hk.symm,Kd.R_tight rfl h0,Kd.R_tight rfl h3,hgb,hbx⟩
/-- A number of its row is written. -/
theorem SpTrIn.put (h : SpTrIn b B w W m gb vo vn vl v0 v3 out ns ls code go tst nx) (i : Int) (h0 : 0 ≤ i) (h1 : i < nx.length) (x : Int) : ∃ g3 c3,v3 = .slice (some ⟨g3,0,none⟩) nx.length c3 ∧ W.cell? ⟨g3,i.toNat,none⟩ = some (.int .i64 (rd nx i)) ∧ W.frozen? ⟨g3,i.toNat,none⟩ = false ∧
  SpTrIn b B w (W.setCell ⟨g3,i.toNat,none⟩ (.int .i64 x)) m gb vo vn vl v0 v3 out ns ls code go tst (nx.set i.toNat x):=by
 obtain ⟨g3,c3,hv,hbg,_,_⟩:=Kd.R_form h.r3 (by omega)
 have hE:=h.r3
 rw [hv] at hE
 obtain ⟨hc,hf⟩:=Kd.R_celln (0 : Int) hE i h0 h1
 obtain ⟨hp,hg⟩:=Kd.R_putg hE i x
 have hne : ∀ k,k < m → k ≠ g3:=fun k hk e => by omega
 refine ⟨g3,c3,hv,hc,hf,⟨h.below.setCell (Nat.le_trans h.hm hbg) _,h.hm,Nat.le_trans h.hmW (by simp [World.setCell]),Kd.S_far (p:=⟨g3,i.toNat,none⟩) h.out (fun k hk => hne k hk.2) _,Kd.R_far (p:=⟨g3,i.toNat,none⟩) h.ns (fun k hk => hne k (h.nlt k hk)) _,Kd.R_far (p:=⟨g3,i.toNat,none⟩) h.ls (fun k hk => hne k (h.llt k hk)) _,h.nlt,h.llt,?_,?_,h.hgb,blk_far (p:=⟨g3,i.toNat,none⟩) h.box (fun e => ?_) _⟩⟩
 ·refine Kd.R_far (p:=⟨g3,i.toNat,none⟩) h.r0 (fun k hk e => ?_) _
  obtain ⟨c0,e0⟩:=Kd.R_typed h.r0 k hk.symm
  obtain ⟨c1,e1⟩:=Kd.R_typed h.r3 g3 (by rw [hv];rfl)
  have e' : k = g3:=e
  subst e'
  rw [e0] at e1
  injection e1 with e1
  injection e1 with _ e1
  exact absurd e1 (by decide)
 ·rw [hv]
  have:=hp
  rw [hv] at *
  exact this
 ·have e' : gb = g3:=e
  obtain ⟨c1,e1⟩:=Kd.R_typed h.r3 g3 (by rw [hv];rfl)
  subst e'
  rw [h.box] at e1
  injection e1 with e1
  injection e1 with _ e1
  exact absurd e1 (by decide)
/-- It is laid behind the others. -/
theorem SpTrIn.mk_ (h : SpTrIn b B w W m gb vo vn vl v0 v3 out ns ls code go tst nx) : k56.M W B (fun k => some k = v0.ownBlock ∨ some k = v3.ownBlock) ⟨code,go,tst,nx⟩ [v0,.int .i64 go,.int .i64 tst,v3] :=
 k56_mkM W B _ ⟨code,go,tst,nx⟩ (Kd.R_lower (Kd.R_mono h.r0 (fun _ hk => .inl hk)) h.hm) (Kd.R_lower (Kd.R_mono h.r3 (fun _ hk => .inr hk)) h.hm)
theorem SpTrIn.ge (h : SpTrIn b B w W m gb vo vn vl v0 v3 out ns ls code go tst nx) : ∀ k,some k = v0.ownBlock ∨ some k = v3.ownBlock → m ≤ k:=fun k hk => hk.elim (fun e => Kd.R_base h.r0 k e.symm) (fun e => Kd.R_base h.r3 k e.symm)
theorem SpTrIn.aQ (h : SpTrIn b B w W m gb vo vn vl v0 v3 out ns ls code go tst nx) : ∀ k,some k = v0.ownBlock ∨ some k = v3.ownBlock → (some k ≠ vn.ownBlock ∧ some k ≠ vl.ownBlock) ∧ some k ≠ vo.ownBlock:=fun k hk => by
 have hm:=h.ge k hk
 exact ⟨⟨fun e => by have:=h.nlt k e;omega,fun e => by have:=h.llt k e;omega⟩,fun e => by have:=((Kd.S_R h.out).1 k e.symm).2;omega⟩
theorem SpTrIn.aO (h : SpTrIn b B w W m gb vo vn vl v0 v3 out ns ls code go tst nx) : Kd.S k56 56 W B (fun k => (some k ≠ vn.ownBlock ∧ some k ≠ vl.ownBlock) ∧ ¬ (some k = v0.ownBlock ∨ some k = v3.ownBlock)) vo out :=
 Kd.S_mono h.out (fun k hk => ⟨hk.1,fun ho => by have:=h.ge k ho;omega⟩)
theorem SpTrIn.aF (h : SpTrIn b B w W m gb vo vn vl v0 v3 out ns ls code go tst nx) : ∀ k,W.heap.size ≤ k → some k ≠ vn.ownBlock ∧ some k ≠ vl.ownBlock:=fun k hk =>
 ⟨fun e => by have:=Kd.R_lt h.ns k e.symm;omega,fun e => by have:=Kd.R_lt h.ls k e.symm;omega⟩
theorem SpTrIn.app {w1 : World} {v1 : Value} {out1 : List S56} (h : SpTrIn b B w W m gb vo vn vl v0 v3 out ns ls code go tst nx) (hS : Kd.S k56 56 w1 B (fun k => some k ≠ vn.ownBlock ∧ some k ≠ vl.ownBlock) v1 out1) (hb : Below B w w1) (hg : W.grownBy w1 vo.ownBlock) : SpTrInv b B w w1 v1 vn vl out1 ns ls :=
 ⟨hb,Nat.le_trans (Nat.le_trans h.hm h.hmW) hg.size,hS,Kd.R_grown h.ns hg (fun k hk e => ((Kd.S_R h.out).1 k e.symm).1.1 hk),Kd.R_grown h.ls hg (fun k hk e => ((Kd.S_R h.out).1 k e.symm).1.2 hk)⟩
end
mutual
def spec_l6Trim.l1 : Nat → List S56 → List Int → List Int → List S56 → Int → Option (List S56 × List Int)
 | 0,_,_,_,_,_ => none
 | k + 1,f,rs,ns,out,i => if i < (rs.length : Int) then (if 0 ≤ i then (if 0 ≤ rd rs i then (if rd rs i < (f.length : Int) then ((spec_l6Own.f (rd_T56 f (rd rs i)).f0 (rd_T56 f (rd rs i)).f1 (rd_T56 f (rd rs i)).f2 (rd_T56 f (rd rs i)).f3).bind fun p => (spec_l6Trim.l2 k f rs ns out i p.1 p.2.1 p.2.2.1 p.2.2.2 0)) else none) else none) else none) else some (out,ns)
def spec_l6Trim.l2 : Nat → List S56 → List Int → List Int → List S56 → Int → List S79 → Int → Int → List Int → Int → Option (List S56 × List Int)
 | 0,_,_,_,_,_,_,_,_,_,_ => none
 | k + 1,f,rs,ns,out,i,code,go,tst,nx,j => if j < (nx.length : Int) then (if 0 ≤ j then (if 0 ≤ rd nx j then (if rd nx j < (ns.length : Int) then (spec_l6Trim.l2 k f rs ns out i code go tst (nx.set j.toNat (rd ns (rd nx j))) (wrap64 (j + 1))) else none) else none) else none) else (if out.length < 2199023255551 then (spec_l6Trim.l1 k f rs ns (out ++ [⟨code,go,tst,nx⟩]) (wrap64 (i + 1))) else none)
end
def spec_l6Trim.l0 : Nat → List S56 → List Int → List Int → Int → Int → Option (List S56 × List Int)
 | 0,_,_,_,_,_ => none
 | k + 1,f,rs,ns,n,i => if i < (f.length : Int) then ((spec_l1Has.f k rs i).bind fun b => (if b = true then (if ns.length < 17592186044415 then (spec_l6Trim.l0 k f rs (ns ++ [n]) (wrap64 (n + 1)) (wrap64 (i + 1))) else none) else (if ns.length < 17592186044415 then (spec_l6Trim.l0 k f rs (ns ++ [-1]) n (wrap64 (i + 1))) else none))) else (spec_l6Trim.l1 k f rs ns [] 0)
def spec_l6Trim.f (k : Nat) (f : List S56) : Option (List S56 × List Int):=(spec_l6Reach.f k f).bind fun rs => (spec_l6Trim.l0 k f rs [] 0 0)
theorem spec_l6Trim.mono_l : ∀ k,(∀ y0 y1 y2 y3 y4,LeO (spec_l6Trim.l1 k y0 y1 y2 y3 y4) (spec_l6Trim.l1 (k + 1) y0 y1 y2 y3 y4)) ∧ (∀ y0 y1 y2 y3 y4 y5 y6 y7 y8 y9,LeO (spec_l6Trim.l2 k y0 y1 y2 y3 y4 y5 y6 y7 y8 y9) (spec_l6Trim.l2 (k + 1) y0 y1 y2 y3 y4 y5 y6 y7 y8 y9))
 | 0 => ⟨fun _ _ _ _ _ r h => by simp [spec_l6Trim.l1] at h,fun _ _ _ _ _ _ _ _ _ _ r h => by simp [spec_l6Trim.l2] at h⟩
 | k + 1 => by
  obtain ⟨ih1,ih2⟩:=spec_l6Trim.mono_l k
  refine ⟨?_,?_⟩
  ·intro y0 y1 y2 y3 y4
   unfold spec_l6Trim.l1
   repeat' first
    | (with_reducible exact ih2 _ _ _ _ _ _ _ _ _ _)
    | (with_reducible exact LeO.refl _)
    | (with_reducible exact LeO.none _)
    | (with_reducible refine LeO.ite ?_ ?_)
    | (with_reducible refine LeO.bind ?_ (fun _ => ?_))
  ·intro y0 y1 y2 y3 y4 y5 y6 y7 y8 y9
   unfold spec_l6Trim.l2
   repeat' first
    | (with_reducible exact ih2 _ _ _ _ _ _ _ _ _ _)
    | (with_reducible exact ih1 _ _ _ _ _)
    | (with_reducible exact LeO.refl _)
    | (with_reducible exact LeO.none _)
    | (with_reducible refine LeO.ite ?_ ?_)
    | (with_reducible refine LeO.bind ?_ (fun _ => ?_))
theorem spec_l6Trim.mono_0 : ∀ k,(∀ y0 y1 y2 y3 y4,LeO (spec_l6Trim.l0 k y0 y1 y2 y3 y4) (spec_l6Trim.l0 (k + 1) y0 y1 y2 y3 y4))
 | 0 => fun _ _ _ _ _ r h => by simp [spec_l6Trim.l0] at h
 | k + 1 => by
  have ih0:=spec_l6Trim.mono_0 k
  have ih1:=(spec_l6Trim.mono_l k).1
  intro y0 y1 y2 y3 y4
  unfold spec_l6Trim.l0
  repeat' first
    | (with_reducible exact ih0 _ _ _ _ _)
    | (with_reducible exact ih1 _ _ _ _ _)
    | (with_reducible exact spec_l1Has.mono _ _ _)
    | (with_reducible exact LeO.refl _)
    | (with_reducible exact LeO.none _)
    | (with_reducible refine LeO.ite ?_ ?_)
    | (with_reducible refine LeO.bind ?_ (fun _ => ?_))
theorem spec_l6Trim.mono : ∀ a0 k,LeO (spec_l6Trim.f k a0) (spec_l6Trim.f (k + 1) a0):=fun _ k => LeO.bind (spec_l6Reach.mono _ _) (fun _ => spec_l6Trim.mono_0 k _ _ _ _ _)
set_option maxHeartbeats 8000000 in
set_option maxRecDepth 100000 in
theorem spec_l6Trim.calls (k : Nat) (A0 : Option Addr) (c0 : Nat) (l0 : List S56) (r1 : List S56) (r2 : List Int) (w : World) (hr0 : Kd.C k56 w A0 l0.length l0) (hc0 : l0.length ≤ c0) (h : spec_l6Trim.f k l0 = some (r1,r2)) :
  Calls Try.prog 54 #[.slice A0 l0.length c0] w fun e w' => ∃ (v0_ v1_ : Value) (m_ : Nat),e = .returned (.tuple #[v0_,v1_]) ∧ w.heap.size ≤ m_ ∧ m_ ≤ w'.heap.size ∧ Kd.S k56 56 w' m_ (fun _ => True) v0_ r1 ∧ Kd.R (Kd.int .i64) 3 w' w.heap.size (fun k_ => k_ < m_) v1_ r2 ∧ Below w.heap.size w w':=by
 have hu56:=Try.underlying56
 have HR0:=Aside0.mk hr0
 have HC0:=Aside0.mk hc0
 clear hr0 hc0
 unfold spec_l6Trim.f at h
 obtain ⟨rs,A1,H⟩:=Option.bind_eq_some_iff.mp h
 have A:=Aside0.mk A1
 have H':=Aside0.mk H
 clear h A1 H
 go_enter Try.func54,Try.ntmps54
 go_wp2_with (first | (go_at_call 49;(refine (spec_l6Reach.calls k _ _ l0 rs _ HR0.out HC0.out A.out).mono ?_);rintro e w2 ⟨vl,rfl,ho,hb⟩;obtain ⟨Al,cl,el⟩:=Kd.R_slice ho;subst el;have HLS:=Aside0.mk (Kd.R_tight rfl ho);have HB:=Aside0.mk hb;clear ho hb))
 have HN:=Aside0.mk (Kd.R_nil (Kd.int .i64) 3 w2 w.heap.size (fun k_ => some k_ ≠ (.slice Al rs.length cl : Value).ownBlock))
 go_loopg [5,6,18] k (fun kq v5 v6 v18 w' => ∃ (ns : List Int) (n i : Int),v6 = .int .i64 n ∧ v18 = .int .i64 i ∧ Aside0 (spec_l6Trim.l0 kq l0 rs ns n i = some (r1,r2)) ∧ Aside0 (kq ≤ k) ∧ Aside0 (Below w.heap.size w w') ∧ Aside0 ((Kd.int .i64).R 3 w' w.heap.size (fun k_ => some k_ ≠ (.slice Al rs.length cl : Value).ownBlock) v5 ns) ∧ Aside0 ((Kd.int .i64).R 3 w' w.heap.size (fun k_ => some k_ = (.slice Al rs.length cl : Value).ownBlock) (.slice Al rs.length cl) rs))
 case atStart => exact ⟨[],0,0,rfl,rfl,H',⟨Nat.le_refl _⟩,HB,HN,HLS⟩
 case round =>
  clear H' HB HN HLS
  obtain ⟨ns,n,i,rfl,rfl,HA,HK1,HB,HN,HLS⟩:=hrel
  cases gk with
  | zero => exact absurd HA.out (by simp [spec_l6Trim.l0])
  | succ k1 =>
   have H:=HA.out
   clear HA
   simp only [spec_l6Trim.l0] at H
   obtain ⟨An,cn,en⟩:=Kd.R_slice HN.out
   subst en
   by_cases c3 : i < (l0.length : Int)
   ·rw [if_pos c3] at H
    obtain ⟨b,B1,H⟩:=Option.bind_eq_some_iff.mp H
    have B:=Aside0.mk B1
    have hrl:=Kd.R_reads' HLS.out
    have HLSC:=Aside0.mk hrl.2.2
    have HLSL:=Aside0.mk hrl.2.1
    have c3b0 : decide (i < (l0.length : Int)) = true:=decide_eq_true c3
    have p3:=eq_true c3
    clear B1 hrl c3
    cases b with
    | true =>
     rw [if_pos rfl] at H
     by_cases c9 : ns.length < 17592186044415
     ·rw [if_pos c9] at H
      have H':=Aside0.mk H
      have HLM:=Aside0.mk c9
      clear H c9
      go_wp2_with (first | (go_at_call 78;(with_reducible refine (spec_l1Has.calls k1 _ _ rs i true _ HLSC.out HLSL.out B.out).mono ?_);rintro e w5 ⟨rfl,⟨nd,rfl⟩⟩) | ((with_reducible refine gate_builtin (b:=.append) (xs:=#[.tmp 24,.tmp 26]) rfl ?_);at_builtin;refine Kd.R_append (Kd.int .i64) (w0:=w) w.heap.size rfl (.tmp 24) (.tmp 26) 37 3 (.int .i64 0) 8 rfl Try.underlying37 (by kernel_rfl) rfl (by decide) (by omega) (.slice An ns.length cn) ns n [.int .i64 n] (fun k_ => some k_ ≠ (.slice Al rs.length cl : Value).ownBlock) (fun _ => False) rfl rfl ?aP (fun _ hk => hk.elim) ?aF ?aO ?aB ?aS ?aL ?_;(case aP => exact rfl);(case aF => exact fun k_ hk_ e_ => by have q_:=Kd.R_lt HLS.out k_ e_.symm;have hk2_ : wr.heap.size ≤ k_:=hk_;omega);(case aO => exact Kd.R_drewN HN.out _);(case aB => exact pw_below_drewN HB.out _);(case aS => exact HB.out.size);(case aL => have:=HLM.out;omega);intro v_ w7 ho hb hg hat;have HB7:=Aside0.mk hb;have HN7:=Aside0.mk ho;have HLS7:=Aside0.mk (Kd.R_grown (Kd.R_drewN HLS.out _) hg (fun k_ hk_ e_ => HN.out.1 k_ e_.symm hk_));clear ho hb hg hat))
      go_roundg k1
      case measure => have:=HK1.out;omega
      case rel => exact ⟨_,_,_,rfl,rfl,H',⟨by have:=HK1.out;omega⟩,HB7,HN7,HLS7⟩
     ·rw [if_neg c9] at H;exact absurd H (by simp)
    | false =>
     rw [if_neg (by decide)] at H
     by_cases c9 : ns.length < 17592186044415
     ·rw [if_pos c9] at H
      have H':=Aside0.mk H
      have HLM:=Aside0.mk c9
      clear H c9
      go_wp2_with (first | (go_at_call 78;(with_reducible refine (spec_l1Has.calls k1 _ _ rs i false _ HLSC.out HLSL.out B.out).mono ?_);rintro e w5 ⟨rfl,⟨nd,rfl⟩⟩) | ((with_reducible refine gate_builtin (b:=.append) (xs:=#[.tmp 30,.tmp 31]) rfl ?_);at_builtin;refine Kd.R_append (Kd.int .i64) (w0:=w) w.heap.size rfl (.tmp 30) (.tmp 31) 37 3 (.int .i64 0) 8 rfl Try.underlying37 (by kernel_rfl) rfl (by decide) (by omega) (.slice An ns.length cn) ns (-1) [.int .i64 (-1)] (fun k_ => some k_ ≠ (.slice Al rs.length cl : Value).ownBlock) (fun _ => False) rfl rfl ?aP (fun _ hk => hk.elim) ?aF ?aO ?aB ?aS ?aL ?_;(case aP => exact rfl);(case aF => exact fun k_ hk_ e_ => by have q_:=Kd.R_lt HLS.out k_ e_.symm;have hk2_ : wr.heap.size ≤ k_:=hk_;omega);(case aO => exact Kd.R_drewN HN.out _);(case aB => exact pw_below_drewN HB.out _);(case aS => exact HB.out.size);(case aL => have:=HLM.out;omega);intro v_ w7 ho hb hg hat;have HB7:=Aside0.mk hb;have HN7:=Aside0.mk ho;have HLS7:=Aside0.mk (Kd.R_grown (Kd.R_drewN HLS.out _) hg (fun k_ hk_ e_ => HN.out.1 k_ e_.symm hk_));clear ho hb hg hat))
      go_roundg k1
      case measure => have:=HK1.out;omega
      case rel => exact ⟨_,_,_,rfl,rfl,H',⟨by have:=HK1.out;omega⟩,HB7,HN7,HLS7⟩
     ·rw [if_neg c9] at H;exact absurd H (by simp)
   ·rw [if_neg c3] at H
    have H':=Aside0.mk H
    have c3b0 : decide (i < (l0.length : Int)) = false:=decide_eq_false c3
    clear H c3
    go_wp2
    obtain ⟨wz,hwz⟩ : ∃ wz : World,wz = wr:=⟨_,rfl⟩
    have HBz:=Aside0.mk (show Below w.heap.size w wz from hwz ▸ HB.out)
    obtain ⟨m0,hm0⟩ : ∃ m0,m0 = wz.heap.size:=⟨_,rfl⟩
    have HM0:=Aside0.mk (show w.heap.size ≤ m0 from hm0 ▸ HBz.out.size)
    have HNL:=Aside0.mk (show ∀ k_,some k_ = (.slice An ns.length cn : Value).ownBlock → k_ < m0 from fun k_ e_ => by rw [hm0,hwz];exact Kd.R_lt HN.out k_ e_.symm)
    have HI0:=Aside0.mk (show SpTrInv w.heap.size m0 wz wr (.slice none 0 0) (.slice An ns.length cn) (.slice Al rs.length cl) [] ns rs from ⟨by rw [hwz];exact Below.refl _ _,by rw [hm0,hwz];exact Nat.le_refl _,Kd.S_nil _ _ _ _ _,Kd.R_tight rfl HN.out,HLS.out⟩)
    clear hwz hm0 HB HN HLS
    have HK1':=Aside0.mk HK1.out
    go_loopg [8,36] k1 (fun kq v8 v36 w' => ∃ (out : List S56) (i : Int),v36 = .int .i64 i ∧ Aside0 (spec_l6Trim.l1 kq l0 rs ns out i = some (r1,r2)) ∧ Aside0 (kq ≤ k1) ∧ Aside0 (SpTrInv w.heap.size m0 wz w' v8 (.slice An ns.length cn) (.slice Al rs.length cl) out ns rs))
    case atStart => exact ⟨_,0,rfl,H',⟨Nat.le_refl _⟩,HI0⟩
    case round =>
     clear H' HI0
     obtain ⟨out,i,rfl,HA,HKB,HI⟩:=hrel
     cases gk with
     | zero => exact absurd HA.out (by simp [spec_l6Trim.l1])
     | succ kb =>
      have H:=HA.out
      clear HA
      simp only [spec_l6Trim.l1] at H
      obtain ⟨Ao,co,eo⟩:=Kd.S_slice HI.out.out
      subst eo
      by_cases c3 : i < (rs.length : Int)
      ·rw [if_pos c3] at H
       by_cases c4 : 0 ≤ i
       ·rw [if_pos c4] at H
        by_cases c5 : 0 ≤ rd rs i
        ·rw [if_pos c5] at H
         by_cases c6 : rd rs i < (l0.length : Int)
         ·rw [if_pos c6] at H
          obtain ⟨kk,hkk⟩ : ∃ kk,kk = rd rs i:=⟨_,rfl⟩
          have hrr:=Kd.R_reads' HI.out.ls
          obtain ⟨adr,e1,hx1⟩:=Kd.at_int hrr.2.2 i c4 c3
          cases e1
          rw [← hkk] at H c5 c6 hx1
          obtain ⟨ad2,A0_,c0_,A3_,c3_,e2,hx00,hx10,hx20,hx30,hl0,hc0,hl3,hc3⟩:=at_T56 HR0.out kk c5 c6
          cases e2
          obtain ⟨xs,hxs⟩ : ∃ xs,xs = rd_T56 l0 kk:=⟨_,rfl⟩
          rw [← hxs] at H hx00 hx10 hx20 hx30 hl0 hc0 hl3 hc3
          have HBW:=Aside0.mk (SpTr_weak HBz.out HM0.out HI.out.below)
          have hxa:=pw_cell_below HBW.out hx00
          have hxb:=pw_cell_below HBW.out hx10
          have hxc:=pw_cell_below HBW.out hx20
          have hxd:=pw_cell_below HBW.out hx30
          have HL0_:=Aside0.mk hl0
          have HC0_:=Aside0.mk hc0
          have HL3_:=Aside0.mk hl3
          have HC3_:=Aside0.mk hc3
          obtain ⟨⟨code,go,tst,nx⟩,B1,H⟩:=Option.bind_eq_some_iff.mp H
          have B:=Aside0.mk B1
          have H':=Aside0.mk H
          clear B1 H
          have c3b0 : decide (i < (rs.length : Int)) = true:=decide_eq_true c3
          have c4b0 : decide (0 ≤ i) = true:=decide_eq_true c4
          have c5b0 : decide (0 ≤ kk) = true:=decide_eq_true c5
          have c6b0 : decide (kk < (l0.length : Int)) = true:=decide_eq_true c6
          have p3:=eq_true c3
          have p4:=eq_true c4
          have p5:=eq_true c5
          have p6:=eq_true c6
          clear hrr c3 c4 c5 c6 hkk hxs hx00 hx10 hx20 hx30 hl0 hc0 hl3 hc3
          go_wp2_with (first | (go_at_call 80;(refine (spec_l6Own.calls A0_ c0_ xs.f0 xs.f1 xs.f2 A3_ c3_ xs.f3 code go tst nx _ (Kd.C_below HC0_.out HBW.out) HL0_.out (Kd.C_below HC3_.out HBW.out) HL3_.out B.out).mono ?_);rintro e w5 ⟨v0,v3,rfl,ho0,ho3,hb⟩;obtain ⟨Ac,cc,ec⟩:=Kd.R_slice ho0;obtain ⟨A3n,c3n,e3n⟩:=Kd.R_slice ho3;subst ec;subst e3n;have HIN:=Aside0.mk (HI.out.start (below_alloc hb (.cells #[.slice Ac code.length cc,.int .i64 go,.int .i64 tst,.slice A3n nx.length c3n] 56)) (Kd.R_alloc ho0 _) (Kd.R_alloc ho3 _) w5.heap.size hb.size (heap_alloc_new w5 (.cells #[.slice Ac code.length cc,.int .i64 go,.int .i64 tst,.slice A3n nx.length c3n] 56)));clear ho0 ho3 hb))
          clear hx1 hxa hxb hxc hxd c3b0 c4b0 c5b0 c6b0 p3 p4 p5 p6
          obtain ⟨m,HIN⟩ : ∃ m,Aside0 (SpTrIn w.heap.size m0 wz (w5.alloc (.cells #[.slice Ac code.length cc,.int .i64 go,.int .i64 tst,.slice A3n nx.length c3n] 56)) m w5.heap.size (.slice Ao out.length co) (.slice An ns.length cn) (.slice (some adr) rs.length cl) (.slice Ac code.length cc) (.slice A3n nx.length c3n) out ns rs code go tst nx):=⟨_,HIN⟩
          go_loopg [48] kb (fun kq v48 w' => ∃ (nx' : List Int) (j : Int),v48 = .int .i64 j ∧ Aside0 (spec_l6Trim.l2 kq l0 rs ns out i code go tst nx' j = some (r1,r2)) ∧ Aside0 (kq ≤ kb) ∧ Aside0 (nx.length = nx'.length) ∧ Aside0 (SpTrIn w.heap.size m0 wz w' m w5.heap.size (.slice Ao out.length co) (.slice An ns.length cn) (.slice (some adr) rs.length cl) (.slice Ac code.length cc) (.slice A3n nx.length c3n) out ns rs code go tst nx'))
          case atStart => exact ⟨nx,0,rfl,H',⟨Nat.le_refl _⟩,⟨rfl⟩,HIN⟩
          case round =>
           clear H' HIN
           obtain ⟨nx',j,rfl,HA,HKC,HLN,HIN⟩:=hrel
           cases gk with
           | zero => exact absurd HA.out (by simp [spec_l6Trim.l2])
           | succ kc =>
            have H:=HA.out
            clear HA
            simp only [spec_l6Trim.l2] at H
            have hbx3 : wr.cell? ⟨w5.heap.size,3,none⟩ = some (.slice A3n nx.length c3n):=(blk_cell HIN.out.box 3).trans rfl
            by_cases c5 : j < (nx'.length : Int)
            ·rw [if_pos c5] at H
             by_cases c6 : 0 ≤ j
             ·rw [if_pos c6] at H
              by_cases c7 : 0 ≤ rd nx' j
              ·rw [if_pos c7] at H
               by_cases c8 : rd nx' j < (ns.length : Int)
               ·rw [if_pos c8] at H
                have H':=Aside0.mk H
                obtain ⟨g3,c3',hv3,hy1,hfy,hput⟩:=HIN.out.put j c6 c5 (rd ns (rd nx' j))
                injection hv3 with hv3 hv3a hv3b
                clear hv3a hv3b
                subst hv3
                obtain ⟨adn,e3,hy2⟩:=Kd.at_int (Kd.R_reads' HIN.out.ns).2.2 (rd nx' j) c7 c8
                cases e3
                have HP:=Aside0.mk hput
                have c5n : j < (nx.length : Int):=by have:=HLN.out;omega
                have c5b : decide (j < (nx.length : Int)) = true:=decide_eq_true c5n
                have c6b : decide (0 ≤ j) = true:=decide_eq_true c6
                have c7b : decide (0 ≤ rd nx' j) = true:=decide_eq_true c7
                have c8b : decide (rd nx' j < (ns.length : Int)) = true:=decide_eq_true c8
                have p5:=eq_true c5n
                have p6:=eq_true c6
                have p7:=eq_true c7
                have p8:=eq_true c8
                have hln2 : nx.length = (nx'.set j.toNat (rd ns (rd nx' j))).length:=by rw [List.length_set];exact HLN.out
                have HLN2:=Aside0.mk hln2
                clear hln2
                obtain ⟨y1,hyy⟩ : ∃ y1,y1 = rd nx' j:=⟨_,rfl⟩
                rw [← hyy] at hy1 hy2 c7b c8b p7 p8 HP HLN2 H'
                clear H hput c5 c5n c6 c7 c8 HIN hyy
                go_upto_region 20 with (fail)
                go_region
                all_goals
                 go_wp2
                 go_roundg kc
                 case measure => have:=HKC.out;omega
                 case rel => exact ⟨_,_,rfl,H',⟨by have:=HKC.out;omega⟩,HLN2,⟨by first | exact HP.out | exact HP.out.drewN _⟩⟩
               ·rw [if_neg c8] at H;exact absurd H (by simp)
              ·rw [if_neg c7] at H;exact absurd H (by simp)
             ·rw [if_neg c6] at H;exact absurd H (by simp)
            ·rw [if_neg c5] at H
             by_cases c9 : out.length < 2199023255551
             ·rw [if_pos c9] at H
              have H':=Aside0.mk H
              have HLO:=Aside0.mk c9
              have c5n : ¬ j < (nx.length : Int):=by have:=HLN.out;omega
              have c5b : decide (j < (nx.length : Int)) = false:=decide_eq_false c5n
              have hbx0 : wr.cell? ⟨w5.heap.size,0,none⟩ = some (.slice Ac code.length cc):=(blk_cell HIN.out.box 0).trans rfl
              have hbx1 : wr.cell? ⟨w5.heap.size,1,none⟩ = some (.int .i64 go):=(blk_cell HIN.out.box 1).trans rfl
              have hbx2 : wr.cell? ⟨w5.heap.size,2,none⟩ = some (.int .i64 tst):=(blk_cell HIN.out.box 2).trans rfl
              clear H c5 c5n c9
              go_wp2_with (first | ((with_reducible refine gate_builtin (b:=.append) (xs:=#[.tmp 62,.tmp 64]) rfl ?_);at_builtin;refine Kd.S_append k56 (w0:=wz) m0 rfl (.tmp 62) (.tmp 64) 25 56 (.agg #[.slice none 0 0,.int .i64 0,.int .i64 0,.slice none 0 0]) 64 rfl Try.underlying25 (by kernel_rfl) rfl (by decide) (by omega) (.slice Ao out.length co) out ⟨code,go,tst,nx'⟩ [.slice Ac code.length cc,.int .i64 go,.int .i64 tst,.slice A3n nx.length c3n] (fun k_ => some k_ ≠ (.slice An ns.length cn : Value).ownBlock ∧ some k_ ≠ (.slice (some adr) rs.length cl : Value).ownBlock) (fun k_ => some k_ = (.slice Ac code.length cc : Value).ownBlock ∨ some k_ = (.slice A3n nx.length c3n : Value).ownBlock) rfl rfl ?aP ?aQ ?aF ?aO ?aB ?aS ?aL ?_;(case aP => exact HIN.out.mk_);(case aQ => exact HIN.out.aQ);(case aF => exact HIN.out.aF);(case aO => exact HIN.out.aO);(case aB => exact HIN.out.below);(case aS => exact Nat.le_trans HIN.out.hm HIN.out.hmW);(case aL => have:=HLO.out;omega);intro v_ w9 ho hb hg hat;have HI9:=Aside0.mk (HIN.out.app ho hb hg);clear ho hb hg hat))
              go_roundg kc
              case measure => have:=HKB.out;have:=HKC.out;omega
              case rel => exact ⟨_,_,rfl,H',⟨by have:=HKB.out;have:=HKC.out;omega⟩,HI9⟩
             ·rw [if_neg c9] at H;exact absurd H (by simp)
         ·rw [if_neg c6] at H;exact absurd H (by simp)
        ·rw [if_neg c5] at H;exact absurd H (by simp)
       ·rw [if_neg c4] at H;exact absurd H (by simp)
      ·rw [if_neg c3] at H
       simp only [Option.some.injEq,Prod.mk.injEq] at H
       obtain ⟨rfl,rfl⟩:=H
       have c3b0 : decide (i < (rs.length : Int)) = false:=decide_eq_false c3
       clear c3
       go_wp2
       go_ret2
       exact ⟨_,_,m0,rfl,HM0.out,HI.out.hBW,Kd.S_mono HI.out.out (fun _ _ => trivial),Kd.R_mono HI.out.ns (fun k_ e_ => HNL.out k_ e_),SpTr_weak HBz.out HM0.out HI.out.below⟩


end Go.Proofs.Ythgkhfhfahifmaa.Q
