-- WRITTEN BY A PROGRAM OF THIS SESSION
import Derived.Test.YthgkhfhfahifmaaWMi2
import Derived.Test.YthgkhfhfahifmaaQ0
import Derived.Test.YthgkhfhfahifmaaQ6
import Derived.Test.YthgkhfhfahifmaaQ51
import Derived.Test.YthgkhfhfahifmaaQ52
namespace Go.Proofs.Ythgkhfhfahifmaa.Q
open Go.RowKit Go.Proofs.YthgkhfhfahifmaaW.PrintWords Go.Proofs.YthgkhfhfahifmaaW.PrintLast Go.Proofs.YthgkhfhfahifmaaW.PrintMore
attribute [local go_sem] max2_int min2_int max_two min_two max_three min_three max_four min_four   -- for this text's walks alone
set_option linter.unusedVariables false
set_option linter.unusedSimpArgs false

/-! ### impl_preds: function 53 -/
mutual
def impl_preds.l0 : Nat → List (List Int) → List (List Int) → List Int → Int → Int → Option ((List (List Int)))
 | 0,_,_,_,_,_ => none
 | k + 1,x0,x3,x14,x15,x16 => if x16 < x15 then (if 0 ≤ x16 then (if x16 < (x14.length : Int) then (if 0 ≤ (rd x14 x16) then (if (rd x14 x16) < (x0.length : Int) then (impl_preds.l1 k x0 x3 (rd x14 x16) x14 x15 x16 (rd_L3 x0 (rd x14 x16)) ((rd_L3 x0 (rd x14 x16)).length : Int) 0) else (none)) else (none)) else (none)) else (none)) else (some x3)
def impl_preds.l1 : Nat → List (List Int) → List (List Int) → Int → List Int → Int → Int → List Int → Int → Int → Option ((List (List Int)))
 | 0,_,_,_,_,_,_,_,_,_ => none
 | k + 1,x0,x3,x5,x14,x15,x16,x23,x24,x25 => if x25 < x24 then (if 0 ≤ x25 then (if x25 < (x23.length : Int) then (if 0 ≤ (rd x23 x25) then (if (rd x23 x25) < (x3.length : Int) then (if ((rd_L3 x3 (rd x23 x25)).length : Int) = 0 then (if (rd_L3 x3 (rd x23 x25)).length < 17592186044416 then (impl_preds.l1 k x0 (x3.set ((rd x23 x25) : Int).toNat ((rd_L3 x3 (rd x23 x25)) ++ [x5])) x5 x14 x15 x16 x23 x24 (wrap64 (x25 + 1))) else (none)) else (if 0 ≤ (wrap64 (((rd_L3 x3 (rd x23 x25)).length : Int) - 1)) then (if (wrap64 (((rd_L3 x3 (rd x23 x25)).length : Int) - 1)) < ((rd_L3 x3 (rd x23 x25)).length : Int) then (if (rd (rd_L3 x3 (rd x23 x25)) (wrap64 (((rd_L3 x3 (rd x23 x25)).length : Int) - 1))) = x5 then (impl_preds.l1 k x0 x3 x5 x14 x15 x16 x23 x24 (wrap64 (x25 + 1))) else (if (rd_L3 x3 (rd x23 x25)).length < 17592186044416 then (impl_preds.l1 k x0 (x3.set ((rd x23 x25) : Int).toNat ((rd_L3 x3 (rd x23 x25)) ++ [x5])) x5 x14 x15 x16 x23 x24 (wrap64 (x25 + 1))) else (none))) else (none)) else (none))) else (none)) else (none)) else (none)) else (none)) else (impl_preds.l0 k x0 x3 x14 x15 (wrap64 (x16 + 1)))
end
def impl_preds.f (k : Nat) (l0 : List (List Int)) : Option ((List (List Int))):=if 0 ≤ (l0.length : Int) then (if ((l0.length : Int) : Int).toNat ≤ 11728124029610 then ((impl_reach.f k l0 0 ([] : List Int)).bind fun t306 => ((impl_listOf.f k t306).bind fun t309 => (impl_preds.l0 k l0 (List.replicate ((l0.length : Int) : Int).toNat []) t309 (t309.length : Int) 0))) else (none)) else (none)
theorem impl_preds.mono_l : ∀ k,(∀ y0 y1 y2 y3 y4,LeO (impl_preds.l0 k y0 y1 y2 y3 y4) (impl_preds.l0 (k + 1) y0 y1 y2 y3 y4)) ∧ (∀ y0 y1 y2 y3 y4 y5 y6 y7 y8,LeO (impl_preds.l1 k y0 y1 y2 y3 y4 y5 y6 y7 y8) (impl_preds.l1 (k + 1) y0 y1 y2 y3 y4 y5 y6 y7 y8))
 | 0 => ⟨fun _ _ _ _ _ r h => by simp [impl_preds.l0] at h,fun _ _ _ _ _ _ _ _ _ r h => by simp [impl_preds.l1] at h⟩
 | k + 1 => by
  obtain ⟨ih0,ih1⟩:=impl_preds.mono_l k
  refine ⟨?_,?_⟩
  ·intro y0 y1 y2 y3 y4
   unfold impl_preds.l0
   repeat' first
   | (with_reducible exact ih0 _ _ _ _ _)
   | (with_reducible exact ih1 _ _ _ _ _ _ _ _ _)
   | (with_reducible exact impl_listOf.mono _ _)
   | (with_reducible exact impl_reach.mono _ _ _ _)
   | (with_reducible exact LeO.refl _)
   | (with_reducible exact LeO.none _)
   | (with_reducible refine LeO.ite ?_ ?_)
   | (with_reducible refine LeO.bind ?_ (fun _ => ?_))
   | exact ih0 _ _ _ _ _
   | exact ih1 _ _ _ _ _ _ _ _ _
   | exact impl_listOf.mono _ _
   | exact impl_reach.mono _ _ _ _
   | exact LeO.none _
   | refine LeO.ite ?_ ?_
   | refine LeO.bind ?_ (fun _ => ?_)
  ·intro y0 y1 y2 y3 y4 y5 y6 y7 y8
   unfold impl_preds.l1
   repeat' first
   | (with_reducible exact ih0 _ _ _ _ _)
   | (with_reducible exact ih1 _ _ _ _ _ _ _ _ _)
   | (with_reducible exact impl_listOf.mono _ _)
   | (with_reducible exact impl_reach.mono _ _ _ _)
   | (with_reducible exact LeO.refl _)
   | (with_reducible exact LeO.none _)
   | (with_reducible refine LeO.ite ?_ ?_)
   | (with_reducible refine LeO.bind ?_ (fun _ => ?_))
   | exact ih0 _ _ _ _ _
   | exact ih1 _ _ _ _ _ _ _ _ _
   | exact impl_listOf.mono _ _
   | exact impl_reach.mono _ _ _ _
   | exact LeO.none _
   | refine LeO.ite ?_ ?_
   | refine LeO.bind ?_ (fun _ => ?_)
theorem impl_preds.mono : ∀ a0 k,LeO (impl_preds.f k a0) (impl_preds.f (k + 1) a0):=by
 intro a0 k
 obtain ⟨ih0,ih1⟩:=impl_preds.mono_l k
 unfold impl_preds.f
 repeat' first
   | (with_reducible exact ih0 _ _ _ _ _)
   | (with_reducible exact ih1 _ _ _ _ _ _ _ _ _)
   | (with_reducible exact impl_listOf.mono _ _)
   | (with_reducible exact impl_reach.mono _ _ _ _)
   | (with_reducible exact LeO.refl _)
   | (with_reducible exact LeO.none _)
   | (with_reducible refine LeO.ite ?_ ?_)
   | (with_reducible refine LeO.bind ?_ (fun _ => ?_))
   | exact ih0 _ _ _ _ _
   | exact ih1 _ _ _ _ _ _ _ _ _
   | exact impl_listOf.mono _ _
   | exact impl_reach.mono _ _ _ _
   | exact LeO.none _
   | refine LeO.ite ?_ ?_
   | refine LeO.bind ?_ (fun _ => ?_)
set_option maxHeartbeats 8000000 in
set_option maxRecDepth 100000 in
theorem impl_preds.calls (k : Nat) (A0 : Option Addr) (c0 : Nat) (l0 : List (List Int)) (r : List (List Int)) (w : World) (hr0 : Kd.C (Kd.slice 3 (Kd.int .i64)) w A0 l0.length l0) (hc0 : l0.length ≤ c0) (h : impl_preds.f k l0 = some r) :
  Calls Try.prog 53 #[.slice A0 l0.length c0] w fun e w' => ∃ v0_ : Value,e = .returned (v0_) ∧ Kd.S (Kd.slice 3 (Kd.int .i64)) 37 w' w.heap.size (fun _ => True) v0_ r ∧ Below w.heap.size w w':=by
 have HR0:=Aside0.mk hr0
 have HC0:=Aside0.mk hc0
 clear hr0 hc0
 have HB:=Aside0.mk (Below.refl w.heap.size w)
 have H : (if 0 ≤ (l0.length : Int) then (if ((l0.length : Int) : Int).toNat ≤ 11728124029610 then ((impl_reach.f k l0 0 ([] : List Int)).bind fun t306 => ((impl_listOf.f k t306).bind fun t309 => (impl_preds.l0 k l0 (List.replicate ((l0.length : Int) : Int).toNat []) t309 (t309.length : Int) 0))) else (none)) else (none)) = some r:=h
 clear h
 by_cases c2 : 0 ≤ (l0.length : Int)
 ·rw [if_pos c2] at H
  have c2b0:=eq_true c2
  have c2b1 : decide (0 ≤ (l0.length : Int)) = true:=decide_eq_true c2
  clear c2
  by_cases c3 : ((l0.length : Int) : Int).toNat ≤ 11728124029610
  ·rw [if_pos c3] at H
   have c3b0:=eq_true c3
   have c3b1 : decide (((l0.length : Int) : Int).toNat ≤ 11728124029610) = true:=decide_eq_true c3
   clear c3
   obtain ⟨y303,hy303⟩ : ∃ y_ : List (List Int),y_ = (List.replicate ((l0.length : Int) : Int).toNat []):=⟨_,rfl⟩
   replace H : ((impl_reach.f k l0 0 ([] : List Int)).bind fun t306 => ((impl_listOf.f k t306).bind fun t309 => (impl_preds.l0 k l0 y303 t309 (t309.length : Int) 0))) = some r:=by first | (rw [hy303];with_reducible exact H) | (have H2_:=(Option.bind_some _ _).symm.trans H;rw [hy303];with_reducible exact H2_) | (have H2_:=(Option.bind_some _ _).symm.trans H;with_reducible exact H2_) | with_reducible exact H | (rw [hy303];exact H) | exact H
   have Ny303:=Aside0.mk hy303
   clear hy303
   replace H:=Option.bind_eq_some_iff.mp H
   obtain ⟨t306,A40,H⟩:=H
   replace H : ((impl_listOf.f k t306).bind fun t309 => (impl_preds.l0 k l0 y303 t309 (t309.length : Int) 0)) = some r:=H
   have A4:=Aside0.mk A40
   clear A40
   replace H:=Option.bind_eq_some_iff.mp H
   obtain ⟨t309,A50,H⟩:=H
   replace H : (impl_preds.l0 k l0 y303 t309 (t309.length : Int) 0) = some r:=H
   have A5:=Aside0.mk A50
   clear A50
   have H':=Aside0.mk H
   clear H
   go_enter Try.func53,Try.ntmps53
   go_wp2_with (first | ((with_reducible refine gate_dst (N:=11) rfl ?_);refine Kd.S_make (Kd.slice 3 (Kd.int .i64)) _ 37 rfl (N:=11) rfl 29 _ _ rfl (l0.length : Int) rfl rfl Try.underlying29 (.slice none 0 0) 24 info37 rfl (by decide) (by omega) [] (ok:=fun _ => True) (okp:=fun _ => True) ⟨_,rfl,Kd.R_nil _ _ _ _ _⟩ (fun _ hk => hk) trivial (of_decide_eq_true (by first | (with_reducible assumption) | assumption)) (Nat.le_trans (Nat.mul_le_mul_right _ (of_decide_eq_true (by first | (with_reducible assumption) | assumption) : (l0.length : Int).toNat ≤ 11728124029610)) (by omega)) (Below.refl _ _) (Nat.le_refl _) ?_;intro v304 w6 ho7 hb hg_ hnew_;clear hg_ hnew_;(first | rw [← Ny303.out] at ho7 | (simp only [Int.reduceToNat] at ho7;rw [← Ny303.out] at ho7));have n0_:=Aside0.mk (Kd.S_lower ho7 (below_size (by repeat (first | (with_reducible first | exact HB.out | apply below_alloc | apply pw_below_drewN | apply below_drew1) | exact HB.out))));have n1_:=Aside0.mk (below_step (by repeat (first | (with_reducible first | exact HB.out | apply below_alloc | apply pw_below_drewN | apply below_drew1) | exact HB.out)) hb);clear HB;have HO305:=n0_;have HB:=n1_;clear n0_ n1_;clear hb ho7) | ((with_reducible refine gate_callee (f:=51) rfl ?_);refine goesL_ (some 13) rfl rfl Try.func51 (by kernel_rfl) rfl #[.slice A0 l0.length c0,.int .i64 0,.slice none 0 0] rfl (by (try simp only [List.map_toArray,List.map_cons,List.map_nil]);first | done | rfl | (simp only [List.length_drop,List.length_take];rfl)) ?_;(refine (impl_reach.calls k _ _ l0 0 _ _ ([] : List Int) t306 _ ?side1 ?side2 ?side3 ?side4 A4.out).mono ?_);(case side1 => repeat (first | exact (Kd.C_below HR0.out HB.out) | (with_reducible refine Kd.C_alloc ?_ _) | (with_reducible refine Kd.C_drewN ?_ _) | (with_reducible refine Kd.C_drew ?_)));(case side2 => exact HC0.out);(case side3 => exact Kd.C_nil _ _);(case side4 => exact Nat.le_refl _);rintro e w8 ⟨v307,rfl,ho0,hb⟩;refine ⟨_,rfl,?_⟩;have n0_:=Aside0.mk (Kd.S_below (by (with_reducible repeat (first | apply Kd.S_alloc | apply Kd.S_drewN | apply Kd.S_drew));exact HO305.out) hb);have n1_:=Aside0.mk (Kd.R_lower ho0 (below_size (by repeat (first | (with_reducible first | exact HB.out | apply below_alloc | apply pw_below_drewN | apply below_drew1) | exact HB.out))));have n2_:=Aside0.mk (below_step (by repeat (first | (with_reducible first | exact HB.out | apply below_alloc | apply pw_below_drewN | apply below_drew1) | exact HB.out)) hb);clear HO305;clear HB;have HO305:=n0_;have HO308:=n1_;have HB:=n2_;clear n0_ n1_ n2_;(try clear hb);(try clear hb2);(try clear hk);(try clear hi);(try clear ho0);obtain ⟨Ao9,co9,eo9⟩:=Kd.R_slice HO308.out;subst eo9) | ((with_reducible refine gate_callee (f:=50) rfl ?_);refine goesL_ (some 14) rfl rfl Try.func50 (by kernel_rfl) rfl #[.slice Ao9 t306.length co9] rfl (by (try simp only [List.map_toArray,List.map_cons,List.map_nil]);first | done | rfl | (simp only [List.length_drop,List.length_take];rfl)) ?_;(with_reducible refine (impl_listOf.calls k _ _ t306 t309 _ ?side1 ?side2 A5.out).mono ?_);(case side1 => repeat (first | exact (Kd.R_reads' HO308.out).2.2 | (with_reducible refine Kd.C_alloc ?_ _) | (with_reducible refine Kd.C_drewN ?_ _) | (with_reducible refine Kd.C_drew ?_)));(case side2 => exact (Kd.R_reads' HO308.out).2.1);rintro e w10 ⟨v310,rfl,ho0,hb⟩;refine ⟨_,rfl,?_⟩;have n0_:=Aside0.mk (Kd.S_elder' (by (with_reducible repeat (first | apply Kd.S_alloc | apply Kd.S_drewN | apply Kd.S_drew));exact HO305.out) (Kd.R_base ho0) hb);have n1_:=Aside0.mk (Kd.R_below (by (with_reducible repeat (first | apply Kd.R_alloc | apply Kd.R_drewN | apply Kd.R_drew));exact HO308.out) hb);have n2_:=Aside0.mk (Kd.R_lower ho0 (below_size (by repeat (first | (with_reducible first | exact HB.out | apply below_alloc | apply pw_below_drewN | apply below_drew1) | exact HB.out))));have n3_:=Aside0.mk (below_step (by repeat (first | (with_reducible first | exact HB.out | apply below_alloc | apply pw_below_drewN | apply below_drew1) | exact HB.out)) hb);clear HO305;clear HO308;clear HB;have HO305:=n0_;have HO308:=n1_;have HO311:=n2_;have HB:=n3_;clear n0_ n1_ n2_ n3_;(try clear hb);(try clear hb2);(try clear hk);(try clear hi);(try clear ho0);obtain ⟨Ao11,co11,eo11⟩:=Kd.R_slice HO311.out;subst eo11))
   go_loopg [16] k (fun kq v16 w' => ∃ (x3_1 : List (List Int)) (x16_1 : Int),v16 = .int .i64 x16_1 ∧ Aside0 (impl_preds.l0 kq l0 x3_1 t309 (t309.length : Int) x16_1 = some r) ∧ Aside0 (kq ≤ k) ∧ Aside0 (Kd.S (Kd.slice 3 (Kd.int .i64)) 37 w' w.heap.size (fun k_ => some k_ ≠ ((.slice Ao11 t309.length co11) : Value).ownBlock) v304 x3_1) ∧ Aside0 (Kd.R (Kd.int .i64) 3 w' w.heap.size (fun _ => True) (.slice Ao11 t309.length co11) t309) ∧ Aside0 (Below w.heap.size w w'))
   case atStart => exact ⟨(y303),(0),(by first | rfl | (simp;done) | (simp [*];done)),H',⟨Nat.le_refl _⟩,⟨by (with_reducible repeat (first | apply Kd.S_alloc | apply Kd.S_drewN | apply Kd.S_drew));exact Kd.S_mono HO305.out (fun _ hk => hk.2)⟩,⟨by (with_reducible repeat (first | apply Kd.R_alloc | apply Kd.R_drewN | apply Kd.R_drew));exact HO311.out⟩,⟨by repeat (first | (with_reducible first | exact HB.out | apply below_alloc | apply pw_below_drewN | apply below_drew1) | exact HB.out)⟩⟩
   case round =>
    clear H'
    try clear c2
    try clear c2b0
    try clear c2b1
    try clear p2
    try clear c3
    try clear c3b0
    try clear c3b1
    try clear c5
    obtain ⟨x3_1,x16_1,rfl,HA,HK1,HO_3,HO_14,HB⟩:=hrel
    cases gk with
    | zero => exact absurd HA.out (by simp [impl_preds.l0])
    | succ k1 =>
     have H:=HA.out
     clear HA
     simp only [impl_preds.l0] at H
     by_cases c12 : x16_1 < (t309.length : Int)
     ·rw [if_pos c12] at H
      have c12b0 : decide (x16_1 < (t309.length : Int)) = true:=decide_eq_true c12
      clear c12
      by_cases c13 : 0 ≤ x16_1
      ·rw [if_pos c13] at H
       have c13b0 : decide (0 ≤ x16_1) = true:=decide_eq_true c13
       clear c13
       by_cases c14 : x16_1 < (t309.length : Int)
       ·rw [if_pos c14] at H
        have c14b0 : decide (x16_1 < (t309.length : Int)) = true:=decide_eq_true c14
        clear c14
        by_cases c15 : 0 ≤ (rd t309 x16_1)
        ·rw [if_pos c15] at H
         have c15b0 : decide (0 ≤ (rd t309 x16_1)) = true:=decide_eq_true c15
         clear c15
         by_cases c16 : (rd t309 x16_1) < (l0.length : Int)
         ·rw [if_pos c16] at H
          have c16b0 : decide ((rd t309 x16_1) < (l0.length : Int)) = true:=decide_eq_true c16
          clear c16
          have H':=Aside0.mk H
          clear H
          have p312 : 0 ≤ (x16_1 : Int):=of_decide_eq_true (by first | (with_reducible assumption) | assumption)
          have q312 : x16_1 < (t309.length : Int):=of_decide_eq_true (by first | (with_reducible assumption) | assumption)
          obtain ⟨ad312,e312,hx312_0⟩:=Kd.at_int (Kd.R_reads' HO_14.out).2.2 x16_1 p312 q312
          cases e312
          replace p312:=eq_true p312
          replace q312:=eq_true q312
          have p313 : 0 ≤ ((rd t309 x16_1) : Int):=of_decide_eq_true (by first | (with_reducible assumption) | assumption)
          have q313 : (rd t309 x16_1) < (l0.length : Int):=of_decide_eq_true (by first | (with_reducible assumption) | assumption)
          obtain ⟨ad313,A313_0,c313_0,e313,hx313_0,hl313_0,hi313_0⟩:=at_L3 HR0.out (rd t309 x16_1) p313 q313
          cases e313
          replace hx313_0:=(HB.out.cell (World.block_lt_of_cell? w _ hx313_0)).trans hx313_0
          have HR313_0:=Aside0.mk hi313_0
          have HC313_0:=Aside0.mk hl313_0
          clear hi313_0 hl313_0
          replace p313:=eq_true p313
          replace q313:=eq_true q313
          go_wp2
          go_loopg [25] k1 (fun kq v25 w' => ∃ (x3_2 : List (List Int)) (x25_2 : Int),v25 = .int .i64 x25_2 ∧ Aside0 (impl_preds.l1 kq l0 x3_2 (rd t309 x16_1) t309 (t309.length : Int) x16_1 (rd_L3 l0 (rd t309 x16_1)) ((rd_L3 l0 (rd t309 x16_1)).length : Int) x25_2 = some r) ∧ Aside0 (kq ≤ k1) ∧ Aside0 (Kd.S (Kd.slice 3 (Kd.int .i64)) 37 w' w.heap.size (fun k_ => some k_ ≠ ((.slice (some ad312) t309.length co11) : Value).ownBlock) v304 x3_2) ∧ Aside0 (Kd.R (Kd.int .i64) 3 w' w.heap.size (fun _ => True) (.slice (some ad312) t309.length co11) t309) ∧ Aside0 (Below w.heap.size w w'))
          case atStart => exact ⟨(x3_1),(0),(by first | rfl | (simp;done) | (simp [*];done)),H',⟨Nat.le_refl _⟩,⟨by (with_reducible repeat (first | apply Kd.S_alloc | apply Kd.S_drewN | apply Kd.S_drew));exact HO_3.out⟩,⟨by (with_reducible repeat (first | apply Kd.R_alloc | apply Kd.R_drewN | apply Kd.R_drew));exact HO_14.out⟩,⟨by repeat (first | (with_reducible first | exact HB.out | apply below_alloc | apply pw_below_drewN | apply below_drew1) | exact HB.out)⟩⟩
          case round =>
           clear H'
           try clear c1
           try clear c2
           try clear c2b0
           try clear c2b1
           try clear p2
           try clear c3
           try clear c3b0
           try clear c3b1
           try clear p3
           try clear q3
           try clear hx3
           try clear c5
           try clear c12
           try clear c12b0
           try clear c13
           try clear c13b0
           try clear c14
           try clear c14b0
           try clear c15
           try clear c15b0
           try clear c16
           try clear c16b0
           try clear hx312_0
           try clear hx313_0
           try clear p2
           try clear p312
           try clear p313
           try clear q312
           try clear q313
           obtain ⟨x3_2,x25_2,rfl,HA,HK2,HO_3,HO_14,HB⟩:=hrel
           cases gk with
           | zero => exact absurd HA.out (by simp [impl_preds.l1])
           | succ k2 =>
            have H:=HA.out
            clear HA
            simp only [impl_preds.l1] at H
            by_cases c17 : x25_2 < ((rd_L3 l0 (rd t309 x16_1)).length : Int)
            ·rw [if_pos c17] at H
             have c17b0 : decide (x25_2 < ((rd_L3 l0 (rd t309 x16_1)).length : Int)) = true:=decide_eq_true c17
             clear c17
             by_cases c18 : 0 ≤ x25_2
             ·rw [if_pos c18] at H
              have c18b0 : decide (0 ≤ x25_2) = true:=decide_eq_true c18
              clear c18
              by_cases c19 : x25_2 < ((rd_L3 l0 (rd t309 x16_1)).length : Int)
              ·rw [if_pos c19] at H
               have c19b0 : decide (x25_2 < ((rd_L3 l0 (rd t309 x16_1)).length : Int)) = true:=decide_eq_true c19
               clear c19
               by_cases c20 : 0 ≤ (rd (rd_L3 l0 (rd t309 x16_1)) x25_2)
               ·rw [if_pos c20] at H
                have c20b0 : decide (0 ≤ (rd (rd_L3 l0 (rd t309 x16_1)) x25_2)) = true:=decide_eq_true c20
                clear c20
                by_cases c21 : (rd (rd_L3 l0 (rd t309 x16_1)) x25_2) < (x3_2.length : Int)
                ·rw [if_pos c21] at H
                 have c21b0 : decide ((rd (rd_L3 l0 (rd t309 x16_1)) x25_2) < (x3_2.length : Int)) = true:=decide_eq_true c21
                 clear c21
                 by_cases c22 : ((rd_L3 x3_2 (rd (rd_L3 l0 (rd t309 x16_1)) x25_2)).length : Int) = 0
                 ·rw [if_pos c22] at H
                  have c22b0 : (((rd_L3 x3_2 (rd (rd_L3 l0 (rd t309 x16_1)) x25_2)).length : Int) == 0) = true:=beq_iff_eq.mpr c22
                  have c22b1 : (((rd_L3 x3_2 (rd (rd_L3 l0 (rd t309 x16_1)) x25_2)).length : Int) != 0) = false:=bne_eq_false_iff_eq.mpr c22
                  clear c22
                  by_cases c23 : (rd_L3 x3_2 (rd (rd_L3 l0 (rd t309 x16_1)) x25_2)).length < 17592186044416
                  ·rw [if_pos c23] at H
                   have LMc23:=Aside0.mk c23
                   clear c23
                   obtain ⟨y317,hy317⟩ : ∃ y_ : List Int,y_ = ((rd_L3 x3_2 (rd (rd_L3 l0 (rd t309 x16_1)) x25_2)) ++ [(rd t309 x16_1)]):=⟨_,rfl⟩
                   replace H : (impl_preds.l1 k2 l0 (x3_2.set ((rd (rd_L3 l0 (rd t309 x16_1)) x25_2) : Int).toNat y317) (rd t309 x16_1) t309 (t309.length : Int) x16_1 (rd_L3 l0 (rd t309 x16_1)) ((rd_L3 l0 (rd t309 x16_1)).length : Int) (wrap64 (x25_2 + 1))) = some r:=by first | (rw [hy317];with_reducible exact H) | (have H2_:=(Option.bind_some _ _).symm.trans H;rw [hy317];with_reducible exact H2_) | (have H2_:=(Option.bind_some _ _).symm.trans H;with_reducible exact H2_) | with_reducible exact H | (rw [hy317];exact H) | exact H
                   have Ny317:=Aside0.mk hy317
                   clear hy317
                   obtain ⟨y320,hy320⟩ : ∃ y_ : List (List Int),y_ = (x3_2.set ((rd (rd_L3 l0 (rd t309 x16_1)) x25_2) : Int).toNat y317):=⟨_,rfl⟩
                   replace H : (impl_preds.l1 k2 l0 y320 (rd t309 x16_1) t309 (t309.length : Int) x16_1 (rd_L3 l0 (rd t309 x16_1)) ((rd_L3 l0 (rd t309 x16_1)).length : Int) (wrap64 (x25_2 + 1))) = some r:=by first | (rw [hy320];with_reducible exact H) | (have H2_:=(Option.bind_some _ _).symm.trans H;rw [hy320];with_reducible exact H2_) | (have H2_:=(Option.bind_some _ _).symm.trans H;with_reducible exact H2_) | with_reducible exact H | (rw [hy320];exact H) | exact H
                   have Ny320:=Aside0.mk hy320
                   clear hy320
                   have H':=Aside0.mk H
                   clear H
                   have p314 : 0 ≤ (x25_2 : Int):=of_decide_eq_true (by first | (with_reducible assumption) | assumption)
                   have q314 : x25_2 < ((rd_L3 l0 (rd t309 x16_1)).length : Int):=of_decide_eq_true (by first | (with_reducible assumption) | assumption)
                   obtain ⟨ad314,e314,hx314_0⟩:=Kd.at_int HR313_0.out x25_2 p314 q314
                   cases e314
                   replace hx314_0:=(HB.out.cell (World.block_lt_of_cell? w _ hx314_0)).trans hx314_0
                   replace p314:=eq_true p314
                   replace q314:=eq_true q314
                   obtain ⟨Ao25,co25,eo25⟩:=Kd.S_slice HO_3.out
                   subst eo25
                   have p315 : 0 ≤ ((rd (rd_L3 l0 (rd t309 x16_1)) x25_2) : Int):=of_decide_eq_true (by first | (with_reducible assumption) | assumption)
                   have q315 : (rd (rd_L3 l0 (rd t309 x16_1)) x25_2) < (x3_2.length : Int):=of_decide_eq_true (by first | (with_reducible assumption) | assumption)
                   obtain ⟨ad315,A315_0,c315_0,e315,hx315_0,hl315_0,hi315_0⟩:=at_L3 (Kd.S_reads' HO_3.out).2.2 (rd (rd_L3 l0 (rd t309 x16_1)) x25_2) p315 q315
                   cases e315
                   obtain ⟨ce315,hce315,hMe315,hcc315⟩:=Kd.S_get HO_3.out [] (rd (rd_L3 l0 (rd t309 x16_1)) x25_2) p315 (by first | exact q315 | exact of_decide_eq_true (by first | (with_reducible assumption) | assumption) | (have e_:=(Kd.S_reads' HO_3.out).1;omega))
                   obtain ⟨ve315_0,rfl,ge315_0⟩:=hMe315
                   have hv315_0:=hcc315 0 _ rfl
                   rw [Nat.add_zero,show ((Kd.slice 3 (Kd.int .i64))).sz = 1 from rfl,Nat.mul_one] at hv315_0
                   replace hv315_0:=Option.some.inj (hv315_0.symm.trans hx315_0)
                   rw [hv315_0] at ge315_0
                   have HL315_0:=Aside0.mk (show Kd.R (Kd.int .i64) 3 _ _ _ _ (rd_L3 x3_2 (rd (rd_L3 l0 (rd t309 x16_1)) x25_2)) from ge315_0)
                   clear hv315_0 ge315_0
                   have HX315_0:=Aside0.mk hx315_0
                   clear hcc315 hce315
                   have HR315_0:=Aside0.mk hi315_0
                   have HC315_0:=Aside0.mk hl315_0
                   clear hi315_0 hl315_0
                   replace p315:=eq_true p315
                   replace q315:=eq_true q315
                   have p316 : 0 ≤ ((rd (rd_L3 l0 (rd t309 x16_1)) x25_2) : Int):=of_decide_eq_true (by first | (with_reducible assumption) | assumption)
                   have q316 : (rd (rd_L3 l0 (rd t309 x16_1)) x25_2) < (x3_2.length : Int):=of_decide_eq_true (by first | (with_reducible assumption) | assumption)
                   obtain ⟨ad316,A316_0,c316_0,e316,hx316_0,hl316_0,hi316_0⟩:=at_L3 (Kd.S_reads' HO_3.out).2.2 (rd (rd_L3 l0 (rd t309 x16_1)) x25_2) p316 q316
                   obtain rfl : ad315 = ad316:=(by injection e316)
                   obtain ⟨ce316,hce316,hMe316,hcc316⟩:=Kd.S_get HO_3.out [] (rd (rd_L3 l0 (rd t309 x16_1)) x25_2) p316 (by first | exact q316 | exact of_decide_eq_true (by first | (with_reducible assumption) | assumption) | (have e_:=(Kd.S_reads' HO_3.out).1;omega))
                   obtain ⟨ve316_0,rfl,ge316_0⟩:=hMe316
                   have hv316_0:=hcc316 0 _ rfl
                   rw [Nat.add_zero,show ((Kd.slice 3 (Kd.int .i64))).sz = 1 from rfl,Nat.mul_one] at hv316_0
                   replace hv316_0:=Option.some.inj (hv316_0.symm.trans hx316_0)
                   rw [hv316_0] at ge316_0
                   have HL316_0:=Aside0.mk (show Kd.R (Kd.int .i64) 3 _ _ _ _ (rd_L3 x3_2 (rd (rd_L3 l0 (rd t309 x16_1)) x25_2)) from ge316_0)
                   clear hv316_0 ge316_0
                   have HX316_0:=Aside0.mk hx316_0
                   clear hcc316 hce316
                   have HR316_0:=Aside0.mk hi316_0
                   have HC316_0:=Aside0.mk hl316_0
                   clear hi316_0 hl316_0
                   replace p316:=eq_true p316
                   replace q316:=eq_true q316
                   have ea_:=Option.some.inj (hx315_0.symm.trans hx316_0)
                   injection ea_ with ea_ en_ ec_
                   subst ea_
                   subst ec_
                   clear en_
                   obtain ⟨go26,co26,eo26,gb26,gl26,cl26,HG26⟩:=Kd.S_form HO_3.out (by have h_ : ((rd (rd_L3 l0 (rd t309 x16_1)) x25_2) : Int) < ((x3_2.length : Int) : Int):=of_decide_eq_true (by first | (with_reducible assumption) | assumption);have h2_ : 0 ≤ ((rd (rd_L3 l0 (rd t309 x16_1)) x25_2) : Int):=(of_decide_eq_true (by first | (with_reducible assumption) | assumption));omega)
                   (first | cases eo26 | (injection eo26 with ea_ en_ ec_;(first | subst ea_ | (injection ea_ with ea_;subst ea_));subst ec_;clear en_))
                   have GB26:=Aside0.mk gb26
                   have GG26:=Aside0.mk HG26
                   clear gb26 gl26 HG26
                   (first | simp only [add_plain] at hx315_0 | skip)
                   (first | simp only [add_plain] at hx316_0 | skip)
                   obtain ⟨oki26,ce26,hcl26,hM26,hcc26,_,_,hH26⟩:=Kd.S_elem HO_3.out [] ((rd (rd_L3 l0 (rd t309 x16_1)) x25_2) : Int) (of_decide_eq_true (by first | (with_reducible assumption) | assumption)) (by have h_ : ((rd (rd_L3 l0 (rd t309 x16_1)) x25_2) : Int) < ((x3_2.length : Int) : Int):=of_decide_eq_true (by first | (with_reducible assumption) | assumption);first | exact h_ | (have e_:=(Kd.S_reads' HO_3.out).1;omega) | simpa using h_)
                   obtain ⟨ve26_0,rfl,ge26_0⟩:=hM26
                   have hv26:=hcc26 0 _ rfl
                   have hX26:=HX316_0.out
                   (try simp only [add_plain] at hX26)
                   (try simp only [Nat.add_zero] at hv26)
                   (try rw [show ((Kd.slice 3 (Kd.int .i64))).sz = 1 from rfl,Nat.mul_one] at hv26)
                   replace hv26:=Option.some.inj (hv26.symm.trans hX26)
                   subst hv26
                   clear hX26 hcc26 hcl26
                   have UU26:=Aside0.mk (show Kd.R (Kd.int .i64) 3 _ w.heap.size oki26 (.slice A315_0 (rd_L3 x3_2 (rd (rd_L3 l0 (rd t309 x16_1)) x25_2)).length c315_0) (rd_L3 x3_2 (rd (rd_L3 l0 (rd t309 x16_1)) x25_2)) from ge26_0)
                   have HH26:=Aside0.mk hH26
                   have HN26:=Aside0.mk (Kd.S_reads' HO_3.out).1
                   clear hH26 ge26_0
                   go_wp2_with (first | ((with_reducible refine gate_builtin (b:=.append) (xs:=#[.tmp 53,.tmp 55]) rfl ?_);at_builtin;refine Kd.R_append (Kd.int .i64) (w0:=w) w.heap.size rfl (.tmp 53) (.tmp 55) 37 3 (.int .i64 0) 8 rfl Try.underlying37 info3 rfl (by decide) (by omega) (.slice A315_0 (rd_L3 x3_2 (rd (rd_L3 l0 (rd t309 x16_1)) x25_2)).length c315_0) (rd_L3 x3_2 (rd (rd_L3 l0 (rd t309 x16_1)) x25_2)) (rd t309 x16_1) [.int .i64 (rd t309 x16_1)] (fun k_ => oki26 k_ ∨ ((fun k_ => some k_ ≠ (.slice (some ad312) t309.length co11 : Value).ownBlock)) k_ ∧ wr.heap.size ≤ k_) (fun _ => False) rfl rfl ?aP (fun _ hk => hk.elim) ?aF ?aO ?aB ?aS ?aL ?_;(case aP => exact rfl);(case aB => exact (by repeat (first | (with_reducible first | exact HB.out | apply below_alloc | apply pw_below_drewN | apply below_drew1) | exact HB.out)));(case aF => exact (fun k_ hk => .inr ⟨Kd.fresh' (Kd.R_lt (by (with_reducible repeat (first | apply Kd.R_alloc | apply Kd.R_drewN | apply Kd.R_drew));exact HO_14.out)) k_ hk,hk⟩));(case aO => exact (by (with_reducible repeat (first | apply Kd.R_alloc | apply Kd.R_drewN | apply Kd.R_drew));exact Kd.R_mono UU26.out (fun _ hk => .inl hk)));(case aS => exact (below_size (by repeat (first | (with_reducible first | exact HB.out | apply below_alloc | apply pw_below_drewN | apply below_drew1) | exact HB.out))));(case aL => have:=LMc23.out;omega);intro v318 w27 ho hb hg hat;rw [← Ny317.out] at ho;have n0_:=Aside0.mk (Kd.R_grown2 (by (with_reducible repeat (first | apply Kd.R_alloc | apply Kd.R_drewN | apply Kd.R_drew));exact HO_14.out) rfl hg (fun k_ e_ => (HL316_0.out.1 k_ e_).1));have n1_:=Aside0.mk (hb);have n2_:=Aside0.mk (Kd.H_grown (Kd.H_widen (by repeat (first | exact HH26.out | refine Kd.H_alloc ?_ _ | refine Kd.H_drewN ?_ _ | refine Kd.H_drew ?_))) hg (fun k_ e_ => .inl (UU26.out.1 k_ e_)));have n3_:=Aside0.mk (ho);clear HO_14;clear HB;clear HH26;clear HO_3;clear UU26;clear HL315_0;clear HL316_0;have HO_14:=n0_;have HB:=n1_;have HH26:=n2_;have HO319:=n3_;clear n0_ n1_ n2_ n3_;clear ho hb hg hat;have p24 : 0 ≤ ((rd (rd_L3 l0 (rd t309 x16_1)) x25_2) : Int):=of_decide_eq_true (by first | (with_reducible assumption) | assumption);have q24 : ((rd (rd_L3 l0 (rd t309 x16_1)) x25_2) : Int) < ((x3_2.length : Int) : Int):=of_decide_eq_true (by first | (with_reducible assumption) | assumption);replace p24:=eq_true p24;replace q24:=eq_true q24;obtain ⟨Ao30,co30,eo30⟩:=Kd.R_slice HO319.out;subst eo30;obtain ⟨_,_,hraw28,_,_,hcc28,_⟩:=Kd.H_raw HH26.out (of_decide_eq_true (by first | (with_reducible assumption) | assumption)) (by have h_ : ((rd (rd_L3 l0 (rd t309 x16_1)) x25_2) : Int) < ((x3_2.length : Int) : Int):=of_decide_eq_true (by first | (with_reducible assumption) | assumption);first | exact h_ | (have e_:=(HN26.out);omega) | simpa using h_);obtain ⟨_,hfr28⟩:=Kd.H_at HH26.out (of_decide_eq_true (by first | (with_reducible assumption) | assumption)) (by have h_ : ((rd (rd_L3 l0 (rd t309 x16_1)) x25_2) : Int) < ((x3_2.length : Int) : Int):=of_decide_eq_true (by first | (with_reducible assumption) | assumption);first | exact h_ | (have e_:=(HN26.out);omega) | simpa using h_);have hx28_0:=hcc28 0 _ rfl;have hf28_0:=hfr28 0;(try simp only [Nat.add_zero] at hx28_0 hf28_0);(try rw [show ((Kd.slice 3 (Kd.int .i64))).sz = 1 from rfl,Nat.mul_one] at hx28_0);(try rw [show ((Kd.slice 3 (Kd.int .i64))).sz = 1 from rfl,Nat.mul_one] at hf28_0);have HP28:=Kd.S_seg0 HH26.out (of_decide_eq_true (by first | (with_reducible assumption) | assumption)) (by have h_ : ((rd (rd_L3 l0 (rd t309 x16_1)) x25_2) : Int) < ((x3_2.length : Int) : Int):=of_decide_eq_true (by first | (with_reducible assumption) | assumption);first | exact h_ | (have e_:=(HN26.out);omega) | simpa using h_) (seg:=[.slice Ao30 y317.length co30]) (j:=0) (show 1 ≤ 1 from by decide) (x':=y317) (Kd.M_row HO319.out) (fun _ hk => hk);(try simp only [show ((Kd.slice 3 (Kd.int .i64))).sz = 1 from rfl,Nat.mul_one,Nat.add_zero] at HP28);clear hcc28 hfr28) | ((with_reducible refine gate_store (t:=37) (p:=57) rfl ?_);refine store_event (t:=37) (p:=57) (v:=?vo_w29) (w1:=(w27.setCell ⟨go26,((rd (rd_L3 l0 (rd t309 x16_1)) x25_2) : Int).toNat,none⟩ (.slice Ao30 y317.length co30))) ?hg ?ho ?hn ?hr ?_;(case ho => rfl);(case hg => rfl);(case hn => rfl);(case hr => first | (go_simp;done) | (go_simp;rfl));intro w29 hw;have hg : w27.grownBy w29 (some go26):=(by rw [hw];exact HP28.2);have hp_ : Kd.S (Kd.slice 3 (Kd.int .i64)) 37 w29 w.heap.size (fun k_ => some k_ ≠ (.slice (some ad312) t309.length co11 : Value).ownBlock) (.slice (some ⟨go26,0,none⟩) x3_2.length co25) y320:=(by rw [hw,Ny320.out];exact HP28.1);clear HP28;have n0_:=Aside0.mk (Kd.R_over' (v:=(.slice (some ⟨go26,0,none⟩) x3_2.length co25)) (by (with_reducible repeat (first | apply Kd.R_alloc | apply Kd.R_drewN | apply Kd.R_drew));exact HO_14.out) (Kd.R_typed hraw28) (by decide) hg);have n1_:=Aside0.mk ((by rw [hw];exact below_set HB.out GB26.out : Below w.heap.size w w29));have n2_:=Aside0.mk (hp_);clear HO_14;clear HB;clear HO319;clear HH26;have HO_14:=n0_;have HB:=n1_;have HO_3:=n2_;clear n0_ n1_ n2_;clear hg hw hp_ hraw28))
                   go_roundg k2
                   case measure => have:=HK1.out;have:=HK2.out;omega
                   case rel => exact ⟨(y320),(wrap64 (x25_2 + 1)),(by first | rfl | (simp;done) | (simp [*];done)),H',⟨by have:=HK1.out;have:=HK2.out;omega⟩,⟨by (with_reducible repeat (first | apply Kd.S_alloc | apply Kd.S_drewN | apply Kd.S_drew));exact HO_3.out⟩,⟨by (with_reducible repeat (first | apply Kd.R_alloc | apply Kd.R_drewN | apply Kd.R_drew));exact HO_14.out⟩,⟨by repeat (first | (with_reducible first | exact HB.out | apply below_alloc | apply pw_below_drewN | apply below_drew1) | exact HB.out)⟩⟩
                  ·rw [if_neg c23] at H
                   exact absurd H (by simp)
                 ·rw [if_neg c22] at H
                  have c22b0 : (((rd_L3 x3_2 (rd (rd_L3 l0 (rd t309 x16_1)) x25_2)).length : Int) == 0) = false:=beq_eq_false_iff_ne.mpr c22
                  have c22b1 : (((rd_L3 x3_2 (rd (rd_L3 l0 (rd t309 x16_1)) x25_2)).length : Int) != 0) = true:=bne_iff_ne.mpr c22
                  have c22b2 : ¬ ((rd_L3 x3_2 (rd (rd_L3 l0 (rd t309 x16_1)) x25_2)) = []):=fun h_ => c22 (by rw [h_];rfl)
                  obtain ⟨ji31,hji31⟩ : ∃ j_ : Int,(wrap64 (((rd_L3 x3_2 (rd (rd_L3 l0 (rd t309 x16_1)) x25_2)).length : Int) - 1)) = j_:=⟨_,rfl⟩
                  replace H : (if 0 ≤ (ji31) then (if (ji31) < ((rd_L3 x3_2 (rd (rd_L3 l0 (rd t309 x16_1)) x25_2)).length : Int) then (if (rd (rd_L3 x3_2 (rd (rd_L3 l0 (rd t309 x16_1)) x25_2)) (ji31)) = (rd t309 x16_1) then (impl_preds.l1 k2 l0 x3_2 (rd t309 x16_1) t309 (t309.length : Int) x16_1 (rd_L3 l0 (rd t309 x16_1)) ((rd_L3 l0 (rd t309 x16_1)).length : Int) (wrap64 (x25_2 + 1))) else (if (rd_L3 x3_2 (rd (rd_L3 l0 (rd t309 x16_1)) x25_2)).length < 17592186044416 then (impl_preds.l1 k2 l0 (x3_2.set ((rd (rd_L3 l0 (rd t309 x16_1)) x25_2) : Int).toNat ((rd_L3 x3_2 (rd (rd_L3 l0 (rd t309 x16_1)) x25_2)) ++ [(rd t309 x16_1)])) (rd t309 x16_1) t309 (t309.length : Int) x16_1 (rd_L3 l0 (rd t309 x16_1)) ((rd_L3 l0 (rd t309 x16_1)).length : Int) (wrap64 (x25_2 + 1))) else (none))) else (none)) else (none)) = some r:=by first | (rw [hji31] at H;exact H) | (simp only [hji31] at H ⊢;exact H)
                  have hji31w : (IntKind.i64.wrap (((rd_L3 x3_2 (rd (rd_L3 l0 (rd t309 x16_1)) x25_2)).length : Int) - 1)) = ji31:=(i64_w _).trans hji31
                  by_cases c32 : 0 ≤ (ji31)
                  ·rw [if_pos c32] at H
                   have c32b0 : decide (0 ≤ (ji31)) = true:=decide_eq_true c32
                   clear c32
                   by_cases c33 : (ji31) < ((rd_L3 x3_2 (rd (rd_L3 l0 (rd t309 x16_1)) x25_2)).length : Int)
                   ·rw [if_pos c33] at H
                    have c33b0 : decide ((ji31) < ((rd_L3 x3_2 (rd (rd_L3 l0 (rd t309 x16_1)) x25_2)).length : Int)) = true:=decide_eq_true c33
                    clear c33
                    by_cases c34 : (rd (rd_L3 x3_2 (rd (rd_L3 l0 (rd t309 x16_1)) x25_2)) (ji31)) = (rd t309 x16_1)
                    ·rw [if_pos c34] at H
                     have c34b0 : ((rd (rd_L3 x3_2 (rd (rd_L3 l0 (rd t309 x16_1)) x25_2)) (ji31)) == (rd t309 x16_1)) = true:=beq_iff_eq.mpr c34
                     have c34b1 : ((rd (rd_L3 x3_2 (rd (rd_L3 l0 (rd t309 x16_1)) x25_2)) (ji31)) != (rd t309 x16_1)) = false:=bne_eq_false_iff_eq.mpr c34
                     clear c34
                     have H':=Aside0.mk H
                     clear H
                     have p314 : 0 ≤ (x25_2 : Int):=of_decide_eq_true (by first | (with_reducible assumption) | assumption)
                     have q314 : x25_2 < ((rd_L3 l0 (rd t309 x16_1)).length : Int):=of_decide_eq_true (by first | (with_reducible assumption) | assumption)
                     obtain ⟨ad314,e314,hx314_0⟩:=Kd.at_int HR313_0.out x25_2 p314 q314
                     cases e314
                     replace hx314_0:=(HB.out.cell (World.block_lt_of_cell? w _ hx314_0)).trans hx314_0
                     replace p314:=eq_true p314
                     replace q314:=eq_true q314
                     obtain ⟨Ao35,co35,eo35⟩:=Kd.S_slice HO_3.out
                     subst eo35
                     have p315 : 0 ≤ ((rd (rd_L3 l0 (rd t309 x16_1)) x25_2) : Int):=of_decide_eq_true (by first | (with_reducible assumption) | assumption)
                     have q315 : (rd (rd_L3 l0 (rd t309 x16_1)) x25_2) < (x3_2.length : Int):=of_decide_eq_true (by first | (with_reducible assumption) | assumption)
                     obtain ⟨ad315,A315_0,c315_0,e315,hx315_0,hl315_0,hi315_0⟩:=at_L3 (Kd.S_reads' HO_3.out).2.2 (rd (rd_L3 l0 (rd t309 x16_1)) x25_2) p315 q315
                     cases e315
                     obtain ⟨ce315,hce315,hMe315,hcc315⟩:=Kd.S_get HO_3.out [] (rd (rd_L3 l0 (rd t309 x16_1)) x25_2) p315 (by first | exact q315 | exact of_decide_eq_true (by first | (with_reducible assumption) | assumption) | (have e_:=(Kd.S_reads' HO_3.out).1;omega))
                     obtain ⟨ve315_0,rfl,ge315_0⟩:=hMe315
                     have hv315_0:=hcc315 0 _ rfl
                     rw [Nat.add_zero,show ((Kd.slice 3 (Kd.int .i64))).sz = 1 from rfl,Nat.mul_one] at hv315_0
                     replace hv315_0:=Option.some.inj (hv315_0.symm.trans hx315_0)
                     rw [hv315_0] at ge315_0
                     have HL315_0:=Aside0.mk (show Kd.R (Kd.int .i64) 3 _ _ _ _ (rd_L3 x3_2 (rd (rd_L3 l0 (rd t309 x16_1)) x25_2)) from ge315_0)
                     clear hv315_0 ge315_0
                     have HX315_0:=Aside0.mk hx315_0
                     clear hcc315 hce315
                     have HR315_0:=Aside0.mk hi315_0
                     have HC315_0:=Aside0.mk hl315_0
                     clear hi315_0 hl315_0
                     replace p315:=eq_true p315
                     replace q315:=eq_true q315
                     have p321 : 0 ≤ ((rd (rd_L3 l0 (rd t309 x16_1)) x25_2) : Int):=of_decide_eq_true (by first | (with_reducible assumption) | assumption)
                     have q321 : (rd (rd_L3 l0 (rd t309 x16_1)) x25_2) < (x3_2.length : Int):=of_decide_eq_true (by first | (with_reducible assumption) | assumption)
                     obtain ⟨ad321,A321_0,c321_0,e321,hx321_0,hl321_0,hi321_0⟩:=at_L3 (Kd.S_reads' HO_3.out).2.2 (rd (rd_L3 l0 (rd t309 x16_1)) x25_2) p321 q321
                     obtain rfl : ad315 = ad321:=(by injection e321)
                     obtain ⟨ce321,hce321,hMe321,hcc321⟩:=Kd.S_get HO_3.out [] (rd (rd_L3 l0 (rd t309 x16_1)) x25_2) p321 (by first | exact q321 | exact of_decide_eq_true (by first | (with_reducible assumption) | assumption) | (have e_:=(Kd.S_reads' HO_3.out).1;omega))
                     obtain ⟨ve321_0,rfl,ge321_0⟩:=hMe321
                     have hv321_0:=hcc321 0 _ rfl
                     rw [Nat.add_zero,show ((Kd.slice 3 (Kd.int .i64))).sz = 1 from rfl,Nat.mul_one] at hv321_0
                     replace hv321_0:=Option.some.inj (hv321_0.symm.trans hx321_0)
                     rw [hv321_0] at ge321_0
                     have HL321_0:=Aside0.mk (show Kd.R (Kd.int .i64) 3 _ _ _ _ (rd_L3 x3_2 (rd (rd_L3 l0 (rd t309 x16_1)) x25_2)) from ge321_0)
                     clear hv321_0 ge321_0
                     have HX321_0:=Aside0.mk hx321_0
                     clear hcc321 hce321
                     have HR321_0:=Aside0.mk hi321_0
                     have HC321_0:=Aside0.mk hl321_0
                     clear hi321_0 hl321_0
                     replace p321:=eq_true p321
                     replace q321:=eq_true q321
                     have ea_:=Option.some.inj (hx315_0.symm.trans hx321_0)
                     injection ea_ with ea_ en_ ec_
                     subst ea_
                     subst ec_
                     clear en_
                     have p322 : 0 ≤ ((ji31) : Int):=of_decide_eq_true (by first | (with_reducible assumption) | assumption)
                     have q322 : (ji31) < ((rd_L3 x3_2 (rd (rd_L3 l0 (rd t309 x16_1)) x25_2)).length : Int):=of_decide_eq_true (by first | (with_reducible assumption) | assumption)
                     obtain ⟨ad322,e322,hx322_0⟩:=Kd.at_int (by repeat (first | (with_reducible exact HR321_0.out) | (with_reducible refine Kd.C_alloc ?_ _) | (with_reducible refine Kd.C_drewN ?_ _) | (with_reducible refine Kd.C_drew ?_) | exact HR321_0.out)) (ji31) p322 q322
                     cases e322
                     replace p322:=eq_true p322
                     replace q322:=eq_true q322
                     go_wp2
                     go_roundg k2
                     case measure => have:=HK1.out;have:=HK2.out;omega
                     case rel => exact ⟨(x3_2),(wrap64 (x25_2 + 1)),(by first | rfl | (simp;done) | (simp [*];done)),H',⟨by have:=HK1.out;have:=HK2.out;omega⟩,⟨by (with_reducible repeat (first | apply Kd.S_alloc | apply Kd.S_drewN | apply Kd.S_drew));exact HO_3.out⟩,⟨by (with_reducible repeat (first | apply Kd.R_alloc | apply Kd.R_drewN | apply Kd.R_drew));exact HO_14.out⟩,⟨by repeat (first | (with_reducible first | exact HB.out | apply below_alloc | apply pw_below_drewN | apply below_drew1) | exact HB.out)⟩⟩
                    ·rw [if_neg c34] at H
                     have c34b0 : ((rd (rd_L3 x3_2 (rd (rd_L3 l0 (rd t309 x16_1)) x25_2)) (ji31)) == (rd t309 x16_1)) = false:=beq_eq_false_iff_ne.mpr c34
                     have c34b1 : ((rd (rd_L3 x3_2 (rd (rd_L3 l0 (rd t309 x16_1)) x25_2)) (ji31)) != (rd t309 x16_1)) = true:=bne_iff_ne.mpr c34
                     by_cases c36 : (rd_L3 x3_2 (rd (rd_L3 l0 (rd t309 x16_1)) x25_2)).length < 17592186044416
                     ·rw [if_pos c36] at H
                      have LMc36:=Aside0.mk c36
                      clear c36
                      obtain ⟨y324,hy324⟩ : ∃ y_ : List Int,y_ = ((rd_L3 x3_2 (rd (rd_L3 l0 (rd t309 x16_1)) x25_2)) ++ [(rd t309 x16_1)]):=⟨_,rfl⟩
                      replace H : (impl_preds.l1 k2 l0 (x3_2.set ((rd (rd_L3 l0 (rd t309 x16_1)) x25_2) : Int).toNat y324) (rd t309 x16_1) t309 (t309.length : Int) x16_1 (rd_L3 l0 (rd t309 x16_1)) ((rd_L3 l0 (rd t309 x16_1)).length : Int) (wrap64 (x25_2 + 1))) = some r:=by first | (rw [hy324];with_reducible exact H) | (have H2_:=(Option.bind_some _ _).symm.trans H;rw [hy324];with_reducible exact H2_) | (have H2_:=(Option.bind_some _ _).symm.trans H;with_reducible exact H2_) | with_reducible exact H | (rw [hy324];exact H) | exact H
                      have Ny324:=Aside0.mk hy324
                      clear hy324
                      obtain ⟨y327,hy327⟩ : ∃ y_ : List (List Int),y_ = (x3_2.set ((rd (rd_L3 l0 (rd t309 x16_1)) x25_2) : Int).toNat y324):=⟨_,rfl⟩
                      replace H : (impl_preds.l1 k2 l0 y327 (rd t309 x16_1) t309 (t309.length : Int) x16_1 (rd_L3 l0 (rd t309 x16_1)) ((rd_L3 l0 (rd t309 x16_1)).length : Int) (wrap64 (x25_2 + 1))) = some r:=by first | (rw [hy327];with_reducible exact H) | (have H2_:=(Option.bind_some _ _).symm.trans H;rw [hy327];with_reducible exact H2_) | (have H2_:=(Option.bind_some _ _).symm.trans H;with_reducible exact H2_) | with_reducible exact H | (rw [hy327];exact H) | exact H
                      have Ny327:=Aside0.mk hy327
                      clear hy327
                      have H':=Aside0.mk H
                      clear H
                      have p314 : 0 ≤ (x25_2 : Int):=of_decide_eq_true (by first | (with_reducible assumption) | assumption)
                      have q314 : x25_2 < ((rd_L3 l0 (rd t309 x16_1)).length : Int):=of_decide_eq_true (by first | (with_reducible assumption) | assumption)
                      obtain ⟨ad314,e314,hx314_0⟩:=Kd.at_int HR313_0.out x25_2 p314 q314
                      cases e314
                      replace hx314_0:=(HB.out.cell (World.block_lt_of_cell? w _ hx314_0)).trans hx314_0
                      replace p314:=eq_true p314
                      replace q314:=eq_true q314
                      obtain ⟨Ao38,co38,eo38⟩:=Kd.S_slice HO_3.out
                      subst eo38
                      have p315 : 0 ≤ ((rd (rd_L3 l0 (rd t309 x16_1)) x25_2) : Int):=of_decide_eq_true (by first | (with_reducible assumption) | assumption)
                      have q315 : (rd (rd_L3 l0 (rd t309 x16_1)) x25_2) < (x3_2.length : Int):=of_decide_eq_true (by first | (with_reducible assumption) | assumption)
                      obtain ⟨ad315,A315_0,c315_0,e315,hx315_0,hl315_0,hi315_0⟩:=at_L3 (Kd.S_reads' HO_3.out).2.2 (rd (rd_L3 l0 (rd t309 x16_1)) x25_2) p315 q315
                      cases e315
                      obtain ⟨ce315,hce315,hMe315,hcc315⟩:=Kd.S_get HO_3.out [] (rd (rd_L3 l0 (rd t309 x16_1)) x25_2) p315 (by first | exact q315 | exact of_decide_eq_true (by first | (with_reducible assumption) | assumption) | (have e_:=(Kd.S_reads' HO_3.out).1;omega))
                      obtain ⟨ve315_0,rfl,ge315_0⟩:=hMe315
                      have hv315_0:=hcc315 0 _ rfl
                      rw [Nat.add_zero,show ((Kd.slice 3 (Kd.int .i64))).sz = 1 from rfl,Nat.mul_one] at hv315_0
                      replace hv315_0:=Option.some.inj (hv315_0.symm.trans hx315_0)
                      rw [hv315_0] at ge315_0
                      have HL315_0:=Aside0.mk (show Kd.R (Kd.int .i64) 3 _ _ _ _ (rd_L3 x3_2 (rd (rd_L3 l0 (rd t309 x16_1)) x25_2)) from ge315_0)
                      clear hv315_0 ge315_0
                      have HX315_0:=Aside0.mk hx315_0
                      clear hcc315 hce315
                      have HR315_0:=Aside0.mk hi315_0
                      have HC315_0:=Aside0.mk hl315_0
                      clear hi315_0 hl315_0
                      replace p315:=eq_true p315
                      replace q315:=eq_true q315
                      have p321 : 0 ≤ ((rd (rd_L3 l0 (rd t309 x16_1)) x25_2) : Int):=of_decide_eq_true (by first | (with_reducible assumption) | assumption)
                      have q321 : (rd (rd_L3 l0 (rd t309 x16_1)) x25_2) < (x3_2.length : Int):=of_decide_eq_true (by first | (with_reducible assumption) | assumption)
                      obtain ⟨ad321,A321_0,c321_0,e321,hx321_0,hl321_0,hi321_0⟩:=at_L3 (Kd.S_reads' HO_3.out).2.2 (rd (rd_L3 l0 (rd t309 x16_1)) x25_2) p321 q321
                      obtain rfl : ad315 = ad321:=(by injection e321)
                      obtain ⟨ce321,hce321,hMe321,hcc321⟩:=Kd.S_get HO_3.out [] (rd (rd_L3 l0 (rd t309 x16_1)) x25_2) p321 (by first | exact q321 | exact of_decide_eq_true (by first | (with_reducible assumption) | assumption) | (have e_:=(Kd.S_reads' HO_3.out).1;omega))
                      obtain ⟨ve321_0,rfl,ge321_0⟩:=hMe321
                      have hv321_0:=hcc321 0 _ rfl
                      rw [Nat.add_zero,show ((Kd.slice 3 (Kd.int .i64))).sz = 1 from rfl,Nat.mul_one] at hv321_0
                      replace hv321_0:=Option.some.inj (hv321_0.symm.trans hx321_0)
                      rw [hv321_0] at ge321_0
                      have HL321_0:=Aside0.mk (show Kd.R (Kd.int .i64) 3 _ _ _ _ (rd_L3 x3_2 (rd (rd_L3 l0 (rd t309 x16_1)) x25_2)) from ge321_0)
                      clear hv321_0 ge321_0
                      have HX321_0:=Aside0.mk hx321_0
                      clear hcc321 hce321
                      have HR321_0:=Aside0.mk hi321_0
                      have HC321_0:=Aside0.mk hl321_0
                      clear hi321_0 hl321_0
                      replace p321:=eq_true p321
                      replace q321:=eq_true q321
                      have ea_:=Option.some.inj (hx315_0.symm.trans hx321_0)
                      injection ea_ with ea_ en_ ec_
                      subst ea_
                      subst ec_
                      clear en_
                      have p322 : 0 ≤ ((ji31) : Int):=of_decide_eq_true (by first | (with_reducible assumption) | assumption)
                      have q322 : (ji31) < ((rd_L3 x3_2 (rd (rd_L3 l0 (rd t309 x16_1)) x25_2)).length : Int):=of_decide_eq_true (by first | (with_reducible assumption) | assumption)
                      obtain ⟨ad322,e322,hx322_0⟩:=Kd.at_int (by repeat (first | (with_reducible exact HR321_0.out) | (with_reducible refine Kd.C_alloc ?_ _) | (with_reducible refine Kd.C_drewN ?_ _) | (with_reducible refine Kd.C_drew ?_) | exact HR321_0.out)) (ji31) p322 q322
                      cases e322
                      replace p322:=eq_true p322
                      replace q322:=eq_true q322
                      have p323 : 0 ≤ ((rd (rd_L3 l0 (rd t309 x16_1)) x25_2) : Int):=of_decide_eq_true (by first | (with_reducible assumption) | assumption)
                      have q323 : (rd (rd_L3 l0 (rd t309 x16_1)) x25_2) < (x3_2.length : Int):=of_decide_eq_true (by first | (with_reducible assumption) | assumption)
                      obtain ⟨ad323,A323_0,c323_0,e323,hx323_0,hl323_0,hi323_0⟩:=at_L3 (Kd.S_reads' HO_3.out).2.2 (rd (rd_L3 l0 (rd t309 x16_1)) x25_2) p323 q323
                      obtain rfl : ad315 = ad323:=(by injection e323)
                      obtain ⟨ce323,hce323,hMe323,hcc323⟩:=Kd.S_get HO_3.out [] (rd (rd_L3 l0 (rd t309 x16_1)) x25_2) p323 (by first | exact q323 | exact of_decide_eq_true (by first | (with_reducible assumption) | assumption) | (have e_:=(Kd.S_reads' HO_3.out).1;omega))
                      obtain ⟨ve323_0,rfl,ge323_0⟩:=hMe323
                      have hv323_0:=hcc323 0 _ rfl
                      rw [Nat.add_zero,show ((Kd.slice 3 (Kd.int .i64))).sz = 1 from rfl,Nat.mul_one] at hv323_0
                      replace hv323_0:=Option.some.inj (hv323_0.symm.trans hx323_0)
                      rw [hv323_0] at ge323_0
                      have HL323_0:=Aside0.mk (show Kd.R (Kd.int .i64) 3 _ _ _ _ (rd_L3 x3_2 (rd (rd_L3 l0 (rd t309 x16_1)) x25_2)) from ge323_0)
                      clear hv323_0 ge323_0
                      have HX323_0:=Aside0.mk hx323_0
                      clear hcc323 hce323
                      have HR323_0:=Aside0.mk hi323_0
                      have HC323_0:=Aside0.mk hl323_0
                      clear hi323_0 hl323_0
                      replace p323:=eq_true p323
                      replace q323:=eq_true q323
                      have ea_:=Option.some.inj (hx315_0.symm.trans hx323_0)
                      injection ea_ with ea_ en_ ec_
                      subst ea_
                      subst ec_
                      clear en_
                      obtain ⟨go39,co39,eo39,gb39,gl39,cl39,HG39⟩:=Kd.S_form HO_3.out (by have h_ : ((rd (rd_L3 l0 (rd t309 x16_1)) x25_2) : Int) < ((x3_2.length : Int) : Int):=of_decide_eq_true (by first | (with_reducible assumption) | assumption);have h2_ : 0 ≤ ((rd (rd_L3 l0 (rd t309 x16_1)) x25_2) : Int):=(of_decide_eq_true (by first | (with_reducible assumption) | assumption));omega)
                      (first | cases eo39 | (injection eo39 with ea_ en_ ec_;(first | subst ea_ | (injection ea_ with ea_;subst ea_));subst ec_;clear en_))
                      have GB39:=Aside0.mk gb39
                      have GG39:=Aside0.mk HG39
                      clear gb39 gl39 HG39
                      (first | simp only [add_plain] at hx315_0 | skip)
                      (first | simp only [add_plain] at hx321_0 | skip)
                      (first | simp only [add_plain] at hx323_0 | skip)
                      obtain ⟨oki39,ce39,hcl39,hM39,hcc39,_,_,hH39⟩:=Kd.S_elem HO_3.out [] ((rd (rd_L3 l0 (rd t309 x16_1)) x25_2) : Int) (of_decide_eq_true (by first | (with_reducible assumption) | assumption)) (by have h_ : ((rd (rd_L3 l0 (rd t309 x16_1)) x25_2) : Int) < ((x3_2.length : Int) : Int):=of_decide_eq_true (by first | (with_reducible assumption) | assumption);first | exact h_ | (have e_:=(Kd.S_reads' HO_3.out).1;omega) | simpa using h_)
                      obtain ⟨ve39_0,rfl,ge39_0⟩:=hM39
                      have hv39:=hcc39 0 _ rfl
                      have hX39:=HX323_0.out
                      (try simp only [add_plain] at hX39)
                      (try simp only [Nat.add_zero] at hv39)
                      (try rw [show ((Kd.slice 3 (Kd.int .i64))).sz = 1 from rfl,Nat.mul_one] at hv39)
                      replace hv39:=Option.some.inj (hv39.symm.trans hX39)
                      subst hv39
                      clear hX39 hcc39 hcl39
                      have UU39:=Aside0.mk (show Kd.R (Kd.int .i64) 3 _ w.heap.size oki39 (.slice (some ad322) (rd_L3 x3_2 (rd (rd_L3 l0 (rd t309 x16_1)) x25_2)).length c315_0) (rd_L3 x3_2 (rd (rd_L3 l0 (rd t309 x16_1)) x25_2)) from ge39_0)
                      have HH39:=Aside0.mk hH39
                      have HN39:=Aside0.mk (Kd.S_reads' HO_3.out).1
                      clear hH39 ge39_0
                      go_wp2_with (first | ((with_reducible refine gate_builtin (b:=.append) (xs:=#[.tmp 53,.tmp 55]) rfl ?_);at_builtin;refine Kd.R_append (Kd.int .i64) (w0:=w) w.heap.size rfl (.tmp 53) (.tmp 55) 37 3 (.int .i64 0) 8 rfl Try.underlying37 info3 rfl (by decide) (by omega) (.slice (some ad322) (rd_L3 x3_2 (rd (rd_L3 l0 (rd t309 x16_1)) x25_2)).length c315_0) (rd_L3 x3_2 (rd (rd_L3 l0 (rd t309 x16_1)) x25_2)) (rd t309 x16_1) [.int .i64 (rd t309 x16_1)] (fun k_ => oki39 k_ ∨ ((fun k_ => some k_ ≠ (.slice (some ad312) t309.length co11 : Value).ownBlock)) k_ ∧ wr.heap.size ≤ k_) (fun _ => False) rfl rfl ?aP (fun _ hk => hk.elim) ?aF ?aO ?aB ?aS ?aL ?_;(case aP => exact rfl);(case aB => exact (by repeat (first | (with_reducible first | exact HB.out | apply below_alloc | apply pw_below_drewN | apply below_drew1) | exact HB.out)));(case aF => exact (fun k_ hk => .inr ⟨Kd.fresh' (Kd.R_lt (by (with_reducible repeat (first | apply Kd.R_alloc | apply Kd.R_drewN | apply Kd.R_drew));exact HO_14.out)) k_ hk,hk⟩));(case aO => exact (by (with_reducible repeat (first | apply Kd.R_alloc | apply Kd.R_drewN | apply Kd.R_drew));exact Kd.R_mono UU39.out (fun _ hk => .inl hk)));(case aS => exact (below_size (by repeat (first | (with_reducible first | exact HB.out | apply below_alloc | apply pw_below_drewN | apply below_drew1) | exact HB.out))));(case aL => have:=LMc36.out;omega);intro v325 w40 ho hb hg hat;rw [← Ny324.out] at ho;have n0_:=Aside0.mk (Kd.R_grown2 (by (with_reducible repeat (first | apply Kd.R_alloc | apply Kd.R_drewN | apply Kd.R_drew));exact HO_14.out) rfl hg (fun k_ e_ => (HL323_0.out.1 k_ e_).1));have n1_:=Aside0.mk (hb);have n2_:=Aside0.mk (Kd.H_grown (Kd.H_widen (by repeat (first | exact HH39.out | refine Kd.H_alloc ?_ _ | refine Kd.H_drewN ?_ _ | refine Kd.H_drew ?_))) hg (fun k_ e_ => .inl (UU39.out.1 k_ e_)));have n3_:=Aside0.mk (ho);clear HO_14;clear HB;clear HH39;clear HO_3;clear UU39;clear HL315_0;clear HL321_0;clear HL323_0;have HO_14:=n0_;have HB:=n1_;have HH39:=n2_;have HO326:=n3_;clear n0_ n1_ n2_ n3_;clear ho hb hg hat;have p37 : 0 ≤ ((rd (rd_L3 l0 (rd t309 x16_1)) x25_2) : Int):=of_decide_eq_true (by first | (with_reducible assumption) | assumption);have q37 : ((rd (rd_L3 l0 (rd t309 x16_1)) x25_2) : Int) < ((x3_2.length : Int) : Int):=of_decide_eq_true (by first | (with_reducible assumption) | assumption);replace p37:=eq_true p37;replace q37:=eq_true q37;obtain ⟨Ao43,co43,eo43⟩:=Kd.R_slice HO326.out;subst eo43;obtain ⟨_,_,hraw41,_,_,hcc41,_⟩:=Kd.H_raw HH39.out (of_decide_eq_true (by first | (with_reducible assumption) | assumption)) (by have h_ : ((rd (rd_L3 l0 (rd t309 x16_1)) x25_2) : Int) < ((x3_2.length : Int) : Int):=of_decide_eq_true (by first | (with_reducible assumption) | assumption);first | exact h_ | (have e_:=(HN39.out);omega) | simpa using h_);obtain ⟨_,hfr41⟩:=Kd.H_at HH39.out (of_decide_eq_true (by first | (with_reducible assumption) | assumption)) (by have h_ : ((rd (rd_L3 l0 (rd t309 x16_1)) x25_2) : Int) < ((x3_2.length : Int) : Int):=of_decide_eq_true (by first | (with_reducible assumption) | assumption);first | exact h_ | (have e_:=(HN39.out);omega) | simpa using h_);have hx41_0:=hcc41 0 _ rfl;have hf41_0:=hfr41 0;(try simp only [Nat.add_zero] at hx41_0 hf41_0);(try rw [show ((Kd.slice 3 (Kd.int .i64))).sz = 1 from rfl,Nat.mul_one] at hx41_0);(try rw [show ((Kd.slice 3 (Kd.int .i64))).sz = 1 from rfl,Nat.mul_one] at hf41_0);have HP41:=Kd.S_seg0 HH39.out (of_decide_eq_true (by first | (with_reducible assumption) | assumption)) (by have h_ : ((rd (rd_L3 l0 (rd t309 x16_1)) x25_2) : Int) < ((x3_2.length : Int) : Int):=of_decide_eq_true (by first | (with_reducible assumption) | assumption);first | exact h_ | (have e_:=(HN39.out);omega) | simpa using h_) (seg:=[.slice Ao43 y324.length co43]) (j:=0) (show 1 ≤ 1 from by decide) (x':=y324) (Kd.M_row HO326.out) (fun _ hk => hk);(try simp only [show ((Kd.slice 3 (Kd.int .i64))).sz = 1 from rfl,Nat.mul_one,Nat.add_zero] at HP41);clear hcc41 hfr41) | ((with_reducible refine gate_store (t:=37) (p:=57) rfl ?_);refine store_event (t:=37) (p:=57) (v:=?vo_w42) (w1:=(w40.setCell ⟨go39,((rd (rd_L3 l0 (rd t309 x16_1)) x25_2) : Int).toNat,none⟩ (.slice Ao43 y324.length co43))) ?hg ?ho ?hn ?hr ?_;(case ho => rfl);(case hg => rfl);(case hn => rfl);(case hr => first | (go_simp;done) | (go_simp;rfl));intro w42 hw;have hg : w40.grownBy w42 (some go39):=(by rw [hw];exact HP41.2);have hp_ : Kd.S (Kd.slice 3 (Kd.int .i64)) 37 w42 w.heap.size (fun k_ => some k_ ≠ (.slice (some ad312) t309.length co11 : Value).ownBlock) (.slice (some ⟨go39,0,none⟩) x3_2.length co38) y327:=(by rw [hw,Ny327.out];exact HP41.1);clear HP41;have n0_:=Aside0.mk (Kd.R_over' (v:=(.slice (some ⟨go39,0,none⟩) x3_2.length co38)) (by (with_reducible repeat (first | apply Kd.R_alloc | apply Kd.R_drewN | apply Kd.R_drew));exact HO_14.out) (Kd.R_typed hraw41) (by decide) hg);have n1_:=Aside0.mk ((by rw [hw];exact below_set HB.out GB39.out : Below w.heap.size w w42));have n2_:=Aside0.mk (hp_);clear HO_14;clear HB;clear HO326;clear HH39;have HO_14:=n0_;have HB:=n1_;have HO_3:=n2_;clear n0_ n1_ n2_;clear hg hw hp_ hraw41))
                      go_roundg k2
                      case measure => have:=HK1.out;have:=HK2.out;omega
                      case rel => exact ⟨(y327),(wrap64 (x25_2 + 1)),(by first | rfl | (simp;done) | (simp [*];done)),H',⟨by have:=HK1.out;have:=HK2.out;omega⟩,⟨by (with_reducible repeat (first | apply Kd.S_alloc | apply Kd.S_drewN | apply Kd.S_drew));exact HO_3.out⟩,⟨by (with_reducible repeat (first | apply Kd.R_alloc | apply Kd.R_drewN | apply Kd.R_drew));exact HO_14.out⟩,⟨by repeat (first | (with_reducible first | exact HB.out | apply below_alloc | apply pw_below_drewN | apply below_drew1) | exact HB.out)⟩⟩
                     ·rw [if_neg c36] at H
                      exact absurd H (by simp)
                   ·rw [if_neg c33] at H
                    exact absurd H (by simp)
                  ·rw [if_neg c32] at H
                   exact absurd H (by simp)
                ·rw [if_neg c21] at H
                 exact absurd H (by simp)
               ·rw [if_neg c20] at H
                exact absurd H (by simp)
              ·rw [if_neg c19] at H
               exact absurd H (by simp)
             ·rw [if_neg c18] at H
              exact absurd H (by simp)
            ·rw [if_neg c17] at H
             have c17b0 : decide (x25_2 < ((rd_L3 l0 (rd t309 x16_1)).length : Int)) = false:=decide_eq_false c17
             clear c17
             have H':=Aside0.mk H
             clear H
             go_wp2
             go_roundg k2
             case measure => have:=HK1.out;have:=HK2.out;omega
             case rel => exact ⟨(x3_2),(wrap64 (x16_1 + 1)),(by first | rfl | (simp;done) | (simp [*];done)),H',⟨by have:=HK1.out;have:=HK2.out;omega⟩,⟨by (with_reducible repeat (first | apply Kd.S_alloc | apply Kd.S_drewN | apply Kd.S_drew));exact HO_3.out⟩,⟨by (with_reducible repeat (first | apply Kd.R_alloc | apply Kd.R_drewN | apply Kd.R_drew));exact HO_14.out⟩,⟨by repeat (first | (with_reducible first | exact HB.out | apply below_alloc | apply pw_below_drewN | apply below_drew1) | exact HB.out)⟩⟩
         ·rw [if_neg c16] at H
          exact absurd H (by simp)
        ·rw [if_neg c15] at H
         exact absurd H (by simp)
       ·rw [if_neg c14] at H
        exact absurd H (by simp)
      ·rw [if_neg c13] at H
       exact absurd H (by simp)
     ·rw [if_neg c12] at H
      have c12b0 : decide (x16_1 < (t309.length : Int)) = false:=decide_eq_false c12
      clear c12
      obtain rfl:=Option.some.inj H
      go_wp2
      go_ret
      exact ⟨_,by first | rfl | (simp [errW_none,errW_some] <;> rfl) | (simp [*,errW_none,errW_some] <;> rfl),by (with_reducible repeat (first | apply Kd.S_alloc | apply Kd.S_drewN | apply Kd.S_drew));exact Kd.S_mono HO_3.out (fun _ hk => trivial),by repeat (first | (with_reducible first | exact HB.out | apply below_alloc | apply pw_below_drewN | apply below_drew1) | exact HB.out)⟩
  ·rw [if_neg c3] at H
   exact absurd H (by simp)
 ·rw [if_neg c2] at H
  exact absurd H (by simp)

/-! ### impl_PredsOf: function 26 (by hand: rows that are read alone are handed on, what comes back is new) -/
def impl_PredsOf.f (k : Nat) (l : List S56) : Option (List (List Int) × Bool):=(impl_GoodFlow.f k l).bind fun t => (if t = true then ((impl_nexts.f k l).bind fun a => ((impl_preds.f k a).bind fun b => some (b,true))) else some ([],false))
theorem impl_PredsOf.mono : ∀ a0 k,LeO (impl_PredsOf.f k a0) (impl_PredsOf.f (k + 1) a0):=by
 intro a0 k
 unfold impl_PredsOf.f
 repeat' first
   | (with_reducible exact impl_GoodFlow.mono _ _)
   | (with_reducible exact impl_nexts.mono _ _)
   | (with_reducible exact impl_preds.mono _ _)
   | (with_reducible exact LeO.refl _)
   | (with_reducible exact LeO.none _)
   | (with_reducible refine LeO.ite ?_ ?_)
   | (with_reducible refine LeO.bind ?_ (fun _ => ?_))
set_option maxHeartbeats 8000000 in
set_option maxRecDepth 100000 in
theorem impl_PredsOf.calls (k : Nat) (A0 : Option Addr) (c0 : Nat) (l0 : List S56) (r1 : List (List Int)) (r2 : Bool) (w : World) (hr0 : Kd.C k56 w A0 l0.length l0) (hc0 : l0.length ≤ c0) (h : impl_PredsOf.f k l0 = some (r1,r2)) :
  Calls Try.prog 26 #[.slice A0 l0.length c0] w fun e w' => ∃ v0_ : Value,e = .returned (.tuple #[v0_,.bool r2]) ∧ Kd.S (Kd.slice 3 (Kd.int .i64)) 37 w' w.heap.size (fun _ => True) v0_ r1 ∧ Below w.heap.size w w':=by
 have HR0:=Aside0.mk hr0
 have HC0:=Aside0.mk hc0
 have HB:=Aside0.mk (Below.refl w.heap.size w)
 clear hr0 hc0
 unfold impl_PredsOf.f at h
 obtain ⟨t,A1,H⟩:=Option.bind_eq_some_iff.mp h
 have A:=Aside0.mk A1
 clear h A1
 cases t with
 | false =>
  rw [if_neg (by decide)] at H
  simp only [Option.some.injEq,Prod.mk.injEq] at H
  obtain ⟨rfl,rfl⟩:=H
  go_enter Try.func26,Try.ntmps26
  go_wp2_with (first | (go_at_call 12;(refine (impl_GoodFlow.calls k _ _ l0 false _ HR0.out HC0.out A.out).mono ?_);rintro e w2 ⟨rfl,hb⟩;have HB2:=Aside0.mk hb;clear hb))
  go_ret2
  exact ⟨_,rfl,Kd.S_nil _ _ _ _ _,HB2.out⟩
 | true =>
  rw [if_pos rfl] at H
  obtain ⟨a,D1,H⟩:=Option.bind_eq_some_iff.mp H
  obtain ⟨b,E1,H⟩:=Option.bind_eq_some_iff.mp H
  simp only [Option.some.injEq,Prod.mk.injEq] at H
  obtain ⟨rfl,rfl⟩:=H
  have D:=Aside0.mk D1
  have E:=Aside0.mk E1
  clear D1 E1
  go_enter Try.func26,Try.ntmps26
  go_wp2_with (first | (go_at_call 12;(refine (impl_GoodFlow.calls k _ _ l0 true _ HR0.out HC0.out A.out).mono ?_);rintro e w2 ⟨rfl,hb⟩;have HB2:=Aside0.mk hb;clear hb) | (go_at_call 47;(refine (impl_nexts.calls k (fun k_ => k_ < w.heap.size) _ _ l0 a _ (Kd.V_mk HC0.out (Kd.F_below (Kd.C_F k56_heap HR0.out) HB2.out)) D.out).mono ?_);rintro e w3 ⟨v3,rfl,ho,hb⟩;obtain ⟨A3,c3,e3⟩:=Kd.N_slice ho;subst e3;have HN:=Aside0.mk (Kd.N_reads' ho);have HB3:=Aside0.mk (below_step HB2.out hb);clear ho hb) | (go_at_call 53;(refine (impl_preds.calls k A3 c3 a b _ HN.out.2.2 HN.out.2.1 E.out).mono ?_);rintro e w4 ⟨v4,rfl,ho,hb⟩;obtain ⟨A4,c4,e4⟩:=Kd.S_slice ho;subst e4;have HS:=Aside0.mk (Kd.S_lower ho HB3.out.size);have HB4:=Aside0.mk (below_step HB3.out hb);clear ho hb))
  go_ret2
  exact ⟨_,rfl,HS.out,HB4.out⟩

end Go.Proofs.Ythgkhfhfahifmaa.Q
