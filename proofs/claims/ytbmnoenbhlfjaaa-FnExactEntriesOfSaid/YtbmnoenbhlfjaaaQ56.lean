-- WRITTEN BY A PROGRAM OF THIS SESSION
import Derived.Test.YtbmnoenbhlfjaaaQ0
import Derived.Test.YtbmnoenbhlfjaaaQ8
import Derived.Test.YtbmnoenbhlfjaaaQ9
import Derived.Test.YtbmnoenbhlfjaaaWMiN
namespace Go.Proofs.Ytbmnoenbhlfjaaa.Q
open Go.RowKit Go.Proofs.YtbmnoenbhlfjaaaW.PrintWords Go.Proofs.YtbmnoenbhlfjaaaW.PrintLast Go.Proofs.YtbmnoenbhlfjaaaW.PrintMore
attribute [local go_sem] max2_int min2_int max_two min_two max_three min_three max_four min_four   -- for this text's walks alone
set_option linter.unusedVariables false
set_option linter.unusedSimpArgs false

/-! ### impl_preds: function 83 -/
mutual
def impl_preds.l0 : Nat → List (List Int) → List (List Int) → List Int → Int → Int → Option ((List (List Int)))
 | 0,_,_,_,_,_ => none
 | k + 1,x0,x3,x14,x15,x16 => if x16 < x15 then (if 0 ≤ x16 then (if x16 < (x14.length : Int) then (if 0 ≤ (rd x14 x16) then (if (rd x14 x16) < (x0.length : Int) then (impl_preds.l1 k x0 x3 (rd x14 x16) x14 x15 x16 (rd_L1 x0 (rd x14 x16)) ((rd_L1 x0 (rd x14 x16)).length : Int) 0) else (none)) else (none)) else (none)) else (none)) else (some x3)
def impl_preds.l1 : Nat → List (List Int) → List (List Int) → Int → List Int → Int → Int → List Int → Int → Int → Option ((List (List Int)))
 | 0,_,_,_,_,_,_,_,_,_ => none
 | k + 1,x0,x3,x5,x14,x15,x16,x23,x24,x25 => if x25 < x24 then (if 0 ≤ x25 then (if x25 < (x23.length : Int) then (if 0 ≤ (rd x23 x25) then (if (rd x23 x25) < (x3.length : Int) then (if ((rd_L1 x3 (rd x23 x25)).length : Int) = 0 then (if (rd_L1 x3 (rd x23 x25)).length < 17592186044416 then (impl_preds.l1 k x0 (x3.set ((rd x23 x25) : Int).toNat ((rd_L1 x3 (rd x23 x25)) ++ [x5])) x5 x14 x15 x16 x23 x24 (wrap64 (x25 + 1))) else (none)) else (if 0 ≤ (wrap64 (((rd_L1 x3 (rd x23 x25)).length : Int) - 1)) then (if (wrap64 (((rd_L1 x3 (rd x23 x25)).length : Int) - 1)) < ((rd_L1 x3 (rd x23 x25)).length : Int) then (if (rd (rd_L1 x3 (rd x23 x25)) (wrap64 (((rd_L1 x3 (rd x23 x25)).length : Int) - 1))) = x5 then (impl_preds.l1 k x0 x3 x5 x14 x15 x16 x23 x24 (wrap64 (x25 + 1))) else (if (rd_L1 x3 (rd x23 x25)).length < 17592186044416 then (impl_preds.l1 k x0 (x3.set ((rd x23 x25) : Int).toNat ((rd_L1 x3 (rd x23 x25)) ++ [x5])) x5 x14 x15 x16 x23 x24 (wrap64 (x25 + 1))) else (none))) else (none)) else (none))) else (none)) else (none)) else (none)) else (none)) else (impl_preds.l0 k x0 x3 x14 x15 (wrap64 (x16 + 1)))
end
def impl_preds.f (k : Nat) (l0 : List (List Int)) : Option ((List (List Int))):=if 0 ≤ (l0.length : Int) then (if ((l0.length : Int) : Int).toNat ≤ 11728124029610 then ((impl_reach.f k l0 0 ([] : List Int)).bind fun t291 => ((impl_listOf.f k t291).bind fun t294 => (impl_preds.l0 k l0 (List.replicate ((l0.length : Int) : Int).toNat []) t294 (t294.length : Int) 0))) else (none)) else (none)
theorem impl_preds.mono_l : ∀ k,(∀ y0 y1 y2 y3 y4,LeO (impl_preds.l0 k y0 y1 y2 y3 y4) (impl_preds.l0 (k + 1) y0 y1 y2 y3 y4)) ∧ (∀ y0 y1 y2 y3 y4 y5 y6 y7 y8,LeO (impl_preds.l1 k y0 y1 y2 y3 y4 y5 y6 y7 y8) (impl_preds.l1 (k + 1) y0 y1 y2 y3 y4 y5 y6 y7 y8))
 | 0 => ⟨fun _ _ _ _ _ r h => by simp [impl_preds.l0] at h,fun _ _ _ _ _ _ _ _ _ r h => by simp [impl_preds.l1] at h⟩
 | k + 1 => by
  obtain ⟨ih0,ih1⟩:=impl_preds.mono_l k
  refine ⟨?_,?_⟩
  ·intro y0 y1 y2 y3 y4
   unfold impl_preds.l0
   repeat' first
   | (with_reducible exact ih0 _ _ _ _ _)
   | (with_reducible exact ih1 _ _ _ _ _ _ _ _ _)
   | (with_reducible exact impl_listOf.mono _ _)
   | (with_reducible exact impl_reach.mono _ _ _ _)
   | (with_reducible exact LeO.refl _)
   | (with_reducible exact LeO.none _)
   | (with_reducible refine LeO.ite ?_ ?_)
   | (with_reducible refine LeO.bind ?_ (fun _ => ?_))
   | exact ih0 _ _ _ _ _
   | exact ih1 _ _ _ _ _ _ _ _ _
   | exact impl_listOf.mono _ _
   | exact impl_reach.mono _ _ _ _
   | exact LeO.none _
   | refine LeO.ite ?_ ?_
   | refine LeO.bind ?_ (fun _ => ?_)
  ·intro y0 y1 y2 y3 y4 y5 y6 y7 y8
   unfold impl_preds.l1
   repeat' first
   | (with_reducible exact ih0 _ _ _ _ _)
   | (with_reducible exact ih1 _ _ _ _ _ _ _ _ _)
   | (with_reducible exact impl_listOf.mono _ _)
   | (with_reducible exact impl_reach.mono _ _ _ _)
   | (with_reducible exact LeO.refl _)
   | (with_reducible exact LeO.none _)
   | (with_reducible refine LeO.ite ?_ ?_)
   | (with_reducible refine LeO.bind ?_ (fun _ => ?_))
   | exact ih0 _ _ _ _ _
   | exact ih1 _ _ _ _ _ _ _ _ _
   | exact impl_listOf.mono _ _
   | exact impl_reach.mono _ _ _ _
   | exact LeO.none _
   | refine LeO.ite ?_ ?_
   | refine LeO.bind ?_ (fun _ => ?_)
theorem impl_preds.mono : ∀ a0 k,LeO (impl_preds.f k a0) (impl_preds.f (k + 1) a0):=by
 intro a0 k
 obtain ⟨ih0,ih1⟩:=impl_preds.mono_l k
 unfold impl_preds.f
 repeat' first
   | (with_reducible exact ih0 _ _ _ _ _)
   | (with_reducible exact ih1 _ _ _ _ _ _ _ _ _)
   | (with_reducible exact impl_listOf.mono _ _)
   | (with_reducible exact impl_reach.mono _ _ _ _)
   | (with_reducible exact LeO.refl _)
   | (with_reducible exact LeO.none _)
   | (with_reducible refine LeO.ite ?_ ?_)
   | (with_reducible refine LeO.bind ?_ (fun _ => ?_))
   | exact ih0 _ _ _ _ _
   | exact ih1 _ _ _ _ _ _ _ _ _
   | exact impl_listOf.mono _ _
   | exact impl_reach.mono _ _ _ _
   | exact LeO.none _
   | refine LeO.ite ?_ ?_
   | refine LeO.bind ?_ (fun _ => ?_)
set_option maxHeartbeats 8000000 in
set_option maxRecDepth 100000 in
theorem impl_preds.calls (k : Nat) (A0 : Option Addr) (c0 : Nat) (l0 : List (List Int)) (r : List (List Int)) (w : World) (hr0 : Kd.C (Kd.slice 3 (Kd.int .i64)) w A0 l0.length l0) (hc0 : l0.length ≤ c0) (h : impl_preds.f k l0 = some r) :
  Calls Try.prog 83 #[.slice A0 l0.length c0] w fun e w' => ∃ v0_ : Value,e = .returned (v0_) ∧ Kd.S (Kd.slice 3 (Kd.int .i64)) 43 w' w.heap.size (fun _ => True) v0_ r ∧ Below w.heap.size w w':=by
 have HR0:=Aside0.mk hr0
 have HC0:=Aside0.mk hc0
 clear hr0 hc0
 have HB:=Aside0.mk (Below.refl w.heap.size w)
 have H : (if 0 ≤ (l0.length : Int) then (if ((l0.length : Int) : Int).toNat ≤ 11728124029610 then ((impl_reach.f k l0 0 ([] : List Int)).bind fun t291 => ((impl_listOf.f k t291).bind fun t294 => (impl_preds.l0 k l0 (List.replicate ((l0.length : Int) : Int).toNat []) t294 (t294.length : Int) 0))) else (none)) else (none)) = some r:=h
 clear h
 by_cases c2 : 0 ≤ (l0.length : Int)
 ·rw [if_pos c2] at H
  have c2b0:=eq_true c2
  have c2b1 : decide (0 ≤ (l0.length : Int)) = true:=decide_eq_true c2
  clear c2
  by_cases c3 : ((l0.length : Int) : Int).toNat ≤ 11728124029610
  ·rw [if_pos c3] at H
   have c3b0:=eq_true c3
   have c3b1 : decide (((l0.length : Int) : Int).toNat ≤ 11728124029610) = true:=decide_eq_true c3
   clear c3
   obtain ⟨y288,hy288⟩ : ∃ y_ : List (List Int),y_ = (List.replicate ((l0.length : Int) : Int).toNat []):=⟨_,rfl⟩
   replace H : ((impl_reach.f k l0 0 ([] : List Int)).bind fun t291 => ((impl_listOf.f k t291).bind fun t294 => (impl_preds.l0 k l0 y288 t294 (t294.length : Int) 0))) = some r:=by first | (rw [hy288];with_reducible exact H) | (have H2_:=(Option.bind_some _ _).symm.trans H;rw [hy288];with_reducible exact H2_) | (have H2_:=(Option.bind_some _ _).symm.trans H;with_reducible exact H2_) | with_reducible exact H | (rw [hy288];exact H) | exact H
   have Ny288:=Aside0.mk hy288
   clear hy288
   replace H:=Option.bind_eq_some_iff.mp H
   obtain ⟨t291,A40,H⟩:=H
   replace H : ((impl_listOf.f k t291).bind fun t294 => (impl_preds.l0 k l0 y288 t294 (t294.length : Int) 0)) = some r:=H
   have A4:=Aside0.mk A40
   clear A40
   replace H:=Option.bind_eq_some_iff.mp H
   obtain ⟨t294,A50,H⟩:=H
   replace H : (impl_preds.l0 k l0 y288 t294 (t294.length : Int) 0) = some r:=H
   have A5:=Aside0.mk A50
   clear A50
   have H':=Aside0.mk H
   clear H
   go_enter Try.func83,Try.ntmps83
   go_wp2_with (first | ((with_reducible refine gate_dst (N:=11) rfl ?_);refine Kd.S_make (Kd.slice 3 (Kd.int .i64)) _ 43 rfl (N:=11) rfl 22 _ _ rfl (l0.length : Int) rfl rfl Try.underlying22 (.slice none 0 0) 24 info43 rfl (by decide) (by omega) [] (ok:=fun _ => True) (okp:=fun _ => True) ⟨_,rfl,Kd.R_nil _ _ _ _ _⟩ (fun _ hk => hk) trivial (of_decide_eq_true (by first | (with_reducible assumption) | assumption)) (Nat.le_trans (Nat.mul_le_mul_right _ (of_decide_eq_true (by first | (with_reducible assumption) | assumption) : (l0.length : Int).toNat ≤ 11728124029610)) (by omega)) (Below.refl _ _) (Nat.le_refl _) ?_;intro v289 w6 ho7 hb hg_ hnew_;clear hg_ hnew_;(first | rw [← Ny288.out] at ho7 | (simp only [Int.reduceToNat] at ho7;rw [← Ny288.out] at ho7));have n0_:=Aside0.mk (Kd.S_lower ho7 (below_size (by repeat (first | (with_reducible first | exact HB.out | apply below_alloc | apply pw_below_drewN | apply below_drew1) | exact HB.out))));have n1_:=Aside0.mk (below_step (by repeat (first | (with_reducible first | exact HB.out | apply below_alloc | apply pw_below_drewN | apply below_drew1) | exact HB.out)) hb);clear HB;have HO290:=n0_;have HB:=n1_;clear n0_ n1_;clear hb ho7) | ((with_reducible refine gate_callee (f:=90) rfl ?_);refine goesL_ (some 13) rfl rfl Try.func90 (by kernel_rfl) rfl #[.slice A0 l0.length c0,.int .i64 0,.slice none 0 0] rfl (by (try simp only [List.map_toArray,List.map_cons,List.map_nil]);first | done | rfl | (simp only [List.length_drop,List.length_take];rfl)) ?_;(refine (impl_reach.calls k _ _ l0 0 _ _ ([] : List Int) t291 _ ?side1 ?side2 ?side3 ?side4 A4.out).mono ?_);(case side1 => repeat (first | exact (Kd.C_below HR0.out HB.out) | (with_reducible refine Kd.C_alloc ?_ _) | (with_reducible refine Kd.C_drewN ?_ _) | (with_reducible refine Kd.C_drew ?_)));(case side2 => exact HC0.out);(case side3 => exact Kd.C_nil _ _);(case side4 => exact Nat.le_refl _);rintro e w8 ⟨v292,rfl,ho0,hb⟩;refine ⟨_,rfl,?_⟩;have n0_:=Aside0.mk (Kd.S_below (by (with_reducible repeat (first | apply Kd.S_alloc | apply Kd.S_drewN | apply Kd.S_drew));exact HO290.out) hb);have n1_:=Aside0.mk (Kd.R_lower ho0 (below_size (by repeat (first | (with_reducible first | exact HB.out | apply below_alloc | apply pw_below_drewN | apply below_drew1) | exact HB.out))));have n2_:=Aside0.mk (below_step (by repeat (first | (with_reducible first | exact HB.out | apply below_alloc | apply pw_below_drewN | apply below_drew1) | exact HB.out)) hb);clear HO290;clear HB;have HO290:=n0_;have HO293:=n1_;have HB:=n2_;clear n0_ n1_ n2_;(try clear hb);(try clear hb2);(try clear hk);(try clear hi);(try clear ho0);obtain ⟨Ao9,co9,eo9⟩:=Kd.R_slice HO293.out;subst eo9) | ((with_reducible refine gate_callee (f:=67) rfl ?_);refine goesL_ (some 14) rfl rfl Try.func67 (by kernel_rfl) rfl #[.slice Ao9 t291.length co9] rfl (by (try simp only [List.map_toArray,List.map_cons,List.map_nil]);first | done | rfl | (simp only [List.length_drop,List.length_take];rfl)) ?_;(with_reducible refine (impl_listOf.calls k _ _ t291 t294 _ ?side1 ?side2 A5.out).mono ?_);(case side1 => repeat (first | exact (Kd.R_reads' HO293.out).2.2 | (with_reducible refine Kd.C_alloc ?_ _) | (with_reducible refine Kd.C_drewN ?_ _) | (with_reducible refine Kd.C_drew ?_)));(case side2 => exact (Kd.R_reads' HO293.out).2.1);rintro e w10 ⟨v295,rfl,ho0,hb⟩;refine ⟨_,rfl,?_⟩;have n0_:=Aside0.mk (Kd.S_elder' (by (with_reducible repeat (first | apply Kd.S_alloc | apply Kd.S_drewN | apply Kd.S_drew));exact HO290.out) (Kd.R_base ho0) hb);have n1_:=Aside0.mk (Kd.R_below (by (with_reducible repeat (first | apply Kd.R_alloc | apply Kd.R_drewN | apply Kd.R_drew));exact HO293.out) hb);have n2_:=Aside0.mk (Kd.R_lower ho0 (below_size (by repeat (first | (with_reducible first | exact HB.out | apply below_alloc | apply pw_below_drewN | apply below_drew1) | exact HB.out))));have n3_:=Aside0.mk (below_step (by repeat (first | (with_reducible first | exact HB.out | apply below_alloc | apply pw_below_drewN | apply below_drew1) | exact HB.out)) hb);clear HO290;clear HO293;clear HB;have HO290:=n0_;have HO293:=n1_;have HO296:=n2_;have HB:=n3_;clear n0_ n1_ n2_ n3_;(try clear hb);(try clear hb2);(try clear hk);(try clear hi);(try clear ho0);obtain ⟨Ao11,co11,eo11⟩:=Kd.R_slice HO296.out;subst eo11))
   go_loopg [16] k (fun kq v16 w' => ∃ (x3_1 : List (List Int)) (x16_1 : Int),v16 = .int .i64 x16_1 ∧ Aside0 (impl_preds.l0 kq l0 x3_1 t294 (t294.length : Int) x16_1 = some r) ∧ Aside0 (kq ≤ k) ∧ Aside0 (Kd.S (Kd.slice 3 (Kd.int .i64)) 43 w' w.heap.size (fun k_ => some k_ ≠ ((.slice Ao11 t294.length co11) : Value).ownBlock) v289 x3_1) ∧ Aside0 (Kd.R (Kd.int .i64) 3 w' w.heap.size (fun _ => True) (.slice Ao11 t294.length co11) t294) ∧ Aside0 (Below w.heap.size w w'))
   case atStart => exact ⟨(y288),(0),(by first | rfl | (simp;done) | (simp [*];done)),H',⟨Nat.le_refl _⟩,⟨by (with_reducible repeat (first | apply Kd.S_alloc | apply Kd.S_drewN | apply Kd.S_drew));exact Kd.S_mono HO290.out (fun _ hk => hk.2)⟩,⟨by (with_reducible repeat (first | apply Kd.R_alloc | apply Kd.R_drewN | apply Kd.R_drew));exact HO296.out⟩,⟨by repeat (first | (with_reducible first | exact HB.out | apply below_alloc | apply pw_below_drewN | apply below_drew1) | exact HB.out)⟩⟩
   case round =>
    clear H'
    try clear c2
    try clear c2b0
    try clear c2b1
    try clear p2
    try clear c3
    try clear c3b0
    try clear c3b1
    try clear c6
    try clear c8
    try clear c9
    obtain ⟨x3_1,x16_1,rfl,HA,HK1,HO_3,HO_14,HB⟩:=hrel
    cases gk with
    | zero => exact absurd HA.out (by simp [impl_preds.l0])
    | succ k1 =>
     have H:=HA.out
     clear HA
     simp only [impl_preds.l0] at H
     by_cases c12 : x16_1 < (t294.length : Int)
     ·rw [if_pos c12] at H
      have c12b0 : decide (x16_1 < (t294.length : Int)) = true:=decide_eq_true c12
      clear c12
      by_cases c13 : 0 ≤ x16_1
      ·rw [if_pos c13] at H
       have c13b0 : decide (0 ≤ x16_1) = true:=decide_eq_true c13
       clear c13
       by_cases c14 : x16_1 < (t294.length : Int)
       ·rw [if_pos c14] at H
        have c14b0 : decide (x16_1 < (t294.length : Int)) = true:=decide_eq_true c14
        clear c14
        by_cases c15 : 0 ≤ (rd t294 x16_1)
        ·rw [if_pos c15] at H
         have c15b0 : decide (0 ≤ (rd t294 x16_1)) = true:=decide_eq_true c15
         clear c15
         by_cases c16 : (rd t294 x16_1) < (l0.length : Int)
         ·rw [if_pos c16] at H
          have c16b0 : decide ((rd t294 x16_1) < (l0.length : Int)) = true:=decide_eq_true c16
          clear c16
          have H':=Aside0.mk H
          clear H
          have p297 : 0 ≤ (x16_1 : Int):=of_decide_eq_true (by first | (with_reducible assumption) | assumption)
          have q297 : x16_1 < (t294.length : Int):=of_decide_eq_true (by first | (with_reducible assumption) | assumption)
          obtain ⟨ad297,e297,hx297_0⟩:=Kd.at_int (Kd.R_reads' HO_14.out).2.2 x16_1 p297 q297
          cases e297
          replace p297:=eq_true p297
          replace q297:=eq_true q297
          have p298 : 0 ≤ ((rd t294 x16_1) : Int):=of_decide_eq_true (by first | (with_reducible assumption) | assumption)
          have q298 : (rd t294 x16_1) < (l0.length : Int):=of_decide_eq_true (by first | (with_reducible assumption) | assumption)
          obtain ⟨ad298,A298_0,c298_0,e298,hx298_0,hl298_0,hi298_0⟩:=at_L1 HR0.out (rd t294 x16_1) p298 q298
          cases e298
          replace hx298_0:=(HB.out.cell (World.block_lt_of_cell? w _ hx298_0)).trans hx298_0
          have HR298_0:=Aside0.mk hi298_0
          have HC298_0:=Aside0.mk hl298_0
          clear hi298_0 hl298_0
          replace p298:=eq_true p298
          replace q298:=eq_true q298
          go_wp2
          go_loopg [25] k1 (fun kq v25 w' => ∃ (x3_2 : List (List Int)) (x25_2 : Int),v25 = .int .i64 x25_2 ∧ Aside0 (impl_preds.l1 kq l0 x3_2 (rd t294 x16_1) t294 (t294.length : Int) x16_1 (rd_L1 l0 (rd t294 x16_1)) ((rd_L1 l0 (rd t294 x16_1)).length : Int) x25_2 = some r) ∧ Aside0 (kq ≤ k1) ∧ Aside0 (Kd.S (Kd.slice 3 (Kd.int .i64)) 43 w' w.heap.size (fun k_ => some k_ ≠ ((.slice (some ad297) t294.length co11) : Value).ownBlock) v289 x3_2) ∧ Aside0 (Kd.R (Kd.int .i64) 3 w' w.heap.size (fun _ => True) (.slice (some ad297) t294.length co11) t294) ∧ Aside0 (Below w.heap.size w w'))
          case atStart => exact ⟨(x3_1),(0),(by first | rfl | (simp;done) | (simp [*];done)),H',⟨Nat.le_refl _⟩,⟨by (with_reducible repeat (first | apply Kd.S_alloc | apply Kd.S_drewN | apply Kd.S_drew));exact HO_3.out⟩,⟨by (with_reducible repeat (first | apply Kd.R_alloc | apply Kd.R_drewN | apply Kd.R_drew));exact HO_14.out⟩,⟨by repeat (first | (with_reducible first | exact HB.out | apply below_alloc | apply pw_below_drewN | apply below_drew1) | exact HB.out)⟩⟩
          case round =>
           clear H'
           try clear c1
           try clear c2
           try clear c2b0
           try clear c2b1
           try clear p2
           try clear q2
           try clear hx2
           try clear c3
           try clear c3b0
           try clear c3b1
           try clear c6
           try clear c8
           try clear c9
           try clear c12
           try clear c12b0
           try clear c13
           try clear c13b0
           try clear c14
           try clear c14b0
           try clear c15
           try clear c15b0
           try clear c16
           try clear c16b0
           try clear hx297_0
           try clear hx298_0
           try clear p2
           try clear p297
           try clear p298
           try clear q297
           try clear q298
           obtain ⟨x3_2,x25_2,rfl,HA,HK2,HO_3,HO_14,HB⟩:=hrel
           cases gk with
           | zero => exact absurd HA.out (by simp [impl_preds.l1])
           | succ k2 =>
            have H:=HA.out
            clear HA
            simp only [impl_preds.l1] at H
            by_cases c17 : x25_2 < ((rd_L1 l0 (rd t294 x16_1)).length : Int)
            ·rw [if_pos c17] at H
             have c17b0 : decide (x25_2 < ((rd_L1 l0 (rd t294 x16_1)).length : Int)) = true:=decide_eq_true c17
             clear c17
             by_cases c18 : 0 ≤ x25_2
             ·rw [if_pos c18] at H
              have c18b0 : decide (0 ≤ x25_2) = true:=decide_eq_true c18
              clear c18
              by_cases c19 : x25_2 < ((rd_L1 l0 (rd t294 x16_1)).length : Int)
              ·rw [if_pos c19] at H
               have c19b0 : decide (x25_2 < ((rd_L1 l0 (rd t294 x16_1)).length : Int)) = true:=decide_eq_true c19
               clear c19
               by_cases c20 : 0 ≤ (rd (rd_L1 l0 (rd t294 x16_1)) x25_2)
               ·rw [if_pos c20] at H
                have c20b0 : decide (0 ≤ (rd (rd_L1 l0 (rd t294 x16_1)) x25_2)) = true:=decide_eq_true c20
                clear c20
                by_cases c21 : (rd (rd_L1 l0 (rd t294 x16_1)) x25_2) < (x3_2.length : Int)
                ·rw [if_pos c21] at H
                 have c21b0 : decide ((rd (rd_L1 l0 (rd t294 x16_1)) x25_2) < (x3_2.length : Int)) = true:=decide_eq_true c21
                 clear c21
                 by_cases c22 : ((rd_L1 x3_2 (rd (rd_L1 l0 (rd t294 x16_1)) x25_2)).length : Int) = 0
                 ·rw [if_pos c22] at H
                  have c22b0 : (((rd_L1 x3_2 (rd (rd_L1 l0 (rd t294 x16_1)) x25_2)).length : Int) == 0) = true:=beq_iff_eq.mpr c22
                  have c22b1 : (((rd_L1 x3_2 (rd (rd_L1 l0 (rd t294 x16_1)) x25_2)).length : Int) != 0) = false:=bne_eq_false_iff_eq.mpr c22
                  clear c22
                  by_cases c23 : (rd_L1 x3_2 (rd (rd_L1 l0 (rd t294 x16_1)) x25_2)).length < 17592186044416
                  ·rw [if_pos c23] at H
                   have LMc23:=Aside0.mk c23
                   clear c23
                   obtain ⟨y302,hy302⟩ : ∃ y_ : List Int,y_ = ((rd_L1 x3_2 (rd (rd_L1 l0 (rd t294 x16_1)) x25_2)) ++ [(rd t294 x16_1)]):=⟨_,rfl⟩
                   replace H : (impl_preds.l1 k2 l0 (x3_2.set ((rd (rd_L1 l0 (rd t294 x16_1)) x25_2) : Int).toNat y302) (rd t294 x16_1) t294 (t294.length : Int) x16_1 (rd_L1 l0 (rd t294 x16_1)) ((rd_L1 l0 (rd t294 x16_1)).length : Int) (wrap64 (x25_2 + 1))) = some r:=by first | (rw [hy302];with_reducible exact H) | (have H2_:=(Option.bind_some _ _).symm.trans H;rw [hy302];with_reducible exact H2_) | (have H2_:=(Option.bind_some _ _).symm.trans H;with_reducible exact H2_) | with_reducible exact H | (rw [hy302];exact H) | exact H
                   have Ny302:=Aside0.mk hy302
                   clear hy302
                   obtain ⟨y305,hy305⟩ : ∃ y_ : List (List Int),y_ = (x3_2.set ((rd (rd_L1 l0 (rd t294 x16_1)) x25_2) : Int).toNat y302):=⟨_,rfl⟩
                   replace H : (impl_preds.l1 k2 l0 y305 (rd t294 x16_1) t294 (t294.length : Int) x16_1 (rd_L1 l0 (rd t294 x16_1)) ((rd_L1 l0 (rd t294 x16_1)).length : Int) (wrap64 (x25_2 + 1))) = some r:=by first | (rw [hy305];with_reducible exact H) | (have H2_:=(Option.bind_some _ _).symm.trans H;rw [hy305];with_reducible exact H2_) | (have H2_:=(Option.bind_some _ _).symm.trans H;with_reducible exact H2_) | with_reducible exact H | (rw [hy305];exact H) | exact H
                   have Ny305:=Aside0.mk hy305
                   clear hy305
                   have H':=Aside0.mk H
                   clear H
                   have p299 : 0 ≤ (x25_2 : Int):=of_decide_eq_true (by first | (with_reducible assumption) | assumption)
                   have q299 : x25_2 < ((rd_L1 l0 (rd t294 x16_1)).length : Int):=of_decide_eq_true (by first | (with_reducible assumption) | assumption)
                   obtain ⟨ad299,e299,hx299_0⟩:=Kd.at_int HR298_0.out x25_2 p299 q299
                   cases e299
                   replace hx299_0:=(HB.out.cell (World.block_lt_of_cell? w _ hx299_0)).trans hx299_0
                   replace p299:=eq_true p299
                   replace q299:=eq_true q299
                   obtain ⟨Ao25,co25,eo25⟩:=Kd.S_slice HO_3.out
                   subst eo25
                   have p300 : 0 ≤ ((rd (rd_L1 l0 (rd t294 x16_1)) x25_2) : Int):=of_decide_eq_true (by first | (with_reducible assumption) | assumption)
                   have q300 : (rd (rd_L1 l0 (rd t294 x16_1)) x25_2) < (x3_2.length : Int):=of_decide_eq_true (by first | (with_reducible assumption) | assumption)
                   obtain ⟨ad300,A300_0,c300_0,e300,hx300_0,hl300_0,hi300_0⟩:=at_L1 (Kd.S_reads' HO_3.out).2.2 (rd (rd_L1 l0 (rd t294 x16_1)) x25_2) p300 q300
                   cases e300
                   obtain ⟨ce300,hce300,hMe300,hcc300⟩:=Kd.S_get HO_3.out [] (rd (rd_L1 l0 (rd t294 x16_1)) x25_2) p300 (by first | exact q300 | exact of_decide_eq_true (by first | (with_reducible assumption) | assumption) | (have e_:=(Kd.S_reads' HO_3.out).1;omega))
                   obtain ⟨ve300_0,rfl,ge300_0⟩:=hMe300
                   have hv300_0:=hcc300 0 _ rfl
                   rw [Nat.add_zero,show ((Kd.slice 3 (Kd.int .i64))).sz = 1 from rfl,Nat.mul_one] at hv300_0
                   replace hv300_0:=Option.some.inj (hv300_0.symm.trans hx300_0)
                   rw [hv300_0] at ge300_0
                   have HL300_0:=Aside0.mk (show Kd.R (Kd.int .i64) 3 _ _ _ _ (rd_L1 x3_2 (rd (rd_L1 l0 (rd t294 x16_1)) x25_2)) from ge300_0)
                   clear hv300_0 ge300_0
                   have HX300_0:=Aside0.mk hx300_0
                   clear hcc300 hce300
                   have HR300_0:=Aside0.mk hi300_0
                   have HC300_0:=Aside0.mk hl300_0
                   clear hi300_0 hl300_0
                   replace p300:=eq_true p300
                   replace q300:=eq_true q300
                   have p301 : 0 ≤ ((rd (rd_L1 l0 (rd t294 x16_1)) x25_2) : Int):=of_decide_eq_true (by first | (with_reducible assumption) | assumption)
                   have q301 : (rd (rd_L1 l0 (rd t294 x16_1)) x25_2) < (x3_2.length : Int):=of_decide_eq_true (by first | (with_reducible assumption) | assumption)
                   obtain ⟨ad301,A301_0,c301_0,e301,hx301_0,hl301_0,hi301_0⟩:=at_L1 (Kd.S_reads' HO_3.out).2.2 (rd (rd_L1 l0 (rd t294 x16_1)) x25_2) p301 q301
                   obtain rfl : ad300 = ad301:=(by injection e301)
                   obtain ⟨ce301,hce301,hMe301,hcc301⟩:=Kd.S_get HO_3.out [] (rd (rd_L1 l0 (rd t294 x16_1)) x25_2) p301 (by first | exact q301 | exact of_decide_eq_true (by first | (with_reducible assumption) | assumption) | (have e_:=(Kd.S_reads' HO_3.out).1;omega))
                   obtain ⟨ve301_0,rfl,ge301_0⟩:=hMe301
                   have hv301_0:=hcc301 0 _ rfl
                   rw [Nat.add_zero,show ((Kd.slice 3 (Kd.int .i64))).sz = 1 from rfl,Nat.mul_one] at hv301_0
                   replace hv301_0:=Option.some.inj (hv301_0.symm.trans hx301_0)
                   rw [hv301_0] at ge301_0
                   have HL301_0:=Aside0.mk (show Kd.R (Kd.int .i64) 3 _ _ _ _ (rd_L1 x3_2 (rd (rd_L1 l0 (rd t294 x16_1)) x25_2)) from ge301_0)
                   clear hv301_0 ge301_0
                   have HX301_0:=Aside0.mk hx301_0
                   clear hcc301 hce301
                   have HR301_0:=Aside0.mk hi301_0
                   have HC301_0:=Aside0.mk hl301_0
                   clear hi301_0 hl301_0
                   replace p301:=eq_true p301
                   replace q301:=eq_true q301
                   have ea_:=Option.some.inj (hx300_0.symm.trans hx301_0)
                   injection ea_ with ea_ en_ ec_
                   subst ea_
                   subst ec_
                   clear en_
                   obtain ⟨go26,co26,eo26,gb26,gl26,cl26,HG26⟩:=Kd.S_form HO_3.out (by have h_ : ((rd (rd_L1 l0 (rd t294 x16_1)) x25_2) : Int) < ((x3_2.length : Int) : Int):=of_decide_eq_true (by first | (with_reducible assumption) | assumption);have h2_ : 0 ≤ ((rd (rd_L1 l0 (rd t294 x16_1)) x25_2) : Int):=(of_decide_eq_true (by first | (with_reducible assumption) | assumption));omega)
                   (first | cases eo26 | (injection eo26 with ea_ en_ ec_;(first | subst ea_ | (injection ea_ with ea_;subst ea_));subst ec_;clear en_))
                   have GB26:=Aside0.mk gb26
                   have GG26:=Aside0.mk HG26
                   clear gb26 gl26 HG26
                   (first | simp only [add_plain] at hx300_0 | skip)
                   (first | simp only [add_plain] at hx301_0 | skip)
                   obtain ⟨oki26,ce26,hcl26,hM26,hcc26,_,_,hH26⟩:=Kd.S_elem HO_3.out [] ((rd (rd_L1 l0 (rd t294 x16_1)) x25_2) : Int) (of_decide_eq_true (by first | (with_reducible assumption) | assumption)) (by have h_ : ((rd (rd_L1 l0 (rd t294 x16_1)) x25_2) : Int) < ((x3_2.length : Int) : Int):=of_decide_eq_true (by first | (with_reducible assumption) | assumption);first | exact h_ | (have e_:=(Kd.S_reads' HO_3.out).1;omega) | simpa using h_)
                   obtain ⟨ve26_0,rfl,ge26_0⟩:=hM26
                   have hv26:=hcc26 0 _ rfl
                   have hX26:=HX301_0.out
                   (try simp only [add_plain] at hX26)
                   (try simp only [Nat.add_zero] at hv26)
                   (try rw [show ((Kd.slice 3 (Kd.int .i64))).sz = 1 from rfl,Nat.mul_one] at hv26)
                   replace hv26:=Option.some.inj (hv26.symm.trans hX26)
                   subst hv26
                   clear hX26 hcc26 hcl26
                   have UU26:=Aside0.mk (show Kd.R (Kd.int .i64) 3 _ w.heap.size oki26 (.slice A300_0 (rd_L1 x3_2 (rd (rd_L1 l0 (rd t294 x16_1)) x25_2)).length c300_0) (rd_L1 x3_2 (rd (rd_L1 l0 (rd t294 x16_1)) x25_2)) from ge26_0)
                   have HH26:=Aside0.mk hH26
                   have HN26:=Aside0.mk (Kd.S_reads' HO_3.out).1
                   clear hH26 ge26_0
                   go_wp2_with (first | ((with_reducible refine gate_builtin (b:=.append) (xs:=#[.tmp 53,.tmp 55]) rfl ?_);at_builtin;refine Kd.R_append (Kd.int .i64) (w0:=w) w.heap.size rfl (.tmp 53) (.tmp 55) 43 3 (.int .i64 0) 8 rfl Try.underlying43 info3 rfl (by decide) (by omega) (.slice A300_0 (rd_L1 x3_2 (rd (rd_L1 l0 (rd t294 x16_1)) x25_2)).length c300_0) (rd_L1 x3_2 (rd (rd_L1 l0 (rd t294 x16_1)) x25_2)) (rd t294 x16_1) [.int .i64 (rd t294 x16_1)] (fun k_ => oki26 k_ ∨ ((fun k_ => some k_ ≠ (.slice (some ad297) t294.length co11 : Value).ownBlock)) k_ ∧ wr.heap.size ≤ k_) (fun _ => False) rfl rfl ?aP (fun _ hk => hk.elim) ?aF ?aO ?aB ?aS ?aL ?_;(case aP => exact rfl);(case aB => exact (by repeat (first | (with_reducible first | exact HB.out | apply below_alloc | apply pw_below_drewN | apply below_drew1) | exact HB.out)));(case aF => exact (fun k_ hk => .inr ⟨Kd.fresh' (Kd.R_lt (by (with_reducible repeat (first | apply Kd.R_alloc | apply Kd.R_drewN | apply Kd.R_drew));exact HO_14.out)) k_ hk,hk⟩));(case aO => exact (by (with_reducible repeat (first | apply Kd.R_alloc | apply Kd.R_drewN | apply Kd.R_drew));exact Kd.R_mono UU26.out (fun _ hk => .inl hk)));(case aS => exact (below_size (by repeat (first | (with_reducible first | exact HB.out | apply below_alloc | apply pw_below_drewN | apply below_drew1) | exact HB.out))));(case aL => have:=LMc23.out;omega);intro v303 w27 ho hb hg hat;rw [← Ny302.out] at ho;have n0_:=Aside0.mk (Kd.R_grown2 (by (with_reducible repeat (first | apply Kd.R_alloc | apply Kd.R_drewN | apply Kd.R_drew));exact HO_14.out) rfl hg (fun k_ e_ => (HL301_0.out.1 k_ e_).1));have n1_:=Aside0.mk (hb);have n2_:=Aside0.mk (Kd.H_grown (Kd.H_widen (by repeat (first | exact HH26.out | refine Kd.H_alloc ?_ _ | refine Kd.H_drewN ?_ _ | refine Kd.H_drew ?_))) hg (fun k_ e_ => .inl (UU26.out.1 k_ e_)));have n3_:=Aside0.mk (ho);clear HO_14;clear HB;clear HH26;clear HO_3;clear UU26;clear HL300_0;clear HL301_0;have HO_14:=n0_;have HB:=n1_;have HH26:=n2_;have HO304:=n3_;clear n0_ n1_ n2_ n3_;clear ho hb hg hat;have p24 : 0 ≤ ((rd (rd_L1 l0 (rd t294 x16_1)) x25_2) : Int):=of_decide_eq_true (by first | (with_reducible assumption) | assumption);have q24 : ((rd (rd_L1 l0 (rd t294 x16_1)) x25_2) : Int) < ((x3_2.length : Int) : Int):=of_decide_eq_true (by first | (with_reducible assumption) | assumption);replace p24:=eq_true p24;replace q24:=eq_true q24;obtain ⟨Ao30,co30,eo30⟩:=Kd.R_slice HO304.out;subst eo30;obtain ⟨_,_,hraw28,_,_,hcc28,_⟩:=Kd.H_raw HH26.out (of_decide_eq_true (by first | (with_reducible assumption) | assumption)) (by have h_ : ((rd (rd_L1 l0 (rd t294 x16_1)) x25_2) : Int) < ((x3_2.length : Int) : Int):=of_decide_eq_true (by first | (with_reducible assumption) | assumption);first | exact h_ | (have e_:=(HN26.out);omega) | simpa using h_);obtain ⟨_,hfr28⟩:=Kd.H_at HH26.out (of_decide_eq_true (by first | (with_reducible assumption) | assumption)) (by have h_ : ((rd (rd_L1 l0 (rd t294 x16_1)) x25_2) : Int) < ((x3_2.length : Int) : Int):=of_decide_eq_true (by first | (with_reducible assumption) | assumption);first | exact h_ | (have e_:=(HN26.out);omega) | simpa using h_);have hx28_0:=hcc28 0 _ rfl;have hf28_0:=hfr28 0;(try simp only [Nat.add_zero] at hx28_0 hf28_0);(try rw [show ((Kd.slice 3 (Kd.int .i64))).sz = 1 from rfl,Nat.mul_one] at hx28_0);(try rw [show ((Kd.slice 3 (Kd.int .i64))).sz = 1 from rfl,Nat.mul_one] at hf28_0);have HP28:=Kd.S_seg0 HH26.out (of_decide_eq_true (by first | (with_reducible assumption) | assumption)) (by have h_ : ((rd (rd_L1 l0 (rd t294 x16_1)) x25_2) : Int) < ((x3_2.length : Int) : Int):=of_decide_eq_true (by first | (with_reducible assumption) | assumption);first | exact h_ | (have e_:=(HN26.out);omega) | simpa using h_) (seg:=[.slice Ao30 y302.length co30]) (j:=0) (show 1 ≤ 1 from by decide) (x':=y302) (Kd.M_row HO304.out) (fun _ hk => hk);(try simp only [show ((Kd.slice 3 (Kd.int .i64))).sz = 1 from rfl,Nat.mul_one,Nat.add_zero] at HP28);clear hcc28 hfr28) | ((with_reducible refine gate_store (t:=43) (p:=57) rfl ?_);refine store_event (t:=43) (p:=57) (v:=?vo_w29) (w1:=(w27.setCell ⟨go26,((rd (rd_L1 l0 (rd t294 x16_1)) x25_2) : Int).toNat,none⟩ (.slice Ao30 y302.length co30))) ?hg ?ho ?hn ?hr ?_;(case ho => rfl);(case hg => rfl);(case hn => rfl);(case hr => first | (go_simp;done) | (go_simp;rfl));intro w29 hw;have hg : w27.grownBy w29 (some go26):=(by rw [hw];exact HP28.2);have hp_ : Kd.S (Kd.slice 3 (Kd.int .i64)) 43 w29 w.heap.size (fun k_ => some k_ ≠ (.slice (some ad297) t294.length co11 : Value).ownBlock) (.slice (some ⟨go26,0,none⟩) x3_2.length co25) y305:=(by rw [hw,Ny305.out];exact HP28.1);clear HP28;have n0_:=Aside0.mk (Kd.R_over' (v:=(.slice (some ⟨go26,0,none⟩) x3_2.length co25)) (by (with_reducible repeat (first | apply Kd.R_alloc | apply Kd.R_drewN | apply Kd.R_drew));exact HO_14.out) (Kd.R_typed hraw28) (by decide) hg);have n1_:=Aside0.mk ((by rw [hw];exact below_set HB.out GB26.out : Below w.heap.size w w29));have n2_:=Aside0.mk (hp_);clear HO_14;clear HB;clear HO304;clear HH26;have HO_14:=n0_;have HB:=n1_;have HO_3:=n2_;clear n0_ n1_ n2_;clear hg hw hp_ hraw28))
                   go_roundg k2
                   case measure => have:=HK1.out;have:=HK2.out;omega
                   case rel => exact ⟨(y305),(wrap64 (x25_2 + 1)),(by first | rfl | (simp;done) | (simp [*];done)),H',⟨by have:=HK1.out;have:=HK2.out;omega⟩,⟨by (with_reducible repeat (first | apply Kd.S_alloc | apply Kd.S_drewN | apply Kd.S_drew));exact HO_3.out⟩,⟨by (with_reducible repeat (first | apply Kd.R_alloc | apply Kd.R_drewN | apply Kd.R_drew));exact HO_14.out⟩,⟨by repeat (first | (with_reducible first | exact HB.out | apply below_alloc | apply pw_below_drewN | apply below_drew1) | exact HB.out)⟩⟩
                  ·rw [if_neg c23] at H
                   exact absurd H (by simp)
                 ·rw [if_neg c22] at H
                  have c22b0 : (((rd_L1 x3_2 (rd (rd_L1 l0 (rd t294 x16_1)) x25_2)).length : Int) == 0) = false:=beq_eq_false_iff_ne.mpr c22
                  have c22b1 : (((rd_L1 x3_2 (rd (rd_L1 l0 (rd t294 x16_1)) x25_2)).length : Int) != 0) = true:=bne_iff_ne.mpr c22
                  have c22b2 : ¬ ((rd_L1 x3_2 (rd (rd_L1 l0 (rd t294 x16_1)) x25_2)) = []):=fun h_ => c22 (by rw [h_];rfl)
                  obtain ⟨ji31,hji31⟩ : ∃ j_ : Int,(wrap64 (((rd_L1 x3_2 (rd (rd_L1 l0 (rd t294 x16_1)) x25_2)).length : Int) - 1)) = j_:=⟨_,rfl⟩
                  replace H : (if 0 ≤ (ji31) then (if (ji31) < ((rd_L1 x3_2 (rd (rd_L1 l0 (rd t294 x16_1)) x25_2)).length : Int) then (if (rd (rd_L1 x3_2 (rd (rd_L1 l0 (rd t294 x16_1)) x25_2)) (ji31)) = (rd t294 x16_1) then (impl_preds.l1 k2 l0 x3_2 (rd t294 x16_1) t294 (t294.length : Int) x16_1 (rd_L1 l0 (rd t294 x16_1)) ((rd_L1 l0 (rd t294 x16_1)).length : Int) (wrap64 (x25_2 + 1))) else (if (rd_L1 x3_2 (rd (rd_L1 l0 (rd t294 x16_1)) x25_2)).length < 17592186044416 then (impl_preds.l1 k2 l0 (x3_2.set ((rd (rd_L1 l0 (rd t294 x16_1)) x25_2) : Int).toNat ((rd_L1 x3_2 (rd (rd_L1 l0 (rd t294 x16_1)) x25_2)) ++ [(rd t294 x16_1)])) (rd t294 x16_1) t294 (t294.length : Int) x16_1 (rd_L1 l0 (rd t294 x16_1)) ((rd_L1 l0 (rd t294 x16_1)).length : Int) (wrap64 (x25_2 + 1))) else (none))) else (none)) else (none)) = some r:=by first | (rw [hji31] at H;exact H) | (simp only [hji31] at H ⊢;exact H)
                  have hji31w : (IntKind.i64.wrap (((rd_L1 x3_2 (rd (rd_L1 l0 (rd t294 x16_1)) x25_2)).length : Int) - 1)) = ji31:=(i64_w _).trans hji31
                  by_cases c32 : 0 ≤ (ji31)
                  ·rw [if_pos c32] at H
                   have c32b0 : decide (0 ≤ (ji31)) = true:=decide_eq_true c32
                   clear c32
                   by_cases c33 : (ji31) < ((rd_L1 x3_2 (rd (rd_L1 l0 (rd t294 x16_1)) x25_2)).length : Int)
                   ·rw [if_pos c33] at H
                    have c33b0 : decide ((ji31) < ((rd_L1 x3_2 (rd (rd_L1 l0 (rd t294 x16_1)) x25_2)).length : Int)) = true:=decide_eq_true c33
                    clear c33
                    by_cases c34 : (rd (rd_L1 x3_2 (rd (rd_L1 l0 (rd t294 x16_1)) x25_2)) (ji31)) = (rd t294 x16_1)
                    ·rw [if_pos c34] at H
                     have c34b0 : ((rd (rd_L1 x3_2 (rd (rd_L1 l0 (rd t294 x16_1)) x25_2)) (ji31)) == (rd t294 x16_1)) = true:=beq_iff_eq.mpr c34
                     have c34b1 : ((rd (rd_L1 x3_2 (rd (rd_L1 l0 (rd t294 x16_1)) x25_2)) (ji31)) != (rd t294 x16_1)) = false:=bne_eq_false_iff_eq.mpr c34
                     clear c34
                     have H':=Aside0.mk H
                     clear H
                     have p299 : 0 ≤ (x25_2 : Int):=of_decide_eq_true (by first | (with_reducible assumption) | assumption)
                     have q299 : x25_2 < ((rd_L1 l0 (rd t294 x16_1)).length : Int):=of_decide_eq_true (by first | (with_reducible assumption) | assumption)
                     obtain ⟨ad299,e299,hx299_0⟩:=Kd.at_int HR298_0.out x25_2 p299 q299
                     cases e299
                     replace hx299_0:=(HB.out.cell (World.block_lt_of_cell? w _ hx299_0)).trans hx299_0
                     replace p299:=eq_true p299
                     replace q299:=eq_true q299
                     obtain ⟨Ao35,co35,eo35⟩:=Kd.S_slice HO_3.out
                     subst eo35
                     have p300 : 0 ≤ ((rd (rd_L1 l0 (rd t294 x16_1)) x25_2) : Int):=of_decide_eq_true (by first | (with_reducible assumption) | assumption)
                     have q300 : (rd (rd_L1 l0 (rd t294 x16_1)) x25_2) < (x3_2.length : Int):=of_decide_eq_true (by first | (with_reducible assumption) | assumption)
                     obtain ⟨ad300,A300_0,c300_0,e300,hx300_0,hl300_0,hi300_0⟩:=at_L1 (Kd.S_reads' HO_3.out).2.2 (rd (rd_L1 l0 (rd t294 x16_1)) x25_2) p300 q300
                     cases e300
                     obtain ⟨ce300,hce300,hMe300,hcc300⟩:=Kd.S_get HO_3.out [] (rd (rd_L1 l0 (rd t294 x16_1)) x25_2) p300 (by first | exact q300 | exact of_decide_eq_true (by first | (with_reducible assumption) | assumption) | (have e_:=(Kd.S_reads' HO_3.out).1;omega))
                     obtain ⟨ve300_0,rfl,ge300_0⟩:=hMe300
                     have hv300_0:=hcc300 0 _ rfl
                     rw [Nat.add_zero,show ((Kd.slice 3 (Kd.int .i64))).sz = 1 from rfl,Nat.mul_one] at hv300_0
                     replace hv300_0:=Option.some.inj (hv300_0.symm.trans hx300_0)
                     rw [hv300_0] at ge300_0
                     have HL300_0:=Aside0.mk (show Kd.R (Kd.int .i64) 3 _ _ _ _ (rd_L1 x3_2 (rd (rd_L1 l0 (rd t294 x16_1)) x25_2)) from ge300_0)
                     clear hv300_0 ge300_0
                     have HX300_0:=Aside0.mk hx300_0
                     clear hcc300 hce300
                     have HR300_0:=Aside0.mk hi300_0
                     have HC300_0:=Aside0.mk hl300_0
                     clear hi300_0 hl300_0
                     replace p300:=eq_true p300
                     replace q300:=eq_true q300
                     have p306 : 0 ≤ ((rd (rd_L1 l0 (rd t294 x16_1)) x25_2) : Int):=of_decide_eq_true (by first | (with_reducible assumption) | assumption)
                     have q306 : (rd (rd_L1 l0 (rd t294 x16_1)) x25_2) < (x3_2.length : Int):=of_decide_eq_true (by first | (with_reducible assumption) | assumption)
                     obtain ⟨ad306,A306_0,c306_0,e306,hx306_0,hl306_0,hi306_0⟩:=at_L1 (Kd.S_reads' HO_3.out).2.2 (rd (rd_L1 l0 (rd t294 x16_1)) x25_2) p306 q306
                     obtain rfl : ad300 = ad306:=(by injection e306)
                     obtain ⟨ce306,hce306,hMe306,hcc306⟩:=Kd.S_get HO_3.out [] (rd (rd_L1 l0 (rd t294 x16_1)) x25_2) p306 (by first | exact q306 | exact of_decide_eq_true (by first | (with_reducible assumption) | assumption) | (have e_:=(Kd.S_reads' HO_3.out).1;omega))
                     obtain ⟨ve306_0,rfl,ge306_0⟩:=hMe306
                     have hv306_0:=hcc306 0 _ rfl
                     rw [Nat.add_zero,show ((Kd.slice 3 (Kd.int .i64))).sz = 1 from rfl,Nat.mul_one] at hv306_0
                     replace hv306_0:=Option.some.inj (hv306_0.symm.trans hx306_0)
                     rw [hv306_0] at ge306_0
                     have HL306_0:=Aside0.mk (show Kd.R (Kd.int .i64) 3 _ _ _ _ (rd_L1 x3_2 (rd (rd_L1 l0 (rd t294 x16_1)) x25_2)) from ge306_0)
                     clear hv306_0 ge306_0
                     have HX306_0:=Aside0.mk hx306_0
                     clear hcc306 hce306
                     have HR306_0:=Aside0.mk hi306_0
                     have HC306_0:=Aside0.mk hl306_0
                     clear hi306_0 hl306_0
                     replace p306:=eq_true p306
                     replace q306:=eq_true q306
                     have ea_:=Option.some.inj (hx300_0.symm.trans hx306_0)
                     injection ea_ with ea_ en_ ec_
                     subst ea_
                     subst ec_
                     clear en_
                     have p307 : 0 ≤ ((ji31) : Int):=of_decide_eq_true (by first | (with_reducible assumption) | assumption)
                     have q307 : (ji31) < ((rd_L1 x3_2 (rd (rd_L1 l0 (rd t294 x16_1)) x25_2)).length : Int):=of_decide_eq_true (by first | (with_reducible assumption) | assumption)
                     obtain ⟨ad307,e307,hx307_0⟩:=Kd.at_int (by repeat (first | (with_reducible exact HR306_0.out) | (with_reducible refine Kd.C_alloc ?_ _) | (with_reducible refine Kd.C_drewN ?_ _) | (with_reducible refine Kd.C_drew ?_) | exact HR306_0.out)) (ji31) p307 q307
                     cases e307
                     replace p307:=eq_true p307
                     replace q307:=eq_true q307
                     go_wp2
                     go_roundg k2
                     case measure => have:=HK1.out;have:=HK2.out;omega
                     case rel => exact ⟨(x3_2),(wrap64 (x25_2 + 1)),(by first | rfl | (simp;done) | (simp [*];done)),H',⟨by have:=HK1.out;have:=HK2.out;omega⟩,⟨by (with_reducible repeat (first | apply Kd.S_alloc | apply Kd.S_drewN | apply Kd.S_drew));exact HO_3.out⟩,⟨by (with_reducible repeat (first | apply Kd.R_alloc | apply Kd.R_drewN | apply Kd.R_drew));exact HO_14.out⟩,⟨by repeat (first | (with_reducible first | exact HB.out | apply below_alloc | apply pw_below_drewN | apply below_drew1) | exact HB.out)⟩⟩
                    ·rw [if_neg c34] at H
                     have c34b0 : ((rd (rd_L1 x3_2 (rd (rd_L1 l0 (rd t294 x16_1)) x25_2)) (ji31)) == (rd t294 x16_1)) = false:=beq_eq_false_iff_ne.mpr c34
                     have c34b1 : ((rd (rd_L1 x3_2 (rd (rd_L1 l0 (rd t294 x16_1)) x25_2)) (ji31)) != (rd t294 x16_1)) = true:=bne_iff_ne.mpr c34
                     by_cases c36 : (rd_L1 x3_2 (rd (rd_L1 l0 (rd t294 x16_1)) x25_2)).length < 17592186044416
                     ·rw [if_pos c36] at H
                      have LMc36:=Aside0.mk c36
                      clear c36
                      obtain ⟨y309,hy309⟩ : ∃ y_ : List Int,y_ = ((rd_L1 x3_2 (rd (rd_L1 l0 (rd t294 x16_1)) x25_2)) ++ [(rd t294 x16_1)]):=⟨_,rfl⟩
                      replace H : (impl_preds.l1 k2 l0 (x3_2.set ((rd (rd_L1 l0 (rd t294 x16_1)) x25_2) : Int).toNat y309) (rd t294 x16_1) t294 (t294.length : Int) x16_1 (rd_L1 l0 (rd t294 x16_1)) ((rd_L1 l0 (rd t294 x16_1)).length : Int) (wrap64 (x25_2 + 1))) = some r:=by first | (rw [hy309];with_reducible exact H) | (have H2_:=(Option.bind_some _ _).symm.trans H;rw [hy309];with_reducible exact H2_) | (have H2_:=(Option.bind_some _ _).symm.trans H;with_reducible exact H2_) | with_reducible exact H | (rw [hy309];exact H) | exact H
                      have Ny309:=Aside0.mk hy309
                      clear hy309
                      obtain ⟨y312,hy312⟩ : ∃ y_ : List (List Int),y_ = (x3_2.set ((rd (rd_L1 l0 (rd t294 x16_1)) x25_2) : Int).toNat y309):=⟨_,rfl⟩
                      replace H : (impl_preds.l1 k2 l0 y312 (rd t294 x16_1) t294 (t294.length : Int) x16_1 (rd_L1 l0 (rd t294 x16_1)) ((rd_L1 l0 (rd t294 x16_1)).length : Int) (wrap64 (x25_2 + 1))) = some r:=by first | (rw [hy312];with_reducible exact H) | (have H2_:=(Option.bind_some _ _).symm.trans H;rw [hy312];with_reducible exact H2_) | (have H2_:=(Option.bind_some _ _).symm.trans H;with_reducible exact H2_) | with_reducible exact H | (rw [hy312];exact H) | exact H
                      have Ny312:=Aside0.mk hy312
                      clear hy312
                      have H':=Aside0.mk H
                      clear H
                      have p299 : 0 ≤ (x25_2 : Int):=of_decide_eq_true (by first | (with_reducible assumption) | assumption)
                      have q299 : x25_2 < ((rd_L1 l0 (rd t294 x16_1)).length : Int):=of_decide_eq_true (by first | (with_reducible assumption) | assumption)
                      obtain ⟨ad299,e299,hx299_0⟩:=Kd.at_int HR298_0.out x25_2 p299 q299
                      cases e299
                      replace hx299_0:=(HB.out.cell (World.block_lt_of_cell? w _ hx299_0)).trans hx299_0
                      replace p299:=eq_true p299
                      replace q299:=eq_true q299
                      obtain ⟨Ao38,co38,eo38⟩:=Kd.S_slice HO_3.out
                      subst eo38
                      have p300 : 0 ≤ ((rd (rd_L1 l0 (rd t294 x16_1)) x25_2) : Int):=of_decide_eq_true (by first | (with_reducible assumption) | assumption)
                      have q300 : (rd (rd_L1 l0 (rd t294 x16_1)) x25_2) < (x3_2.length : Int):=of_decide_eq_true (by first | (with_reducible assumption) | assumption)
                      obtain ⟨ad300,A300_0,c300_0,e300,hx300_0,hl300_0,hi300_0⟩:=at_L1 (Kd.S_reads' HO_3.out).2.2 (rd (rd_L1 l0 (rd t294 x16_1)) x25_2) p300 q300
                      cases e300
                      obtain ⟨ce300,hce300,hMe300,hcc300⟩:=Kd.S_get HO_3.out [] (rd (rd_L1 l0 (rd t294 x16_1)) x25_2) p300 (by first | exact q300 | exact of_decide_eq_true (by first | (with_reducible assumption) | assumption) | (have e_:=(Kd.S_reads' HO_3.out).1;omega))
                      obtain ⟨ve300_0,rfl,ge300_0⟩:=hMe300
                      have hv300_0:=hcc300 0 _ rfl
                      rw [Nat.add_zero,show ((Kd.slice 3 (Kd.int .i64))).sz = 1 from rfl,Nat.mul_one] at hv300_0
                      replace hv300_0:=Option.some.inj (hv300_0.symm.trans hx300_0)
                      rw [hv300_0] at ge300_0
                      have HL300_0:=Aside0.mk (show Kd.R (Kd.int .i64) 3 _ _ _ _ (rd_L1 x3_2 (rd (rd_L1 l0 (rd t294 x16_1)) x25_2)) from ge300_0)
                      clear hv300_0 ge300_0
                      have HX300_0:=Aside0.mk hx300_0
                      clear hcc300 hce300
                      have HR300_0:=Aside0.mk hi300_0
                      have HC300_0:=Aside0.mk hl300_0
                      clear hi300_0 hl300_0
                      replace p300:=eq_true p300
                      replace q300:=eq_true q300
                      have p306 : 0 ≤ ((rd (rd_L1 l0 (rd t294 x16_1)) x25_2) : Int):=of_decide_eq_true (by first | (with_reducible assumption) | assumption)
                      have q306 : (rd (rd_L1 l0 (rd t294 x16_1)) x25_2) < (x3_2.length : Int):=of_decide_eq_true (by first | (with_reducible assumption) | assumption)
                      obtain ⟨ad306,A306_0,c306_0,e306,hx306_0,hl306_0,hi306_0⟩:=at_L1 (Kd.S_reads' HO_3.out).2.2 (rd (rd_L1 l0 (rd t294 x16_1)) x25_2) p306 q306
                      obtain rfl : ad300 = ad306:=(by injection e306)
                      obtain ⟨ce306,hce306,hMe306,hcc306⟩:=Kd.S_get HO_3.out [] (rd (rd_L1 l0 (rd t294 x16_1)) x25_2) p306 (by first | exact q306 | exact of_decide_eq_true (by first | (with_reducible assumption) | assumption) | (have e_:=(Kd.S_reads' HO_3.out).1;omega))
                      obtain ⟨ve306_0,rfl,ge306_0⟩:=hMe306
                      have hv306_0:=hcc306 0 _ rfl
                      rw [Nat.add_zero,show ((Kd.slice 3 (Kd.int .i64))).sz = 1 from rfl,Nat.mul_one] at hv306_0
                      replace hv306_0:=Option.some.inj (hv306_0.symm.trans hx306_0)
                      rw [hv306_0] at ge306_0
                      have HL306_0:=Aside0.mk (show Kd.R (Kd.int .i64) 3 _ _ _ _ (rd_L1 x3_2 (rd (rd_L1 l0 (rd t294 x16_1)) x25_2)) from ge306_0)
                      clear hv306_0 ge306_0
                      have HX306_0:=Aside0.mk hx306_0
                      clear hcc306 hce306
                      have HR306_0:=Aside0.mk hi306_0
                      have HC306_0:=Aside0.mk hl306_0
                      clear hi306_0 hl306_0
                      replace p306:=eq_true p306
                      replace q306:=eq_true q306
                      have ea_:=Option.some.inj (hx300_0.symm.trans hx306_0)
                      injection ea_ with ea_ en_ ec_
                      subst ea_
                      subst ec_
                      clear en_
                      have p307 : 0 ≤ ((ji31) : Int):=of_decide_eq_true (by first | (with_reducible assumption) | assumption)
                      have q307 : (ji31) < ((rd_L1 x3_2 (rd (rd_L1 l0 (rd t294 x16_1)) x25_2)).length : Int):=of_decide_eq_true (by first | (with_reducible assumption) | assumption)
                      obtain ⟨ad307,e307,hx307_0⟩:=Kd.at_int (by repeat (first | (with_reducible exact HR306_0.out) | (with_reducible refine Kd.C_alloc ?_ _) | (with_reducible refine Kd.C_drewN ?_ _) | (with_reducible refine Kd.C_drew ?_) | exact HR306_0.out)) (ji31) p307 q307
                      cases e307
                      replace p307:=eq_true p307
                      replace q307:=eq_true q307
                      have p308 : 0 ≤ ((rd (rd_L1 l0 (rd t294 x16_1)) x25_2) : Int):=of_decide_eq_true (by first | (with_reducible assumption) | assumption)
                      have q308 : (rd (rd_L1 l0 (rd t294 x16_1)) x25_2) < (x3_2.length : Int):=of_decide_eq_true (by first | (with_reducible assumption) | assumption)
                      obtain ⟨ad308,A308_0,c308_0,e308,hx308_0,hl308_0,hi308_0⟩:=at_L1 (Kd.S_reads' HO_3.out).2.2 (rd (rd_L1 l0 (rd t294 x16_1)) x25_2) p308 q308
                      obtain rfl : ad300 = ad308:=(by injection e308)
                      obtain ⟨ce308,hce308,hMe308,hcc308⟩:=Kd.S_get HO_3.out [] (rd (rd_L1 l0 (rd t294 x16_1)) x25_2) p308 (by first | exact q308 | exact of_decide_eq_true (by first | (with_reducible assumption) | assumption) | (have e_:=(Kd.S_reads' HO_3.out).1;omega))
                      obtain ⟨ve308_0,rfl,ge308_0⟩:=hMe308
                      have hv308_0:=hcc308 0 _ rfl
                      rw [Nat.add_zero,show ((Kd.slice 3 (Kd.int .i64))).sz = 1 from rfl,Nat.mul_one] at hv308_0
                      replace hv308_0:=Option.some.inj (hv308_0.symm.trans hx308_0)
                      rw [hv308_0] at ge308_0
                      have HL308_0:=Aside0.mk (show Kd.R (Kd.int .i64) 3 _ _ _ _ (rd_L1 x3_2 (rd (rd_L1 l0 (rd t294 x16_1)) x25_2)) from ge308_0)
                      clear hv308_0 ge308_0
                      have HX308_0:=Aside0.mk hx308_0
                      clear hcc308 hce308
                      have HR308_0:=Aside0.mk hi308_0
                      have HC308_0:=Aside0.mk hl308_0
                      clear hi308_0 hl308_0
                      replace p308:=eq_true p308
                      replace q308:=eq_true q308
                      have ea_:=Option.some.inj (hx300_0.symm.trans hx308_0)
                      injection ea_ with ea_ en_ ec_
                      subst ea_
                      subst ec_
                      clear en_
                      obtain ⟨go39,co39,eo39,gb39,gl39,cl39,HG39⟩:=Kd.S_form HO_3.out (by have h_ : ((rd (rd_L1 l0 (rd t294 x16_1)) x25_2) : Int) < ((x3_2.length : Int) : Int):=of_decide_eq_true (by first | (with_reducible assumption) | assumption);have h2_ : 0 ≤ ((rd (rd_L1 l0 (rd t294 x16_1)) x25_2) : Int):=(of_decide_eq_true (by first | (with_reducible assumption) | assumption));omega)
                      (first | cases eo39 | (injection eo39 with ea_ en_ ec_;(first | subst ea_ | (injection ea_ with ea_;subst ea_));subst ec_;clear en_))
                      have GB39:=Aside0.mk gb39
                      have GG39:=Aside0.mk HG39
                      clear gb39 gl39 HG39
                      (first | simp only [add_plain] at hx300_0 | skip)
                      (first | simp only [add_plain] at hx306_0 | skip)
                      (first | simp only [add_plain] at hx308_0 | skip)
                      obtain ⟨oki39,ce39,hcl39,hM39,hcc39,_,_,hH39⟩:=Kd.S_elem HO_3.out [] ((rd (rd_L1 l0 (rd t294 x16_1)) x25_2) : Int) (of_decide_eq_true (by first | (with_reducible assumption) | assumption)) (by have h_ : ((rd (rd_L1 l0 (rd t294 x16_1)) x25_2) : Int) < ((x3_2.length : Int) : Int):=of_decide_eq_true (by first | (with_reducible assumption) | assumption);first | exact h_ | (have e_:=(Kd.S_reads' HO_3.out).1;omega) | simpa using h_)
                      obtain ⟨ve39_0,rfl,ge39_0⟩:=hM39
                      have hv39:=hcc39 0 _ rfl
                      have hX39:=HX308_0.out
                      (try simp only [add_plain] at hX39)
                      (try simp only [Nat.add_zero] at hv39)
                      (try rw [show ((Kd.slice 3 (Kd.int .i64))).sz = 1 from rfl,Nat.mul_one] at hv39)
                      replace hv39:=Option.some.inj (hv39.symm.trans hX39)
                      subst hv39
                      clear hX39 hcc39 hcl39
                      have UU39:=Aside0.mk (show Kd.R (Kd.int .i64) 3 _ w.heap.size oki39 (.slice (some ad307) (rd_L1 x3_2 (rd (rd_L1 l0 (rd t294 x16_1)) x25_2)).length c300_0) (rd_L1 x3_2 (rd (rd_L1 l0 (rd t294 x16_1)) x25_2)) from ge39_0)
                      have HH39:=Aside0.mk hH39
                      have HN39:=Aside0.mk (Kd.S_reads' HO_3.out).1
                      clear hH39 ge39_0
                      go_wp2_with (first | ((with_reducible refine gate_builtin (b:=.append) (xs:=#[.tmp 53,.tmp 55]) rfl ?_);at_builtin;refine Kd.R_append (Kd.int .i64) (w0:=w) w.heap.size rfl (.tmp 53) (.tmp 55) 43 3 (.int .i64 0) 8 rfl Try.underlying43 info3 rfl (by decide) (by omega) (.slice (some ad307) (rd_L1 x3_2 (rd (rd_L1 l0 (rd t294 x16_1)) x25_2)).length c300_0) (rd_L1 x3_2 (rd (rd_L1 l0 (rd t294 x16_1)) x25_2)) (rd t294 x16_1) [.int .i64 (rd t294 x16_1)] (fun k_ => oki39 k_ ∨ ((fun k_ => some k_ ≠ (.slice (some ad297) t294.length co11 : Value).ownBlock)) k_ ∧ wr.heap.size ≤ k_) (fun _ => False) rfl rfl ?aP (fun _ hk => hk.elim) ?aF ?aO ?aB ?aS ?aL ?_;(case aP => exact rfl);(case aB => exact (by repeat (first | (with_reducible first | exact HB.out | apply below_alloc | apply pw_below_drewN | apply below_drew1) | exact HB.out)));(case aF => exact (fun k_ hk => .inr ⟨Kd.fresh' (Kd.R_lt (by (with_reducible repeat (first | apply Kd.R_alloc | apply Kd.R_drewN | apply Kd.R_drew));exact HO_14.out)) k_ hk,hk⟩));(case aO => exact (by (with_reducible repeat (first | apply Kd.R_alloc | apply Kd.R_drewN | apply Kd.R_drew));exact Kd.R_mono UU39.out (fun _ hk => .inl hk)));(case aS => exact (below_size (by repeat (first | (with_reducible first | exact HB.out | apply below_alloc | apply pw_below_drewN | apply below_drew1) | exact HB.out))));(case aL => have:=LMc36.out;omega);intro v310 w40 ho hb hg hat;rw [← Ny309.out] at ho;have n0_:=Aside0.mk (Kd.R_grown2 (by (with_reducible repeat (first | apply Kd.R_alloc | apply Kd.R_drewN | apply Kd.R_drew));exact HO_14.out) rfl hg (fun k_ e_ => (HL308_0.out.1 k_ e_).1));have n1_:=Aside0.mk (hb);have n2_:=Aside0.mk (Kd.H_grown (Kd.H_widen (by repeat (first | exact HH39.out | refine Kd.H_alloc ?_ _ | refine Kd.H_drewN ?_ _ | refine Kd.H_drew ?_))) hg (fun k_ e_ => .inl (UU39.out.1 k_ e_)));have n3_:=Aside0.mk (ho);clear HO_14;clear HB;clear HH39;clear HO_3;clear UU39;clear HL300_0;clear HL306_0;clear HL308_0;have HO_14:=n0_;have HB:=n1_;have HH39:=n2_;have HO311:=n3_;clear n0_ n1_ n2_ n3_;clear ho hb hg hat;have p37 : 0 ≤ ((rd (rd_L1 l0 (rd t294 x16_1)) x25_2) : Int):=of_decide_eq_true (by first | (with_reducible assumption) | assumption);have q37 : ((rd (rd_L1 l0 (rd t294 x16_1)) x25_2) : Int) < ((x3_2.length : Int) : Int):=of_decide_eq_true (by first | (with_reducible assumption) | assumption);replace p37:=eq_true p37;replace q37:=eq_true q37;obtain ⟨Ao43,co43,eo43⟩:=Kd.R_slice HO311.out;subst eo43;obtain ⟨_,_,hraw41,_,_,hcc41,_⟩:=Kd.H_raw HH39.out (of_decide_eq_true (by first | (with_reducible assumption) | assumption)) (by have h_ : ((rd (rd_L1 l0 (rd t294 x16_1)) x25_2) : Int) < ((x3_2.length : Int) : Int):=of_decide_eq_true (by first | (with_reducible assumption) | assumption);first | exact h_ | (have e_:=(HN39.out);omega) | simpa using h_);obtain ⟨_,hfr41⟩:=Kd.H_at HH39.out (of_decide_eq_true (by first | (with_reducible assumption) | assumption)) (by have h_ : ((rd (rd_L1 l0 (rd t294 x16_1)) x25_2) : Int) < ((x3_2.length : Int) : Int):=of_decide_eq_true (by first | (with_reducible assumption) | assumption);first | exact h_ | (have e_:=(HN39.out);omega) | simpa using h_);have hx41_0:=hcc41 0 _ rfl;have hf41_0:=hfr41 0;(try simp only [Nat.add_zero] at hx41_0 hf41_0);(try rw [show ((Kd.slice 3 (Kd.int .i64))).sz = 1 from rfl,Nat.mul_one] at hx41_0);(try rw [show ((Kd.slice 3 (Kd.int .i64))).sz = 1 from rfl,Nat.mul_one] at hf41_0);have HP41:=Kd.S_seg0 HH39.out (of_decide_eq_true (by first | (with_reducible assumption) | assumption)) (by have h_ : ((rd (rd_L1 l0 (rd t294 x16_1)) x25_2) : Int) < ((x3_2.length : Int) : Int):=of_decide_eq_true (by first | (with_reducible assumption) | assumption);first | exact h_ | (have e_:=(HN39.out);omega) | simpa using h_) (seg:=[.slice Ao43 y309.length co43]) (j:=0) (show 1 ≤ 1 from by decide) (x':=y309) (Kd.M_row HO311.out) (fun _ hk => hk);(try simp only [show ((Kd.slice 3 (Kd.int .i64))).sz = 1 from rfl,Nat.mul_one,Nat.add_zero] at HP41);clear hcc41 hfr41) | ((with_reducible refine gate_store (t:=43) (p:=57) rfl ?_);refine store_event (t:=43) (p:=57) (v:=?vo_w42) (w1:=(w40.setCell ⟨go39,((rd (rd_L1 l0 (rd t294 x16_1)) x25_2) : Int).toNat,none⟩ (.slice Ao43 y309.length co43))) ?hg ?ho ?hn ?hr ?_;(case ho => rfl);(case hg => rfl);(case hn => rfl);(case hr => first | (go_simp;done) | (go_simp;rfl));intro w42 hw;have hg : w40.grownBy w42 (some go39):=(by rw [hw];exact HP41.2);have hp_ : Kd.S (Kd.slice 3 (Kd.int .i64)) 43 w42 w.heap.size (fun k_ => some k_ ≠ (.slice (some ad297) t294.length co11 : Value).ownBlock) (.slice (some ⟨go39,0,none⟩) x3_2.length co38) y312:=(by rw [hw,Ny312.out];exact HP41.1);clear HP41;have n0_:=Aside0.mk (Kd.R_over' (v:=(.slice (some ⟨go39,0,none⟩) x3_2.length co38)) (by (with_reducible repeat (first | apply Kd.R_alloc | apply Kd.R_drewN | apply Kd.R_drew));exact HO_14.out) (Kd.R_typed hraw41) (by decide) hg);have n1_:=Aside0.mk ((by rw [hw];exact below_set HB.out GB39.out : Below w.heap.size w w42));have n2_:=Aside0.mk (hp_);clear HO_14;clear HB;clear HO311;clear HH39;have HO_14:=n0_;have HB:=n1_;have HO_3:=n2_;clear n0_ n1_ n2_;clear hg hw hp_ hraw41))
                      go_roundg k2
                      case measure => have:=HK1.out;have:=HK2.out;omega
                      case rel => exact ⟨(y312),(wrap64 (x25_2 + 1)),(by first | rfl | (simp;done) | (simp [*];done)),H',⟨by have:=HK1.out;have:=HK2.out;omega⟩,⟨by (with_reducible repeat (first | apply Kd.S_alloc | apply Kd.S_drewN | apply Kd.S_drew));exact HO_3.out⟩,⟨by (with_reducible repeat (first | apply Kd.R_alloc | apply Kd.R_drewN | apply Kd.R_drew));exact HO_14.out⟩,⟨by repeat (first | (with_reducible first | exact HB.out | apply below_alloc | apply pw_below_drewN | apply below_drew1) | exact HB.out)⟩⟩
                     ·rw [if_neg c36] at H
                      exact absurd H (by simp)
                   ·rw [if_neg c33] at H
                    exact absurd H (by simp)
                  ·rw [if_neg c32] at H
                   exact absurd H (by simp)
                ·rw [if_neg c21] at H
                 exact absurd H (by simp)
               ·rw [if_neg c20] at H
                exact absurd H (by simp)
              ·rw [if_neg c19] at H
               exact absurd H (by simp)
             ·rw [if_neg c18] at H
              exact absurd H (by simp)
            ·rw [if_neg c17] at H
             have c17b0 : decide (x25_2 < ((rd_L1 l0 (rd t294 x16_1)).length : Int)) = false:=decide_eq_false c17
             clear c17
             have H':=Aside0.mk H
             clear H
             go_wp2
             go_roundg k2
             case measure => have:=HK1.out;have:=HK2.out;omega
             case rel => exact ⟨(x3_2),(wrap64 (x16_1 + 1)),(by first | rfl | (simp;done) | (simp [*];done)),H',⟨by have:=HK1.out;have:=HK2.out;omega⟩,⟨by (with_reducible repeat (first | apply Kd.S_alloc | apply Kd.S_drewN | apply Kd.S_drew));exact HO_3.out⟩,⟨by (with_reducible repeat (first | apply Kd.R_alloc | apply Kd.R_drewN | apply Kd.R_drew));exact HO_14.out⟩,⟨by repeat (first | (with_reducible first | exact HB.out | apply below_alloc | apply pw_below_drewN | apply below_drew1) | exact HB.out)⟩⟩
         ·rw [if_neg c16] at H
          exact absurd H (by simp)
        ·rw [if_neg c15] at H
         exact absurd H (by simp)
       ·rw [if_neg c14] at H
        exact absurd H (by simp)
      ·rw [if_neg c13] at H
       exact absurd H (by simp)
     ·rw [if_neg c12] at H
      have c12b0 : decide (x16_1 < (t294.length : Int)) = false:=decide_eq_false c12
      clear c12
      obtain rfl:=Option.some.inj H
      go_wp2
      go_ret
      exact ⟨_,by first | rfl | (simp [errW_none,errW_some] <;> rfl) | (simp [*,errW_none,errW_some] <;> rfl),by (with_reducible repeat (first | apply Kd.S_alloc | apply Kd.S_drewN | apply Kd.S_drew));exact Kd.S_mono HO_3.out (fun _ hk => trivial),by repeat (first | (with_reducible first | exact HB.out | apply below_alloc | apply pw_below_drewN | apply below_drew1) | exact HB.out)⟩
  ·rw [if_neg c3] at H
   exact absurd H (by simp)
 ·rw [if_neg c2] at H
  exact absurd H (by simp)

-- NOT PRINTED: function 84 (impl_Graph_entries_1)

end Go.Proofs.Ytbmnoenbhlfjaaa.Q
