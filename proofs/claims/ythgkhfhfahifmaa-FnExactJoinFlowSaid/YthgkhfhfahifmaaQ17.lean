-- WRITTEN BY A PROGRAM OF THIS SESSION
import Derived.Test.YthgkhfhfahifmaaQ0
import Derived.Test.YthgkhfhfahifmaaQ13
namespace Go.Proofs.Ythgkhfhfahifmaa.Q
open Go.RowKit Go.Proofs.YthgkhfhfahifmaaW.PrintWords Go.Proofs.YthgkhfhfahifmaaW.PrintLast Go.Proofs.YthgkhfhfahifmaaW.PrintMore
attribute [local go_sem] max2_int min2_int max_two min_two max_three min_three max_four min_four   -- for this text's walks alone
set_option linter.unusedVariables false
set_option linter.unusedSimpArgs false

/-! ### impl_preds: function 53 -/
mutual
def impl_preds.l0 : Nat → List (List Int) → List (List Int) → List Int → Int → Int → Option ((List (List Int)))
 | 0,_,_,_,_,_ => none
 | k + 1,x0,x3,x14,x15,x16 => if x16 < x15 then (if 0 ≤ x16 then (if x16 < (x14.length : Int) then (if 0 ≤ (rd x14 x16) then (if (rd x14 x16) < (x0.length : Int) then (impl_preds.l1 k x0 x3 (rd x14 x16) x14 x15 x16 (rd_L3 x0 (rd x14 x16)) ((rd_L3 x0 (rd x14 x16)).length : Int) 0) else (none)) else (none)) else (none)) else (none)) else (some x3)
def impl_preds.l1 : Nat → List (List Int) → List (List Int) → Int → List Int → Int → Int → List Int → Int → Int → Option ((List (List Int)))
 | 0,_,_,_,_,_,_,_,_,_ => none
 | k + 1,x0,x3,x5,x14,x15,x16,x23,x24,x25 => if x25 < x24 then (if 0 ≤ x25 then (if x25 < (x23.length : Int) then (if 0 ≤ (rd x23 x25) then (if (rd x23 x25) < (x3.length : Int) then (if ((rd_L3 x3 (rd x23 x25)).length : Int) = 0 then (if (rd_L3 x3 (rd x23 x25)).length < 17592186044416 then (impl_preds.l1 k x0 (x3.set ((rd x23 x25) : Int).toNat ((rd_L3 x3 (rd x23 x25)) ++ [x5])) x5 x14 x15 x16 x23 x24 (wrap64 (x25 + 1))) else (none)) else (if 0 ≤ (wrap64 (((rd_L3 x3 (rd x23 x25)).length : Int) - 1)) then (if (wrap64 (((rd_L3 x3 (rd x23 x25)).length : Int) - 1)) < ((rd_L3 x3 (rd x23 x25)).length : Int) then (if (rd (rd_L3 x3 (rd x23 x25)) (wrap64 (((rd_L3 x3 (rd x23 x25)).length : Int) - 1))) = x5 then (impl_preds.l1 k x0 x3 x5 x14 x15 x16 x23 x24 (wrap64 (x25 + 1))) else (if (rd_L3 x3 (rd x23 x25)).length < 17592186044416 then (impl_preds.l1 k x0 (x3.set ((rd x23 x25) : Int).toNat ((rd_L3 x3 (rd x23 x25)) ++ [x5])) x5 x14 x15 x16 x23 x24 (wrap64 (x25 + 1))) else (none))) else (none)) else (none))) else (none)) else (none)) else (none)) else (none)) else (impl_preds.l0 k x0 x3 x14 x15 (wrap64 (x16 + 1)))
end
def impl_preds.f (k : Nat) (l0 : List (List Int)) : Option ((List (List Int))):=if 0 ≤ (l0.length : Int) then (if ((l0.length : Int) : Int).toNat ≤ 11728124029610 then ((impl_reach.f k l0 0 ([] : List Int)).bind fun t334 => ((impl_listOf.f k t334).bind fun t337 => (impl_preds.l0 k l0 (List.replicate ((l0.length : Int) : Int).toNat []) t337 (t337.length : Int) 0))) else (none)) else (none)
theorem impl_preds.mono_l : ∀ k,(∀ y0 y1 y2 y3 y4,LeO (impl_preds.l0 k y0 y1 y2 y3 y4) (impl_preds.l0 (k + 1) y0 y1 y2 y3 y4)) ∧ (∀ y0 y1 y2 y3 y4 y5 y6 y7 y8,LeO (impl_preds.l1 k y0 y1 y2 y3 y4 y5 y6 y7 y8) (impl_preds.l1 (k + 1) y0 y1 y2 y3 y4 y5 y6 y7 y8))
 | 0 => ⟨fun _ _ _ _ _ r h => by simp [impl_preds.l0] at h,fun _ _ _ _ _ _ _ _ _ r h => by simp [impl_preds.l1] at h⟩
 | k + 1 => by
  obtain ⟨ih0,ih1⟩:=impl_preds.mono_l k
  refine ⟨?_,?_⟩
  ·intro y0 y1 y2 y3 y4
   unfold impl_preds.l0
   repeat' first
   | (with_reducible exact ih0 _ _ _ _ _)
   | (with_reducible exact ih1 _ _ _ _ _ _ _ _ _)
   | (with_reducible exact impl_listOf.mono _ _)
   | (with_reducible exact impl_reach.mono _ _ _ _)
   | (with_reducible exact LeO.refl _)
   | (with_reducible exact LeO.none _)
   | (with_reducible refine LeO.ite ?_ ?_)
   | (with_reducible refine LeO.bind ?_ (fun _ => ?_))
  ·intro y0 y1 y2 y3 y4 y5 y6 y7 y8
   unfold impl_preds.l1
   repeat' first
   | (with_reducible exact ih0 _ _ _ _ _)
   | (with_reducible exact ih1 _ _ _ _ _ _ _ _ _)
   | (with_reducible exact impl_listOf.mono _ _)
   | (with_reducible exact impl_reach.mono _ _ _ _)
   | (with_reducible exact LeO.refl _)
   | (with_reducible exact LeO.none _)
   | (with_reducible refine LeO.ite ?_ ?_)
   | (with_reducible refine LeO.bind ?_ (fun _ => ?_))
theorem impl_preds.mono : ∀ a0 k,LeO (impl_preds.f k a0) (impl_preds.f (k + 1) a0):=by
 intro a0 k
 obtain ⟨ih0,ih1⟩:=impl_preds.mono_l k
 unfold impl_preds.f
 repeat' first
   | (with_reducible exact ih0 _ _ _ _ _)
   | (with_reducible exact ih1 _ _ _ _ _ _ _ _ _)
   | (with_reducible exact impl_listOf.mono _ _)
   | (with_reducible exact impl_reach.mono _ _ _ _)
   | (with_reducible exact LeO.refl _)
   | (with_reducible exact LeO.none _)
   | (with_reducible refine LeO.ite ?_ ?_)
   | (with_reducible refine LeO.bind ?_ (fun _ => ?_))
set_option maxHeartbeats 8000000 in
set_option maxRecDepth 100000 in
theorem impl_preds.calls (k : Nat) (A0 : Option Addr) (c0 : Nat) (l0 : List (List Int)) (r : List (List Int)) (w : World) (hr0 : Kd.C (Kd.slice 3 (Kd.int .i64)) w A0 l0.length l0) (hc0 : l0.length ≤ c0) (h : impl_preds.f k l0 = some r) :
  Calls Try.prog 53 #[.slice A0 l0.length c0] w fun e w' => ∃ v0_ : Value,e = .returned (v0_) ∧ Kd.S (Kd.slice 3 (Kd.int .i64)) 37 w' w.heap.size (fun _ => True) v0_ r ∧ Below w.heap.size w w':=by
 have HR0:=Aside0.mk hr0
 have HC0:=Aside0.mk hc0
 clear hr0 hc0
 have HB:=Aside0.mk (Below.refl w.heap.size w)
 have H : (if 0 ≤ (l0.length : Int) then (if ((l0.length : Int) : Int).toNat ≤ 11728124029610 then ((impl_reach.f k l0 0 ([] : List Int)).bind fun t334 => ((impl_listOf.f k t334).bind fun t337 => (impl_preds.l0 k l0 (List.replicate ((l0.length : Int) : Int).toNat []) t337 (t337.length : Int) 0))) else (none)) else (none)) = some r:=h
 clear h
 by_cases c2 : 0 ≤ (l0.length : Int)
 rotate_left
 ·rw [if_neg c2] at H
  exact absurd H (by simp)
 rw [if_pos c2] at H
 have c2b0:=eq_true c2
 have c2b1 : decide (0 ≤ (l0.length : Int)) = true:=decide_eq_true c2
 clear c2
 by_cases c3 : ((l0.length : Int) : Int).toNat ≤ 11728124029610
 rotate_left
 ·rw [if_neg c3] at H
  exact absurd H (by simp)
 rw [if_pos c3] at H
 have c3b0:=eq_true c3
 have c3b1 : decide (((l0.length : Int) : Int).toNat ≤ 11728124029610) = true:=decide_eq_true c3
 clear c3
 obtain ⟨y331,hy331⟩ : ∃ y_ : List (List Int),y_ = (List.replicate ((l0.length : Int) : Int).toNat []):=⟨_,rfl⟩
 replace H : ((impl_reach.f k l0 0 ([] : List Int)).bind fun t334 => ((impl_listOf.f k t334).bind fun t337 => (impl_preds.l0 k l0 y331 t337 (t337.length : Int) 0))) = some r:=by first | (rw [hy331];with_reducible exact H) | (have H2_:=(Option.bind_some _ _).symm.trans H;rw [hy331];with_reducible exact H2_) | (have H2_:=(Option.bind_some _ _).symm.trans H;with_reducible exact H2_) | with_reducible exact H | (rw [hy331];exact H) | exact H
 have Ny331:=Aside0.mk hy331
 clear hy331
 replace H:=Option.bind_eq_some_iff.mp H
 obtain ⟨t334,A40,H⟩:=H
 replace H : ((impl_listOf.f k t334).bind fun t337 => (impl_preds.l0 k l0 y331 t337 (t337.length : Int) 0)) = some r:=H
 have A4:=Aside0.mk A40
 clear A40
 replace H:=Option.bind_eq_some_iff.mp H
 obtain ⟨t337,A50,H⟩:=H
 replace H : (impl_preds.l0 k l0 y331 t337 (t337.length : Int) 0) = some r:=H
 have A5:=Aside0.mk A50
 clear A50
 have H':=Aside0.mk H
 clear H
 go_enter Try.func53,Try.ntmps53
 go_wp2_with (first | ((with_reducible refine gate_dst (N:=11) rfl ?_);refine Kd.S_make (Kd.slice 3 (Kd.int .i64)) _ 37 rfl (N:=11) rfl 29 _ _ rfl (l0.length : Int) rfl rfl Try.underlying29 (.slice none 0 0) 24 info37 rfl (by decide) (by omega) [] (ok:=fun _ => True) (okp:=fun _ => True) ⟨_,rfl,Kd.R_nil _ _ _ _ _⟩ (fun _ hk => hk) trivial (of_decide_eq_true (by assumption)) (Nat.le_trans (Nat.mul_le_mul_right _ (of_decide_eq_true (by assumption) : (l0.length : Int).toNat ≤ 11728124029610)) (by omega)) (Below.refl _ _) (Nat.le_refl _) ?_;intro v332 w6 ho7 hb hg_ hnew_;clear hg_ hnew_;(first | rw [← Ny331.out] at ho7 | (simp only [Int.reduceToNat] at ho7;rw [← Ny331.out] at ho7));have n0_:=Aside0.mk (Kd.S_lower ho7 (below_size (by repeat (with_reducible first | exact HB.out | apply below_alloc | apply pw_below_drewN | apply below_drew1))));have n1_:=Aside0.mk (below_step (by repeat (with_reducible first | exact HB.out | apply below_alloc | apply pw_below_drewN | apply below_drew1)) hb);clear HB;have HO333:=n0_;have HB:=n1_;clear n0_ n1_;clear hb ho7) | ((with_reducible refine gate_callee (f:=51) rfl ?_);refine goesL_ (some 13) rfl rfl Try.func51 (by kernel_rfl) rfl #[.slice A0 l0.length c0,.int .i64 0,.slice none 0 0] rfl (by (try simp only [List.map_toArray,List.map_cons,List.map_nil]);first | done | rfl | (simp only [List.length_drop,List.length_take];rfl)) ?_;(refine (impl_reach.calls k _ _ l0 0 _ _ ([] : List Int) t334 _ ?side1 ?side2 ?side3 ?side4 A4.out).mono ?_);(case side1 => repeat (first | exact (Kd.C_below HR0.out HB.out) | (with_reducible refine Kd.C_alloc ?_ _) | (with_reducible refine Kd.C_drewN ?_ _) | (with_reducible refine Kd.C_drew ?_)));(case side2 => exact HC0.out);(case side3 => exact Kd.C_nil _ _);(case side4 => exact Nat.le_refl _);rintro e w8 ⟨v335,rfl,ho0,hb⟩;refine ⟨_,rfl,?_⟩;have n0_:=Aside0.mk (Kd.S_below (by (with_reducible repeat (first | apply Kd.S_alloc | apply Kd.S_drewN | apply Kd.S_drew));exact HO333.out) hb);have n1_:=Aside0.mk (Kd.R_lower ho0 (below_size (by repeat (with_reducible first | exact HB.out | apply below_alloc | apply pw_below_drewN | apply below_drew1))));have n2_:=Aside0.mk (below_step (by repeat (with_reducible first | exact HB.out | apply below_alloc | apply pw_below_drewN | apply below_drew1)) hb);clear HO333;clear HB;have HO333:=n0_;have HO336:=n1_;have HB:=n2_;clear n0_ n1_ n2_;(try clear hb);(try clear hb2);(try clear hk);(try clear hi);(try clear ho0);obtain ⟨Ao9,co9,eo9⟩:=Kd.R_slice HO336.out;subst eo9) | ((with_reducible refine gate_callee (f:=50) rfl ?_);refine goesL_ (some 14) rfl rfl Try.func50 (by kernel_rfl) rfl #[.slice Ao9 t334.length co9] rfl (by (try simp only [List.map_toArray,List.map_cons,List.map_nil]);first | done | rfl | (simp only [List.length_drop,List.length_take];rfl)) ?_;(with_reducible refine (impl_listOf.calls k _ _ t334 t337 _ ?side1 ?side2 A5.out).mono ?_);(case side1 => repeat (first | exact (Kd.R_reads' HO336.out).2.2 | (with_reducible refine Kd.C_alloc ?_ _) | (with_reducible refine Kd.C_drewN ?_ _) | (with_reducible refine Kd.C_drew ?_)));(case side2 => exact (Kd.R_reads' HO336.out).2.1);rintro e w10 ⟨v338,rfl,ho0,hb⟩;refine ⟨_,rfl,?_⟩;have n0_:=Aside0.mk (Kd.S_elder' (by (with_reducible repeat (first | apply Kd.S_alloc | apply Kd.S_drewN | apply Kd.S_drew));exact HO333.out) (Kd.R_base ho0) hb);have n1_:=Aside0.mk (Kd.R_below (by (with_reducible repeat (first | apply Kd.R_alloc | apply Kd.R_drewN | apply Kd.R_drew));exact HO336.out) hb);have n2_:=Aside0.mk (Kd.R_lower ho0 (below_size (by repeat (with_reducible first | exact HB.out | apply below_alloc | apply pw_below_drewN | apply below_drew1))));have n3_:=Aside0.mk (below_step (by repeat (with_reducible first | exact HB.out | apply below_alloc | apply pw_below_drewN | apply below_drew1)) hb);clear HO333;clear HO336;clear HB;have HO333:=n0_;have HO336:=n1_;have HO339:=n2_;have HB:=n3_;clear n0_ n1_ n2_ n3_;(try clear hb);(try clear hb2);(try clear hk);(try clear hi);(try clear ho0);obtain ⟨Ao11,co11,eo11⟩:=Kd.R_slice HO339.out;subst eo11))
 go_loopg [16] k (fun kq v16 w' => ∃ (x3_1 : List (List Int)) (x16_1 : Int),v16 = .int .i64 x16_1 ∧ Aside0 (impl_preds.l0 kq l0 x3_1 t337 (t337.length : Int) x16_1 = some r) ∧ Aside0 (kq ≤ k) ∧ Aside0 (Kd.S (Kd.slice 3 (Kd.int .i64)) 37 w' w.heap.size (fun k_ => some k_ ≠ ((.slice Ao11 t337.length co11) : Value).ownBlock) v332 x3_1) ∧ Aside0 (Kd.R (Kd.int .i64) 3 w' w.heap.size (fun _ => True) (.slice Ao11 t337.length co11) t337) ∧ Aside0 (Below w.heap.size w w'))
 case atStart => exact ⟨(y331),(0),(by first | rfl | (simp;done) | (simp [*];done)),H',⟨Nat.le_refl _⟩,⟨by (with_reducible repeat (first | apply Kd.S_alloc | apply Kd.S_drewN | apply Kd.S_drew));exact Kd.S_mono HO333.out (fun _ hk => hk.2)⟩,⟨by (with_reducible repeat (first | apply Kd.R_alloc | apply Kd.R_drewN | apply Kd.R_drew));exact HO339.out⟩,⟨by repeat (with_reducible first | exact HB.out | apply below_alloc | apply pw_below_drewN | apply below_drew1)⟩⟩
 case round =>
  clear H'
  try clear c2
  try clear c2b0
  try clear c2b1
  try clear p2
  try clear c3
  try clear c3b0
  try clear c3b1
  try clear c5
  obtain ⟨x3_1,x16_1,rfl,HA,HK1,HO_3,HO_14,HB⟩:=hrel
  cases gk with
  | zero => exact absurd HA.out (by simp [impl_preds.l0])
  | succ k1 =>
   have H:=HA.out
   clear HA
   simp only [impl_preds.l0] at H
   by_cases c12 : x16_1 < (t337.length : Int)
   rotate_left
   ·rw [if_neg c12] at H
    have c12b0 : decide (x16_1 < (t337.length : Int)) = false:=decide_eq_false c12
    clear c12
    obtain rfl:=Option.some.inj H
    go_wp2
    go_ret
    exact ⟨_,by first | rfl | (simp [*,errW_none,errW_some] <;> rfl),by (with_reducible repeat (first | apply Kd.S_alloc | apply Kd.S_drewN | apply Kd.S_drew));exact Kd.S_mono HO_3.out (fun _ hk => trivial),by repeat (with_reducible first | exact HB.out | apply below_alloc | apply pw_below_drewN | apply below_drew1)⟩
   rw [if_pos c12] at H
   have c12b0 : decide (x16_1 < (t337.length : Int)) = true:=decide_eq_true c12
   clear c12
   by_cases c13 : 0 ≤ x16_1
   rotate_left
   ·rw [if_neg c13] at H
    exact absurd H (by simp)
   rw [if_pos c13] at H
   have c13b0 : decide (0 ≤ x16_1) = true:=decide_eq_true c13
   clear c13
   by_cases c14 : x16_1 < (t337.length : Int)
   rotate_left
   ·rw [if_neg c14] at H
    exact absurd H (by simp)
   rw [if_pos c14] at H
   have c14b0 : decide (x16_1 < (t337.length : Int)) = true:=decide_eq_true c14
   clear c14
   by_cases c15 : 0 ≤ (rd t337 x16_1)
   rotate_left
   ·rw [if_neg c15] at H
    exact absurd H (by simp)
   rw [if_pos c15] at H
   have c15b0 : decide (0 ≤ (rd t337 x16_1)) = true:=decide_eq_true c15
   clear c15
   by_cases c16 : (rd t337 x16_1) < (l0.length : Int)
   rotate_left
   ·rw [if_neg c16] at H
    exact absurd H (by simp)
   rw [if_pos c16] at H
   have c16b0 : decide ((rd t337 x16_1) < (l0.length : Int)) = true:=decide_eq_true c16
   clear c16
   have H':=Aside0.mk H
   clear H
   have p340 : 0 ≤ (x16_1 : Int):=of_decide_eq_true (by assumption)
   have q340 : x16_1 < (t337.length : Int):=of_decide_eq_true (by assumption)
   obtain ⟨ad340,e340,hx340_0⟩:=Kd.at_int (Kd.R_reads' HO_14.out).2.2 x16_1 p340 q340
   cases e340
   replace p340:=eq_true p340
   replace q340:=eq_true q340
   have p341 : 0 ≤ ((rd t337 x16_1) : Int):=of_decide_eq_true (by assumption)
   have q341 : (rd t337 x16_1) < (l0.length : Int):=of_decide_eq_true (by assumption)
   obtain ⟨ad341,A341_0,c341_0,e341,hx341_0,hl341_0,hi341_0⟩:=at_L3 HR0.out (rd t337 x16_1) p341 q341
   cases e341
   replace hx341_0:=(HB.out.cell (World.block_lt_of_cell? w _ hx341_0)).trans hx341_0
   have HR341_0:=Aside0.mk hi341_0
   have HC341_0:=Aside0.mk hl341_0
   clear hi341_0 hl341_0
   replace p341:=eq_true p341
   replace q341:=eq_true q341
   go_wp2
   go_loopg [25] k1 (fun kq v25 w' => ∃ (x3_2 : List (List Int)) (x25_2 : Int),v25 = .int .i64 x25_2 ∧ Aside0 (impl_preds.l1 kq l0 x3_2 (rd t337 x16_1) t337 (t337.length : Int) x16_1 (rd_L3 l0 (rd t337 x16_1)) ((rd_L3 l0 (rd t337 x16_1)).length : Int) x25_2 = some r) ∧ Aside0 (kq ≤ k1) ∧ Aside0 (Kd.S (Kd.slice 3 (Kd.int .i64)) 37 w' w.heap.size (fun k_ => some k_ ≠ ((.slice (some ad340) t337.length co11) : Value).ownBlock) v332 x3_2) ∧ Aside0 (Kd.R (Kd.int .i64) 3 w' w.heap.size (fun _ => True) (.slice (some ad340) t337.length co11) t337) ∧ Aside0 (Below w.heap.size w w'))
   case atStart => exact ⟨(x3_1),(0),(by first | rfl | (simp;done) | (simp [*];done)),H',⟨Nat.le_refl _⟩,⟨by (with_reducible repeat (first | apply Kd.S_alloc | apply Kd.S_drewN | apply Kd.S_drew));exact HO_3.out⟩,⟨by (with_reducible repeat (first | apply Kd.R_alloc | apply Kd.R_drewN | apply Kd.R_drew));exact HO_14.out⟩,⟨by repeat (with_reducible first | exact HB.out | apply below_alloc | apply pw_below_drewN | apply below_drew1)⟩⟩
   case round =>
    clear H'
    try clear c1
    try clear c2
    try clear c2b0
    try clear c2b1
    try clear p2
    try clear c3
    try clear c3b0
    try clear c3b1
    try clear p3
    try clear q3
    try clear hx3
    try clear c5
    try clear c12
    try clear c12b0
    try clear c13
    try clear c13b0
    try clear c14
    try clear c14b0
    try clear c15
    try clear c15b0
    try clear c16
    try clear c16b0
    try clear hx340_0
    try clear hx341_0
    try clear p2
    try clear p340
    try clear p341
    try clear q340
    try clear q341
    obtain ⟨x3_2,x25_2,rfl,HA,HK2,HO_3,HO_14,HB⟩:=hrel
    cases gk with
    | zero => exact absurd HA.out (by simp [impl_preds.l1])
    | succ k2 =>
     have H:=HA.out
     clear HA
     simp only [impl_preds.l1] at H
     by_cases c17 : x25_2 < ((rd_L3 l0 (rd t337 x16_1)).length : Int)
     rotate_left
     ·rw [if_neg c17] at H
      have c17b0 : decide (x25_2 < ((rd_L3 l0 (rd t337 x16_1)).length : Int)) = false:=decide_eq_false c17
      clear c17
      have H':=Aside0.mk H
      clear H
      go_wp2
      go_roundg k2
      case measure => have:=HK1.out;have:=HK2.out;omega
      case rel => exact ⟨(x3_2),(wrap64 (x16_1 + 1)),(by first | rfl | (simp;done) | (simp [*];done)),H',⟨by have:=HK1.out;have:=HK2.out;omega⟩,⟨by (with_reducible repeat (first | apply Kd.S_alloc | apply Kd.S_drewN | apply Kd.S_drew));exact HO_3.out⟩,⟨by (with_reducible repeat (first | apply Kd.R_alloc | apply Kd.R_drewN | apply Kd.R_drew));exact HO_14.out⟩,⟨by repeat (with_reducible first | exact HB.out | apply below_alloc | apply pw_below_drewN | apply below_drew1)⟩⟩
     rw [if_pos c17] at H
     have c17b0 : decide (x25_2 < ((rd_L3 l0 (rd t337 x16_1)).length : Int)) = true:=decide_eq_true c17
     clear c17
     by_cases c18 : 0 ≤ x25_2
     rotate_left
     ·rw [if_neg c18] at H
      exact absurd H (by simp)
     rw [if_pos c18] at H
     have c18b0 : decide (0 ≤ x25_2) = true:=decide_eq_true c18
     clear c18
     by_cases c19 : x25_2 < ((rd_L3 l0 (rd t337 x16_1)).length : Int)
     rotate_left
     ·rw [if_neg c19] at H
      exact absurd H (by simp)
     rw [if_pos c19] at H
     have c19b0 : decide (x25_2 < ((rd_L3 l0 (rd t337 x16_1)).length : Int)) = true:=decide_eq_true c19
     clear c19
     by_cases c20 : 0 ≤ (rd (rd_L3 l0 (rd t337 x16_1)) x25_2)
     rotate_left
     ·rw [if_neg c20] at H
      exact absurd H (by simp)
     rw [if_pos c20] at H
     have c20b0 : decide (0 ≤ (rd (rd_L3 l0 (rd t337 x16_1)) x25_2)) = true:=decide_eq_true c20
     clear c20
     by_cases c21 : (rd (rd_L3 l0 (rd t337 x16_1)) x25_2) < (x3_2.length : Int)
     rotate_left
     ·rw [if_neg c21] at H
      exact absurd H (by simp)
     rw [if_pos c21] at H
     have c21b0 : decide ((rd (rd_L3 l0 (rd t337 x16_1)) x25_2) < (x3_2.length : Int)) = true:=decide_eq_true c21
     clear c21
     by_cases c22 : ((rd_L3 x3_2 (rd (rd_L3 l0 (rd t337 x16_1)) x25_2)).length : Int) = 0
     ·rw [if_pos c22] at H
      have c22b0 : (((rd_L3 x3_2 (rd (rd_L3 l0 (rd t337 x16_1)) x25_2)).length : Int) == 0) = true:=beq_iff_eq.mpr c22
      have c22b1 : (((rd_L3 x3_2 (rd (rd_L3 l0 (rd t337 x16_1)) x25_2)).length : Int) != 0) = false:=bne_eq_false_iff_eq.mpr c22
      clear c22
      by_cases c23 : (rd_L3 x3_2 (rd (rd_L3 l0 (rd t337 x16_1)) x25_2)).length < 17592186044416
      rotate_left
      ·rw [if_neg c23] at H
       exact absurd H (by simp)
      rw [if_pos c23] at H
      have LMc23:=Aside0.mk c23
      clear c23
      obtain ⟨y345,hy345⟩ : ∃ y_ : List Int,y_ = ((rd_L3 x3_2 (rd (rd_L3 l0 (rd t337 x16_1)) x25_2)) ++ [(rd t337 x16_1)]):=⟨_,rfl⟩
      replace H : (impl_preds.l1 k2 l0 (x3_2.set ((rd (rd_L3 l0 (rd t337 x16_1)) x25_2) : Int).toNat y345) (rd t337 x16_1) t337 (t337.length : Int) x16_1 (rd_L3 l0 (rd t337 x16_1)) ((rd_L3 l0 (rd t337 x16_1)).length : Int) (wrap64 (x25_2 + 1))) = some r:=by first | (rw [hy345];with_reducible exact H) | (have H2_:=(Option.bind_some _ _).symm.trans H;rw [hy345];with_reducible exact H2_) | (have H2_:=(Option.bind_some _ _).symm.trans H;with_reducible exact H2_) | with_reducible exact H | (rw [hy345];exact H) | exact H
      have Ny345:=Aside0.mk hy345
      clear hy345
      obtain ⟨y348,hy348⟩ : ∃ y_ : List (List Int),y_ = (x3_2.set ((rd (rd_L3 l0 (rd t337 x16_1)) x25_2) : Int).toNat y345):=⟨_,rfl⟩
      replace H : (impl_preds.l1 k2 l0 y348 (rd t337 x16_1) t337 (t337.length : Int) x16_1 (rd_L3 l0 (rd t337 x16_1)) ((rd_L3 l0 (rd t337 x16_1)).length : Int) (wrap64 (x25_2 + 1))) = some r:=by first | (rw [hy348];with_reducible exact H) | (have H2_:=(Option.bind_some _ _).symm.trans H;rw [hy348];with_reducible exact H2_) | (have H2_:=(Option.bind_some _ _).symm.trans H;with_reducible exact H2_) | with_reducible exact H | (rw [hy348];exact H) | exact H
      have Ny348:=Aside0.mk hy348
      clear hy348
      have H':=Aside0.mk H
      clear H
      have p342 : 0 ≤ (x25_2 : Int):=of_decide_eq_true (by assumption)
      have q342 : x25_2 < ((rd_L3 l0 (rd t337 x16_1)).length : Int):=of_decide_eq_true (by assumption)
      obtain ⟨ad342,e342,hx342_0⟩:=Kd.at_int HR341_0.out x25_2 p342 q342
      cases e342
      replace hx342_0:=(HB.out.cell (World.block_lt_of_cell? w _ hx342_0)).trans hx342_0
      replace p342:=eq_true p342
      replace q342:=eq_true q342
      obtain ⟨Ao25,co25,eo25⟩:=Kd.S_slice HO_3.out
      subst eo25
      have p343 : 0 ≤ ((rd (rd_L3 l0 (rd t337 x16_1)) x25_2) : Int):=of_decide_eq_true (by assumption)
      have q343 : (rd (rd_L3 l0 (rd t337 x16_1)) x25_2) < (x3_2.length : Int):=of_decide_eq_true (by assumption)
      obtain ⟨ad343,A343_0,c343_0,e343,hx343_0,hl343_0,hi343_0⟩:=at_L3 (Kd.S_reads' HO_3.out).2.2 (rd (rd_L3 l0 (rd t337 x16_1)) x25_2) p343 q343
      cases e343
      obtain ⟨ce343,hce343,hMe343,hcc343⟩:=Kd.S_get HO_3.out [] (rd (rd_L3 l0 (rd t337 x16_1)) x25_2) p343 (by first | exact q343 | exact of_decide_eq_true (by assumption) | (have e_:=(Kd.S_reads' HO_3.out).1;omega))
      obtain ⟨ve343_0,rfl,ge343_0⟩:=hMe343
      have hv343_0:=hcc343 0 _ rfl
      rw [Nat.add_zero,show ((Kd.slice 3 (Kd.int .i64))).sz = 1 from rfl,Nat.mul_one] at hv343_0
      replace hv343_0:=Option.some.inj (hv343_0.symm.trans hx343_0)
      rw [hv343_0] at ge343_0
      have HL343_0:=Aside0.mk (show Kd.R (Kd.int .i64) 3 _ _ _ _ (rd_L3 x3_2 (rd (rd_L3 l0 (rd t337 x16_1)) x25_2)) from ge343_0)
      clear hv343_0 ge343_0
      have HX343_0:=Aside0.mk hx343_0
      clear hcc343 hce343
      have HR343_0:=Aside0.mk hi343_0
      have HC343_0:=Aside0.mk hl343_0
      clear hi343_0 hl343_0
      replace p343:=eq_true p343
      replace q343:=eq_true q343
      have p344 : 0 ≤ ((rd (rd_L3 l0 (rd t337 x16_1)) x25_2) : Int):=of_decide_eq_true (by assumption)
      have q344 : (rd (rd_L3 l0 (rd t337 x16_1)) x25_2) < (x3_2.length : Int):=of_decide_eq_true (by assumption)
      obtain ⟨ad344,A344_0,c344_0,e344,hx344_0,hl344_0,hi344_0⟩:=at_L3 (Kd.S_reads' HO_3.out).2.2 (rd (rd_L3 l0 (rd t337 x16_1)) x25_2) p344 q344
      obtain rfl : ad343 = ad344:=(by injection e344)
      obtain ⟨ce344,hce344,hMe344,hcc344⟩:=Kd.S_get HO_3.out [] (rd (rd_L3 l0 (rd t337 x16_1)) x25_2) p344 (by first | exact q344 | exact of_decide_eq_true (by assumption) | (have e_:=(Kd.S_reads' HO_3.out).1;omega))
      obtain ⟨ve344_0,rfl,ge344_0⟩:=hMe344
      have hv344_0:=hcc344 0 _ rfl
      rw [Nat.add_zero,show ((Kd.slice 3 (Kd.int .i64))).sz = 1 from rfl,Nat.mul_one] at hv344_0
      replace hv344_0:=Option.some.inj (hv344_0.symm.trans hx344_0)
      rw [hv344_0] at ge344_0
      have HL344_0:=Aside0.mk (show Kd.R (Kd.int .i64) 3 _ _ _ _ (rd_L3 x3_2 (rd (rd_L3 l0 (rd t337 x16_1)) x25_2)) from ge344_0)
      clear hv344_0 ge344_0
      have HX344_0:=Aside0.mk hx344_0
      clear hcc344 hce344
      have HR344_0:=Aside0.mk hi344_0
      have HC344_0:=Aside0.mk hl344_0
      clear hi344_0 hl344_0
      replace p344:=eq_true p344
      replace q344:=eq_true q344
      have ea_:=Option.some.inj (hx343_0.symm.trans hx344_0)
      injection ea_ with ea_ en_ ec_
      subst ea_
      subst ec_
      clear en_
      obtain ⟨go26,co26,eo26,gb26,gl26,cl26,HG26⟩:=Kd.S_form HO_3.out (by have h_ : ((rd (rd_L3 l0 (rd t337 x16_1)) x25_2) : Int) < ((x3_2.length : Int) : Int):=of_decide_eq_true (by assumption);have h2_ : 0 ≤ ((rd (rd_L3 l0 (rd t337 x16_1)) x25_2) : Int):=(of_decide_eq_true (by assumption));omega)
      (first | cases eo26 | (injection eo26 with ea_ en_ ec_;(first | subst ea_ | (injection ea_ with ea_;subst ea_));subst ec_;clear en_))
      have GB26:=Aside0.mk gb26
      have GG26:=Aside0.mk HG26
      clear gb26 gl26 HG26
      (first | simp only [add_plain] at hx343_0 | skip)
      (first | simp only [add_plain] at hx344_0 | skip)
      obtain ⟨oki26,ce26,hcl26,hM26,hcc26,_,_,hH26⟩:=Kd.S_elem HO_3.out [] ((rd (rd_L3 l0 (rd t337 x16_1)) x25_2) : Int) (of_decide_eq_true (by assumption)) (by have h_ : ((rd (rd_L3 l0 (rd t337 x16_1)) x25_2) : Int) < ((x3_2.length : Int) : Int):=of_decide_eq_true (by assumption);first | exact h_ | (have e_:=(Kd.S_reads' HO_3.out).1;omega) | simpa using h_)
      obtain ⟨ve26_0,rfl,ge26_0⟩:=hM26
      have hv26:=hcc26 0 _ rfl
      have hX26:=HX344_0.out
      (try simp only [add_plain] at hX26)
      (try simp only [Nat.add_zero] at hv26)
      (try rw [show ((Kd.slice 3 (Kd.int .i64))).sz = 1 from rfl,Nat.mul_one] at hv26)
      replace hv26:=Option.some.inj (hv26.symm.trans hX26)
      subst hv26
      clear hX26 hcc26 hcl26
      have UU26:=Aside0.mk (show Kd.R (Kd.int .i64) 3 _ w.heap.size oki26 (.slice A343_0 (rd_L3 x3_2 (rd (rd_L3 l0 (rd t337 x16_1)) x25_2)).length c343_0) (rd_L3 x3_2 (rd (rd_L3 l0 (rd t337 x16_1)) x25_2)) from ge26_0)
      have HH26:=Aside0.mk hH26
      have HN26:=Aside0.mk (Kd.S_reads' HO_3.out).1
      clear hH26 ge26_0
      go_wp2_with (first | ((with_reducible refine gate_builtin (b:=.append) (xs:=#[.tmp 53,.tmp 55]) rfl ?_);at_builtin;refine Kd.R_append (Kd.int .i64) (w0:=w) w.heap.size rfl (.tmp 53) (.tmp 55) 37 3 (.int .i64 0) 8 rfl Try.underlying37 info3 rfl (by decide) (by omega) (.slice A343_0 (rd_L3 x3_2 (rd (rd_L3 l0 (rd t337 x16_1)) x25_2)).length c343_0) (rd_L3 x3_2 (rd (rd_L3 l0 (rd t337 x16_1)) x25_2)) (rd t337 x16_1) [.int .i64 (rd t337 x16_1)] (fun k_ => oki26 k_ ∨ ((fun k_ => some k_ ≠ (.slice (some ad340) t337.length co11 : Value).ownBlock)) k_ ∧ wr.heap.size ≤ k_) (fun _ => False) rfl rfl ?aP (fun _ hk => hk.elim) ?aF ?aO ?aB ?aS ?aL ?_;(case aP => exact rfl);(case aB => exact (by repeat (with_reducible first | exact HB.out | apply below_alloc | apply pw_below_drewN | apply below_drew1)));(case aF => exact (fun k_ hk => .inr ⟨Kd.fresh' (Kd.R_lt (by (with_reducible repeat (first | apply Kd.R_alloc | apply Kd.R_drewN | apply Kd.R_drew));exact HO_14.out)) k_ hk,hk⟩));(case aO => exact (by (with_reducible repeat (first | apply Kd.R_alloc | apply Kd.R_drewN | apply Kd.R_drew));exact Kd.R_mono UU26.out (fun _ hk => .inl hk)));(case aS => exact (below_size (by repeat (with_reducible first | exact HB.out | apply below_alloc | apply pw_below_drewN | apply below_drew1))));(case aL => have:=LMc23.out;omega);intro v346 w27 ho hb hg hat;rw [← Ny345.out] at ho;have n0_:=Aside0.mk (Kd.R_grown2 (by (with_reducible repeat (first | apply Kd.R_alloc | apply Kd.R_drewN | apply Kd.R_drew));exact HO_14.out) rfl hg (fun k_ e_ => (HL344_0.out.1 k_ e_).1));have n1_:=Aside0.mk (hb);have n2_:=Aside0.mk (Kd.H_grown (Kd.H_widen (by repeat (first | exact HH26.out | refine Kd.H_alloc ?_ _ | refine Kd.H_drewN ?_ _ | refine Kd.H_drew ?_))) hg (fun k_ e_ => .inl (UU26.out.1 k_ e_)));have n3_:=Aside0.mk (ho);clear HO_14;clear HB;clear HH26;clear HO_3;clear UU26;clear HL343_0;clear HL344_0;have HO_14:=n0_;have HB:=n1_;have HH26:=n2_;have HO347:=n3_;clear n0_ n1_ n2_ n3_;clear ho hb hg hat;have p24 : 0 ≤ ((rd (rd_L3 l0 (rd t337 x16_1)) x25_2) : Int):=of_decide_eq_true (by assumption);have q24 : ((rd (rd_L3 l0 (rd t337 x16_1)) x25_2) : Int) < ((x3_2.length : Int) : Int):=of_decide_eq_true (by assumption);replace p24:=eq_true p24;replace q24:=eq_true q24;obtain ⟨Ao30,co30,eo30⟩:=Kd.R_slice HO347.out;subst eo30;obtain ⟨_,_,hraw28,_,_,hcc28,_⟩:=Kd.H_raw HH26.out (of_decide_eq_true (by assumption)) (by have h_ : ((rd (rd_L3 l0 (rd t337 x16_1)) x25_2) : Int) < ((x3_2.length : Int) : Int):=of_decide_eq_true (by assumption);first | exact h_ | (have e_:=(HN26.out);omega) | simpa using h_);obtain ⟨_,hfr28⟩:=Kd.H_at HH26.out (of_decide_eq_true (by assumption)) (by have h_ : ((rd (rd_L3 l0 (rd t337 x16_1)) x25_2) : Int) < ((x3_2.length : Int) : Int):=of_decide_eq_true (by assumption);first | exact h_ | (have e_:=(HN26.out);omega) | simpa using h_);have hx28_0:=hcc28 0 _ rfl;have hf28_0:=hfr28 0;(try simp only [Nat.add_zero] at hx28_0 hf28_0);(try rw [show ((Kd.slice 3 (Kd.int .i64))).sz = 1 from rfl,Nat.mul_one] at hx28_0);(try rw [show ((Kd.slice 3 (Kd.int .i64))).sz = 1 from rfl,Nat.mul_one] at hf28_0);have HP28:=Kd.S_seg0 HH26.out (of_decide_eq_true (by assumption)) (by have h_ : ((rd (rd_L3 l0 (rd t337 x16_1)) x25_2) : Int) < ((x3_2.length : Int) : Int):=of_decide_eq_true (by assumption);first | exact h_ | (have e_:=(HN26.out);omega) | simpa using h_) (seg:=[.slice Ao30 y345.length co30]) (j:=0) (show 1 ≤ 1 from by decide) (x':=y345) (Kd.M_row HO347.out) (fun _ hk => hk);(try simp only [show ((Kd.slice 3 (Kd.int .i64))).sz = 1 from rfl,Nat.mul_one,Nat.add_zero] at HP28);clear hcc28 hfr28) | ((with_reducible refine gate_store (t:=37) (p:=57) rfl ?_);refine store_event (t:=37) (p:=57) (v:=?vo_w29) (w1:=(w27.setCell ⟨go26,((rd (rd_L3 l0 (rd t337 x16_1)) x25_2) : Int).toNat,none⟩ (.slice Ao30 y345.length co30))) ?hg ?ho ?hn ?hr ?_;(case ho => rfl);(case hg => rfl);(case hn => rfl);(case hr => first | (go_simp;done) | (go_simp;rfl));intro w29 hw;have hg : w27.grownBy w29 (some go26):=(by rw [hw];exact HP28.2);have hp_ : Kd.S (Kd.slice 3 (Kd.int .i64)) 37 w29 w.heap.size (fun k_ => some k_ ≠ (.slice (some ad340) t337.length co11 : Value).ownBlock) (.slice (some ⟨go26,0,none⟩) x3_2.length co25) y348:=(by rw [hw,Ny348.out];exact HP28.1);clear HP28;have n0_:=Aside0.mk (Kd.R_over' (v:=(.slice (some ⟨go26,0,none⟩) x3_2.length co25)) (by (with_reducible repeat (first | apply Kd.R_alloc | apply Kd.R_drewN | apply Kd.R_drew));exact HO_14.out) (Kd.R_typed hraw28) (by decide) hg);have n1_:=Aside0.mk ((by rw [hw];exact below_set HB.out GB26.out : Below w.heap.size w w29));have n2_:=Aside0.mk (hp_);clear HO_14;clear HB;clear HO347;clear HH26;have HO_14:=n0_;have HB:=n1_;have HO_3:=n2_;clear n0_ n1_ n2_;clear hg hw hp_ hraw28))
      go_roundg k2
      case measure => have:=HK1.out;have:=HK2.out;omega
      case rel => exact ⟨(y348),(wrap64 (x25_2 + 1)),(by first | rfl | (simp;done) | (simp [*];done)),H',⟨by have:=HK1.out;have:=HK2.out;omega⟩,⟨by (with_reducible repeat (first | apply Kd.S_alloc | apply Kd.S_drewN | apply Kd.S_drew));exact HO_3.out⟩,⟨by (with_reducible repeat (first | apply Kd.R_alloc | apply Kd.R_drewN | apply Kd.R_drew));exact HO_14.out⟩,⟨by repeat (with_reducible first | exact HB.out | apply below_alloc | apply pw_below_drewN | apply below_drew1)⟩⟩
     rw [if_neg c22] at H
     have c22b0 : (((rd_L3 x3_2 (rd (rd_L3 l0 (rd t337 x16_1)) x25_2)).length : Int) == 0) = false:=beq_eq_false_iff_ne.mpr c22
     have c22b1 : (((rd_L3 x3_2 (rd (rd_L3 l0 (rd t337 x16_1)) x25_2)).length : Int) != 0) = true:=bne_iff_ne.mpr c22
     have c22b2 : ¬ ((rd_L3 x3_2 (rd (rd_L3 l0 (rd t337 x16_1)) x25_2)) = []):=fun h_ => c22 (by rw [h_];rfl)
     obtain ⟨ji31,hji31⟩ : ∃ j_ : Int,(wrap64 (((rd_L3 x3_2 (rd (rd_L3 l0 (rd t337 x16_1)) x25_2)).length : Int) - 1)) = j_:=⟨_,rfl⟩
     replace H : (if 0 ≤ (ji31) then (if (ji31) < ((rd_L3 x3_2 (rd (rd_L3 l0 (rd t337 x16_1)) x25_2)).length : Int) then (if (rd (rd_L3 x3_2 (rd (rd_L3 l0 (rd t337 x16_1)) x25_2)) (ji31)) = (rd t337 x16_1) then (impl_preds.l1 k2 l0 x3_2 (rd t337 x16_1) t337 (t337.length : Int) x16_1 (rd_L3 l0 (rd t337 x16_1)) ((rd_L3 l0 (rd t337 x16_1)).length : Int) (wrap64 (x25_2 + 1))) else (if (rd_L3 x3_2 (rd (rd_L3 l0 (rd t337 x16_1)) x25_2)).length < 17592186044416 then (impl_preds.l1 k2 l0 (x3_2.set ((rd (rd_L3 l0 (rd t337 x16_1)) x25_2) : Int).toNat ((rd_L3 x3_2 (rd (rd_L3 l0 (rd t337 x16_1)) x25_2)) ++ [(rd t337 x16_1)])) (rd t337 x16_1) t337 (t337.length : Int) x16_1 (rd_L3 l0 (rd t337 x16_1)) ((rd_L3 l0 (rd t337 x16_1)).length : Int) (wrap64 (x25_2 + 1))) else (none))) else (none)) else (none)) = some r:=by first | (rw [hji31] at H;exact H) | (simp only [hji31] at H ⊢;exact H)
     have hji31w : (IntKind.i64.wrap (((rd_L3 x3_2 (rd (rd_L3 l0 (rd t337 x16_1)) x25_2)).length : Int) - 1)) = ji31:=(i64_w _).trans hji31
     by_cases c32 : 0 ≤ (ji31)
     rotate_left
     ·rw [if_neg c32] at H
      exact absurd H (by simp)
     rw [if_pos c32] at H
     have c32b0 : decide (0 ≤ (ji31)) = true:=decide_eq_true c32
     clear c32
     by_cases c33 : (ji31) < ((rd_L3 x3_2 (rd (rd_L3 l0 (rd t337 x16_1)) x25_2)).length : Int)
     rotate_left
     ·rw [if_neg c33] at H
      exact absurd H (by simp)
     rw [if_pos c33] at H
     have c33b0 : decide ((ji31) < ((rd_L3 x3_2 (rd (rd_L3 l0 (rd t337 x16_1)) x25_2)).length : Int)) = true:=decide_eq_true c33
     clear c33
     by_cases c34 : (rd (rd_L3 x3_2 (rd (rd_L3 l0 (rd t337 x16_1)) x25_2)) (ji31)) = (rd t337 x16_1)
     ·rw [if_pos c34] at H
      have c34b0 : ((rd (rd_L3 x3_2 (rd (rd_L3 l0 (rd t337 x16_1)) x25_2)) (ji31)) == (rd t337 x16_1)) = true:=beq_iff_eq.mpr c34
      have c34b1 : ((rd (rd_L3 x3_2 (rd (rd_L3 l0 (rd t337 x16_1)) x25_2)) (ji31)) != (rd t337 x16_1)) = false:=bne_eq_false_iff_eq.mpr c34
      clear c34
      have H':=Aside0.mk H
      clear H
      have p342 : 0 ≤ (x25_2 : Int):=of_decide_eq_true (by assumption)
      have q342 : x25_2 < ((rd_L3 l0 (rd t337 x16_1)).length : Int):=of_decide_eq_true (by assumption)
      obtain ⟨ad342,e342,hx342_0⟩:=Kd.at_int HR341_0.out x25_2 p342 q342
      cases e342
      replace hx342_0:=(HB.out.cell (World.block_lt_of_cell? w _ hx342_0)).trans hx342_0
      replace p342:=eq_true p342
      replace q342:=eq_true q342
      obtain ⟨Ao35,co35,eo35⟩:=Kd.S_slice HO_3.out
      subst eo35
      have p343 : 0 ≤ ((rd (rd_L3 l0 (rd t337 x16_1)) x25_2) : Int):=of_decide_eq_true (by assumption)
      have q343 : (rd (rd_L3 l0 (rd t337 x16_1)) x25_2) < (x3_2.length : Int):=of_decide_eq_true (by assumption)
      obtain ⟨ad343,A343_0,c343_0,e343,hx343_0,hl343_0,hi343_0⟩:=at_L3 (Kd.S_reads' HO_3.out).2.2 (rd (rd_L3 l0 (rd t337 x16_1)) x25_2) p343 q343
      cases e343
      obtain ⟨ce343,hce343,hMe343,hcc343⟩:=Kd.S_get HO_3.out [] (rd (rd_L3 l0 (rd t337 x16_1)) x25_2) p343 (by first | exact q343 | exact of_decide_eq_true (by assumption) | (have e_:=(Kd.S_reads' HO_3.out).1;omega))
      obtain ⟨ve343_0,rfl,ge343_0⟩:=hMe343
      have hv343_0:=hcc343 0 _ rfl
      rw [Nat.add_zero,show ((Kd.slice 3 (Kd.int .i64))).sz = 1 from rfl,Nat.mul_one] at hv343_0
      replace hv343_0:=Option.some.inj (hv343_0.symm.trans hx343_0)
      rw [hv343_0] at ge343_0
      have HL343_0:=Aside0.mk (show Kd.R (Kd.int .i64) 3 _ _ _ _ (rd_L3 x3_2 (rd (rd_L3 l0 (rd t337 x16_1)) x25_2)) from ge343_0)
      clear hv343_0 ge343_0
      have HX343_0:=Aside0.mk hx343_0
      clear hcc343 hce343
      have HR343_0:=Aside0.mk hi343_0
      have HC343_0:=Aside0.mk hl343_0
      clear hi343_0 hl343_0
      replace p343:=eq_true p343
      replace q343:=eq_true q343
      have p349 : 0 ≤ ((rd (rd_L3 l0 (rd t337 x16_1)) x25_2) : Int):=of_decide_eq_true (by assumption)
      have q349 : (rd (rd_L3 l0 (rd t337 x16_1)) x25_2) < (x3_2.length : Int):=of_decide_eq_true (by assumption)
      obtain ⟨ad349,A349_0,c349_0,e349,hx349_0,hl349_0,hi349_0⟩:=at_L3 (Kd.S_reads' HO_3.out).2.2 (rd (rd_L3 l0 (rd t337 x16_1)) x25_2) p349 q349
      obtain rfl : ad343 = ad349:=(by injection e349)
      obtain ⟨ce349,hce349,hMe349,hcc349⟩:=Kd.S_get HO_3.out [] (rd (rd_L3 l0 (rd t337 x16_1)) x25_2) p349 (by first | exact q349 | exact of_decide_eq_true (by assumption) | (have e_:=(Kd.S_reads' HO_3.out).1;omega))
      obtain ⟨ve349_0,rfl,ge349_0⟩:=hMe349
      have hv349_0:=hcc349 0 _ rfl
      rw [Nat.add_zero,show ((Kd.slice 3 (Kd.int .i64))).sz = 1 from rfl,Nat.mul_one] at hv349_0
      replace hv349_0:=Option.some.inj (hv349_0.symm.trans hx349_0)
      rw [hv349_0] at ge349_0
      have HL349_0:=Aside0.mk (show Kd.R (Kd.int .i64) 3 _ _ _ _ (rd_L3 x3_2 (rd (rd_L3 l0 (rd t337 x16_1)) x25_2)) from ge349_0)
      clear hv349_0 ge349_0
      have HX349_0:=Aside0.mk hx349_0
      clear hcc349 hce349
      have HR349_0:=Aside0.mk hi349_0
      have HC349_0:=Aside0.mk hl349_0
      clear hi349_0 hl349_0
      replace p349:=eq_true p349
      replace q349:=eq_true q349
      have ea_:=Option.some.inj (hx343_0.symm.trans hx349_0)
      injection ea_ with ea_ en_ ec_
      subst ea_
      subst ec_
      clear en_
      have p350 : 0 ≤ ((ji31) : Int):=of_decide_eq_true (by assumption)
      have q350 : (ji31) < ((rd_L3 x3_2 (rd (rd_L3 l0 (rd t337 x16_1)) x25_2)).length : Int):=of_decide_eq_true (by assumption)
      obtain ⟨ad350,e350,hx350_0⟩:=Kd.at_int (by repeat (first | (with_reducible exact HR349_0.out) | (with_reducible refine Kd.C_alloc ?_ _) | (with_reducible refine Kd.C_drewN ?_ _) | (with_reducible refine Kd.C_drew ?_) | exact HR349_0.out)) (ji31) p350 q350
      cases e350
      replace p350:=eq_true p350
      replace q350:=eq_true q350
      go_wp2
      go_roundg k2
      case measure => have:=HK1.out;have:=HK2.out;omega
      case rel => exact ⟨(x3_2),(wrap64 (x25_2 + 1)),(by first | rfl | (simp;done) | (simp [*];done)),H',⟨by have:=HK1.out;have:=HK2.out;omega⟩,⟨by (with_reducible repeat (first | apply Kd.S_alloc | apply Kd.S_drewN | apply Kd.S_drew));exact HO_3.out⟩,⟨by (with_reducible repeat (first | apply Kd.R_alloc | apply Kd.R_drewN | apply Kd.R_drew));exact HO_14.out⟩,⟨by repeat (with_reducible first | exact HB.out | apply below_alloc | apply pw_below_drewN | apply below_drew1)⟩⟩
     rw [if_neg c34] at H
     have c34b0 : ((rd (rd_L3 x3_2 (rd (rd_L3 l0 (rd t337 x16_1)) x25_2)) (ji31)) == (rd t337 x16_1)) = false:=beq_eq_false_iff_ne.mpr c34
     have c34b1 : ((rd (rd_L3 x3_2 (rd (rd_L3 l0 (rd t337 x16_1)) x25_2)) (ji31)) != (rd t337 x16_1)) = true:=bne_iff_ne.mpr c34
     by_cases c36 : (rd_L3 x3_2 (rd (rd_L3 l0 (rd t337 x16_1)) x25_2)).length < 17592186044416
     rotate_left
     ·rw [if_neg c36] at H
      exact absurd H (by simp)
     rw [if_pos c36] at H
     have LMc36:=Aside0.mk c36
     clear c36
     obtain ⟨y352,hy352⟩ : ∃ y_ : List Int,y_ = ((rd_L3 x3_2 (rd (rd_L3 l0 (rd t337 x16_1)) x25_2)) ++ [(rd t337 x16_1)]):=⟨_,rfl⟩
     replace H : (impl_preds.l1 k2 l0 (x3_2.set ((rd (rd_L3 l0 (rd t337 x16_1)) x25_2) : Int).toNat y352) (rd t337 x16_1) t337 (t337.length : Int) x16_1 (rd_L3 l0 (rd t337 x16_1)) ((rd_L3 l0 (rd t337 x16_1)).length : Int) (wrap64 (x25_2 + 1))) = some r:=by first | (rw [hy352];with_reducible exact H) | (have H2_:=(Option.bind_some _ _).symm.trans H;rw [hy352];with_reducible exact H2_) | (have H2_:=(Option.bind_some _ _).symm.trans H;with_reducible exact H2_) | with_reducible exact H | (rw [hy352];exact H) | exact H
     have Ny352:=Aside0.mk hy352
     clear hy352
     obtain ⟨y355,hy355⟩ : ∃ y_ : List (List Int),y_ = (x3_2.set ((rd (rd_L3 l0 (rd t337 x16_1)) x25_2) : Int).toNat y352):=⟨_,rfl⟩
     replace H : (impl_preds.l1 k2 l0 y355 (rd t337 x16_1) t337 (t337.length : Int) x16_1 (rd_L3 l0 (rd t337 x16_1)) ((rd_L3 l0 (rd t337 x16_1)).length : Int) (wrap64 (x25_2 + 1))) = some r:=by first | (rw [hy355];with_reducible exact H) | (have H2_:=(Option.bind_some _ _).symm.trans H;rw [hy355];with_reducible exact H2_) | (have H2_:=(Option.bind_some _ _).symm.trans H;with_reducible exact H2_) | with_reducible exact H | (rw [hy355];exact H) | exact H
     have Ny355:=Aside0.mk hy355
     clear hy355
     have H':=Aside0.mk H
     clear H
     have p342 : 0 ≤ (x25_2 : Int):=of_decide_eq_true (by assumption)
     have q342 : x25_2 < ((rd_L3 l0 (rd t337 x16_1)).length : Int):=of_decide_eq_true (by assumption)
     obtain ⟨ad342,e342,hx342_0⟩:=Kd.at_int HR341_0.out x25_2 p342 q342
     cases e342
     replace hx342_0:=(HB.out.cell (World.block_lt_of_cell? w _ hx342_0)).trans hx342_0
     replace p342:=eq_true p342
     replace q342:=eq_true q342
     obtain ⟨Ao38,co38,eo38⟩:=Kd.S_slice HO_3.out
     subst eo38
     have p343 : 0 ≤ ((rd (rd_L3 l0 (rd t337 x16_1)) x25_2) : Int):=of_decide_eq_true (by assumption)
     have q343 : (rd (rd_L3 l0 (rd t337 x16_1)) x25_2) < (x3_2.length : Int):=of_decide_eq_true (by assumption)
     obtain ⟨ad343,A343_0,c343_0,e343,hx343_0,hl343_0,hi343_0⟩:=at_L3 (Kd.S_reads' HO_3.out).2.2 (rd (rd_L3 l0 (rd t337 x16_1)) x25_2) p343 q343
     cases e343
     obtain ⟨ce343,hce343,hMe343,hcc343⟩:=Kd.S_get HO_3.out [] (rd (rd_L3 l0 (rd t337 x16_1)) x25_2) p343 (by first | exact q343 | exact of_decide_eq_true (by assumption) | (have e_:=(Kd.S_reads' HO_3.out).1;omega))
     obtain ⟨ve343_0,rfl,ge343_0⟩:=hMe343
     have hv343_0:=hcc343 0 _ rfl
     rw [Nat.add_zero,show ((Kd.slice 3 (Kd.int .i64))).sz = 1 from rfl,Nat.mul_one] at hv343_0
     replace hv343_0:=Option.some.inj (hv343_0.symm.trans hx343_0)
     rw [hv343_0] at ge343_0
     have HL343_0:=Aside0.mk (show Kd.R (Kd.int .i64) 3 _ _ _ _ (rd_L3 x3_2 (rd (rd_L3 l0 (rd t337 x16_1)) x25_2)) from ge343_0)
     clear hv343_0 ge343_0
     have HX343_0:=Aside0.mk hx343_0
     clear hcc343 hce343
     have HR343_0:=Aside0.mk hi343_0
     have HC343_0:=Aside0.mk hl343_0
     clear hi343_0 hl343_0
     replace p343:=eq_true p343
     replace q343:=eq_true q343
     have p349 : 0 ≤ ((rd (rd_L3 l0 (rd t337 x16_1)) x25_2) : Int):=of_decide_eq_true (by assumption)
     have q349 : (rd (rd_L3 l0 (rd t337 x16_1)) x25_2) < (x3_2.length : Int):=of_decide_eq_true (by assumption)
     obtain ⟨ad349,A349_0,c349_0,e349,hx349_0,hl349_0,hi349_0⟩:=at_L3 (Kd.S_reads' HO_3.out).2.2 (rd (rd_L3 l0 (rd t337 x16_1)) x25_2) p349 q349
     obtain rfl : ad343 = ad349:=(by injection e349)
     obtain ⟨ce349,hce349,hMe349,hcc349⟩:=Kd.S_get HO_3.out [] (rd (rd_L3 l0 (rd t337 x16_1)) x25_2) p349 (by first | exact q349 | exact of_decide_eq_true (by assumption) | (have e_:=(Kd.S_reads' HO_3.out).1;omega))
     obtain ⟨ve349_0,rfl,ge349_0⟩:=hMe349
     have hv349_0:=hcc349 0 _ rfl
     rw [Nat.add_zero,show ((Kd.slice 3 (Kd.int .i64))).sz = 1 from rfl,Nat.mul_one] at hv349_0
     replace hv349_0:=Option.some.inj (hv349_0.symm.trans hx349_0)
     rw [hv349_0] at ge349_0
     have HL349_0:=Aside0.mk (show Kd.R (Kd.int .i64) 3 _ _ _ _ (rd_L3 x3_2 (rd (rd_L3 l0 (rd t337 x16_1)) x25_2)) from ge349_0)
     clear hv349_0 ge349_0
     have HX349_0:=Aside0.mk hx349_0
     clear hcc349 hce349
     have HR349_0:=Aside0.mk hi349_0
     have HC349_0:=Aside0.mk hl349_0
     clear hi349_0 hl349_0
     replace p349:=eq_true p349
     replace q349:=eq_true q349
     have ea_:=Option.some.inj (hx343_0.symm.trans hx349_0)
     injection ea_ with ea_ en_ ec_
     subst ea_
     subst ec_
     clear en_
     have p350 : 0 ≤ ((ji31) : Int):=of_decide_eq_true (by assumption)
     have q350 : (ji31) < ((rd_L3 x3_2 (rd (rd_L3 l0 (rd t337 x16_1)) x25_2)).length : Int):=of_decide_eq_true (by assumption)
     obtain ⟨ad350,e350,hx350_0⟩:=Kd.at_int (by repeat (first | (with_reducible exact HR349_0.out) | (with_reducible refine Kd.C_alloc ?_ _) | (with_reducible refine Kd.C_drewN ?_ _) | (with_reducible refine Kd.C_drew ?_) | exact HR349_0.out)) (ji31) p350 q350
     cases e350
     replace p350:=eq_true p350
     replace q350:=eq_true q350
     have p351 : 0 ≤ ((rd (rd_L3 l0 (rd t337 x16_1)) x25_2) : Int):=of_decide_eq_true (by assumption)
     have q351 : (rd (rd_L3 l0 (rd t337 x16_1)) x25_2) < (x3_2.length : Int):=of_decide_eq_true (by assumption)
     obtain ⟨ad351,A351_0,c351_0,e351,hx351_0,hl351_0,hi351_0⟩:=at_L3 (Kd.S_reads' HO_3.out).2.2 (rd (rd_L3 l0 (rd t337 x16_1)) x25_2) p351 q351
     obtain rfl : ad343 = ad351:=(by injection e351)
     obtain ⟨ce351,hce351,hMe351,hcc351⟩:=Kd.S_get HO_3.out [] (rd (rd_L3 l0 (rd t337 x16_1)) x25_2) p351 (by first | exact q351 | exact of_decide_eq_true (by assumption) | (have e_:=(Kd.S_reads' HO_3.out).1;omega))
     obtain ⟨ve351_0,rfl,ge351_0⟩:=hMe351
     have hv351_0:=hcc351 0 _ rfl
     rw [Nat.add_zero,show ((Kd.slice 3 (Kd.int .i64))).sz = 1 from rfl,Nat.mul_one] at hv351_0
     replace hv351_0:=Option.some.inj (hv351_0.symm.trans hx351_0)
     rw [hv351_0] at ge351_0
     have HL351_0:=Aside0.mk (show Kd.R (Kd.int .i64) 3 _ _ _ _ (rd_L3 x3_2 (rd (rd_L3 l0 (rd t337 x16_1)) x25_2)) from ge351_0)
     clear hv351_0 ge351_0
     have HX351_0:=Aside0.mk hx351_0
     clear hcc351 hce351
     have HR351_0:=Aside0.mk hi351_0
     have HC351_0:=Aside0.mk hl351_0
     clear hi351_0 hl351_0
     replace p351:=eq_true p351
     replace q351:=eq_true q351
     have ea_:=Option.some.inj (hx343_0.symm.trans hx351_0)
     injection ea_ with ea_ en_ ec_
     subst ea_
     subst ec_
     clear en_
     obtain ⟨go39,co39,eo39,gb39,gl39,cl39,HG39⟩:=Kd.S_form HO_3.out (by have h_ : ((rd (rd_L3 l0 (rd t337 x16_1)) x25_2) : Int) < ((x3_2.length : Int) : Int):=of_decide_eq_true (by assumption);have h2_ : 0 ≤ ((rd (rd_L3 l0 (rd t337 x16_1)) x25_2) : Int):=(of_decide_eq_true (by assumption));omega)
     (first | cases eo39 | (injection eo39 with ea_ en_ ec_;(first | subst ea_ | (injection ea_ with ea_;subst ea_));subst ec_;clear en_))
     have GB39:=Aside0.mk gb39
     have GG39:=Aside0.mk HG39
     clear gb39 gl39 HG39
     (first | simp only [add_plain] at hx343_0 | skip)
     (first | simp only [add_plain] at hx349_0 | skip)
     (first | simp only [add_plain] at hx351_0 | skip)
     obtain ⟨oki39,ce39,hcl39,hM39,hcc39,_,_,hH39⟩:=Kd.S_elem HO_3.out [] ((rd (rd_L3 l0 (rd t337 x16_1)) x25_2) : Int) (of_decide_eq_true (by assumption)) (by have h_ : ((rd (rd_L3 l0 (rd t337 x16_1)) x25_2) : Int) < ((x3_2.length : Int) : Int):=of_decide_eq_true (by assumption);first | exact h_ | (have e_:=(Kd.S_reads' HO_3.out).1;omega) | simpa using h_)
     obtain ⟨ve39_0,rfl,ge39_0⟩:=hM39
     have hv39:=hcc39 0 _ rfl
     have hX39:=HX351_0.out
     (try simp only [add_plain] at hX39)
     (try simp only [Nat.add_zero] at hv39)
     (try rw [show ((Kd.slice 3 (Kd.int .i64))).sz = 1 from rfl,Nat.mul_one] at hv39)
     replace hv39:=Option.some.inj (hv39.symm.trans hX39)
     subst hv39
     clear hX39 hcc39 hcl39
     have UU39:=Aside0.mk (show Kd.R (Kd.int .i64) 3 _ w.heap.size oki39 (.slice (some ad350) (rd_L3 x3_2 (rd (rd_L3 l0 (rd t337 x16_1)) x25_2)).length c343_0) (rd_L3 x3_2 (rd (rd_L3 l0 (rd t337 x16_1)) x25_2)) from ge39_0)
     have HH39:=Aside0.mk hH39
     have HN39:=Aside0.mk (Kd.S_reads' HO_3.out).1
     clear hH39 ge39_0
     go_wp2_with (first | ((with_reducible refine gate_builtin (b:=.append) (xs:=#[.tmp 53,.tmp 55]) rfl ?_);at_builtin;refine Kd.R_append (Kd.int .i64) (w0:=w) w.heap.size rfl (.tmp 53) (.tmp 55) 37 3 (.int .i64 0) 8 rfl Try.underlying37 info3 rfl (by decide) (by omega) (.slice (some ad350) (rd_L3 x3_2 (rd (rd_L3 l0 (rd t337 x16_1)) x25_2)).length c343_0) (rd_L3 x3_2 (rd (rd_L3 l0 (rd t337 x16_1)) x25_2)) (rd t337 x16_1) [.int .i64 (rd t337 x16_1)] (fun k_ => oki39 k_ ∨ ((fun k_ => some k_ ≠ (.slice (some ad340) t337.length co11 : Value).ownBlock)) k_ ∧ wr.heap.size ≤ k_) (fun _ => False) rfl rfl ?aP (fun _ hk => hk.elim) ?aF ?aO ?aB ?aS ?aL ?_;(case aP => exact rfl);(case aB => exact (by repeat (with_reducible first | exact HB.out | apply below_alloc | apply pw_below_drewN | apply below_drew1)));(case aF => exact (fun k_ hk => .inr ⟨Kd.fresh' (Kd.R_lt (by (with_reducible repeat (first | apply Kd.R_alloc | apply Kd.R_drewN | apply Kd.R_drew));exact HO_14.out)) k_ hk,hk⟩));(case aO => exact (by (with_reducible repeat (first | apply Kd.R_alloc | apply Kd.R_drewN | apply Kd.R_drew));exact Kd.R_mono UU39.out (fun _ hk => .inl hk)));(case aS => exact (below_size (by repeat (with_reducible first | exact HB.out | apply below_alloc | apply pw_below_drewN | apply below_drew1))));(case aL => have:=LMc36.out;omega);intro v353 w40 ho hb hg hat;rw [← Ny352.out] at ho;have n0_:=Aside0.mk (Kd.R_grown2 (by (with_reducible repeat (first | apply Kd.R_alloc | apply Kd.R_drewN | apply Kd.R_drew));exact HO_14.out) rfl hg (fun k_ e_ => (HL351_0.out.1 k_ e_).1));have n1_:=Aside0.mk (hb);have n2_:=Aside0.mk (Kd.H_grown (Kd.H_widen (by repeat (first | exact HH39.out | refine Kd.H_alloc ?_ _ | refine Kd.H_drewN ?_ _ | refine Kd.H_drew ?_))) hg (fun k_ e_ => .inl (UU39.out.1 k_ e_)));have n3_:=Aside0.mk (ho);clear HO_14;clear HB;clear HH39;clear HO_3;clear UU39;clear HL343_0;clear HL349_0;clear HL351_0;have HO_14:=n0_;have HB:=n1_;have HH39:=n2_;have HO354:=n3_;clear n0_ n1_ n2_ n3_;clear ho hb hg hat;have p37 : 0 ≤ ((rd (rd_L3 l0 (rd t337 x16_1)) x25_2) : Int):=of_decide_eq_true (by assumption);have q37 : ((rd (rd_L3 l0 (rd t337 x16_1)) x25_2) : Int) < ((x3_2.length : Int) : Int):=of_decide_eq_true (by assumption);replace p37:=eq_true p37;replace q37:=eq_true q37;obtain ⟨Ao43,co43,eo43⟩:=Kd.R_slice HO354.out;subst eo43;obtain ⟨_,_,hraw41,_,_,hcc41,_⟩:=Kd.H_raw HH39.out (of_decide_eq_true (by assumption)) (by have h_ : ((rd (rd_L3 l0 (rd t337 x16_1)) x25_2) : Int) < ((x3_2.length : Int) : Int):=of_decide_eq_true (by assumption);first | exact h_ | (have e_:=(HN39.out);omega) | simpa using h_);obtain ⟨_,hfr41⟩:=Kd.H_at HH39.out (of_decide_eq_true (by assumption)) (by have h_ : ((rd (rd_L3 l0 (rd t337 x16_1)) x25_2) : Int) < ((x3_2.length : Int) : Int):=of_decide_eq_true (by assumption);first | exact h_ | (have e_:=(HN39.out);omega) | simpa using h_);have hx41_0:=hcc41 0 _ rfl;have hf41_0:=hfr41 0;(try simp only [Nat.add_zero] at hx41_0 hf41_0);(try rw [show ((Kd.slice 3 (Kd.int .i64))).sz = 1 from rfl,Nat.mul_one] at hx41_0);(try rw [show ((Kd.slice 3 (Kd.int .i64))).sz = 1 from rfl,Nat.mul_one] at hf41_0);have HP41:=Kd.S_seg0 HH39.out (of_decide_eq_true (by assumption)) (by have h_ : ((rd (rd_L3 l0 (rd t337 x16_1)) x25_2) : Int) < ((x3_2.length : Int) : Int):=of_decide_eq_true (by assumption);first | exact h_ | (have e_:=(HN39.out);omega) | simpa using h_) (seg:=[.slice Ao43 y352.length co43]) (j:=0) (show 1 ≤ 1 from by decide) (x':=y352) (Kd.M_row HO354.out) (fun _ hk => hk);(try simp only [show ((Kd.slice 3 (Kd.int .i64))).sz = 1 from rfl,Nat.mul_one,Nat.add_zero] at HP41);clear hcc41 hfr41) | ((with_reducible refine gate_store (t:=37) (p:=57) rfl ?_);refine store_event (t:=37) (p:=57) (v:=?vo_w42) (w1:=(w40.setCell ⟨go39,((rd (rd_L3 l0 (rd t337 x16_1)) x25_2) : Int).toNat,none⟩ (.slice Ao43 y352.length co43))) ?hg ?ho ?hn ?hr ?_;(case ho => rfl);(case hg => rfl);(case hn => rfl);(case hr => first | (go_simp;done) | (go_simp;rfl));intro w42 hw;have hg : w40.grownBy w42 (some go39):=(by rw [hw];exact HP41.2);have hp_ : Kd.S (Kd.slice 3 (Kd.int .i64)) 37 w42 w.heap.size (fun k_ => some k_ ≠ (.slice (some ad340) t337.length co11 : Value).ownBlock) (.slice (some ⟨go39,0,none⟩) x3_2.length co38) y355:=(by rw [hw,Ny355.out];exact HP41.1);clear HP41;have n0_:=Aside0.mk (Kd.R_over' (v:=(.slice (some ⟨go39,0,none⟩) x3_2.length co38)) (by (with_reducible repeat (first | apply Kd.R_alloc | apply Kd.R_drewN | apply Kd.R_drew));exact HO_14.out) (Kd.R_typed hraw41) (by decide) hg);have n1_:=Aside0.mk ((by rw [hw];exact below_set HB.out GB39.out : Below w.heap.size w w42));have n2_:=Aside0.mk (hp_);clear HO_14;clear HB;clear HO354;clear HH39;have HO_14:=n0_;have HB:=n1_;have HO_3:=n2_;clear n0_ n1_ n2_;clear hg hw hp_ hraw41))
     go_roundg k2
     case measure => have:=HK1.out;have:=HK2.out;omega
     case rel => exact ⟨(y355),(wrap64 (x25_2 + 1)),(by first | rfl | (simp;done) | (simp [*];done)),H',⟨by have:=HK1.out;have:=HK2.out;omega⟩,⟨by (with_reducible repeat (first | apply Kd.S_alloc | apply Kd.S_drewN | apply Kd.S_drew));exact HO_3.out⟩,⟨by (with_reducible repeat (first | apply Kd.R_alloc | apply Kd.R_drewN | apply Kd.R_drew));exact HO_14.out⟩,⟨by repeat (with_reducible first | exact HB.out | apply below_alloc | apply pw_below_drewN | apply below_drew1)⟩⟩

-- NOT PRINTED: function 96 (slices_Grow_impl_Flat)

/-! ### slices_Concat_impl_Flat: function 83 (by hand: rows laid behind one another, room made first) -/
def slices_Concat_impl_Flat.f (l0 : List (List S79)) : Option (List S79):=if l0.length ≤ 1000 ∧ ∀ x ∈ l0,x.length ≤ 1000 then some l0.flatten else none
/-- How long the first of them are. -/
def sumL (l : List (List S79)) : Nat:=(l.map List.length).sum
theorem sumL_snoc (l : List (List S79)) (x : List S79) : sumL (l ++ [x]) = sumL l + x.length:=by simp [sumL]
theorem sumL_le (l : List (List S79)) (h : ∀ x ∈ l,x.length ≤ 1000) : sumL l ≤ 1000 * l.length:=by
 induction l with
 | nil => simp [sumL]
 | cons a l ih =>
  have h1:=h a (by simp)
  have h2:=ih (fun x hx => h x (by simp [hx]))
  simp only [sumL,List.map_cons,List.sum_cons,List.length_cons] at *
  omega
theorem sumL_flat (l : List (List S79)) : l.flatten.length = sumL l:=by simp [sumL,List.length_flatten]
theorem take_get {l : List (List S79)} {i : Nat} (h : i < l.length) : l.take (i + 1) = l.take i ++ [rd_L6 l (i : Int)]:=by
 unfold rd_L6
 rw [Int.toNat_natCast,List.take_add_one,List.getElem?_eq_getElem h,List.getD_eq_getElem?_getD,List.getElem?_eq_getElem h]
 rfl
theorem slices_Grow_impl_Flat.calls (n : Nat) (hn : n ≤ 1000000) (w : World) :
  Calls Try.prog 96 #[.slice none 0 0,.int .i64 (n : Int)] w fun e w' => ∃ v0_ : Value,e = .returned (v0_) ∧ k79.R 79 w' w.heap.size (fun _ => True) v0_ ([] : List S79) ∧ Below w.heap.size w w':=by
 have q0 : decide ((n : Int) < 0) = false:=decide_eq_false (by omega)
 have HN:=Aside0.mk hn
 have hw2 : wrap64 (n : Int) = (n : Int):=by unfold wrap64;omega
 by_cases h0 : 0 < n
 rotate_left
 ·have hn0 : n = 0:=by omega
  subst hn0
  go_enter Try.func96,Try.ntmps96
  go_wp2
  go_ret
  exact ⟨_,rfl,Kd.R_nil _ _ _ _ _,Below.refl _ _⟩
 have p0 : decide (0 < (n : Int)) = true:=decide_eq_true (by omega)
 have p1 : (0 < n) = True:=eq_true h0
 have HW:=Aside0.mk hw2
 clear h0 hn
 go_enter Try.func96,Try.ntmps96
 go_wp2_with (((with_reducible refine gate_builtin (b:=.append) (xs:=#[.tmp 20,.tmp 21]) rfl ?_);at_builtin;refine Kd.R_append_zeros k79 (w0:=w) w.heap.size rfl (.tmp 20) (.tmp 21) 54 3 79 (.agg #[.int .i64 0,.int .i64 0,.int .i64 0,.int .i64 0,.int .i64 0,.int .i64 0]) 48 rfl Try.underlying54 Try.underlying3 (by kernel_rfl) rfl (by decide) (by omega) (.slice none 0 0) ([] : List S79) (⟨0,0,0,0,0,0⟩ : S79) (kx:=.i64) (wrap64 (n : Int)) (fun _ => True) rfl rfl ?aZ (fun _ _ => trivial) (Kd.R_nil _ _ _ _ _) (by rw [HW.out];omega) (Below.refl _ _) (Nat.le_refl _) ?aL ?_;(case aZ => exact k79_mkM _ _ _ (⟨0,0,0,0,0,0⟩ : S79));(case aL => have:=HN.out;rw [HW.out];simp;omega);intro v7 w7 ho hb hg hat;rw [List.nil_append,HW.out,Int.toNat_natCast] at ho;obtain ⟨Av,cv,ev⟩:=Kd.R_slice ho;subst ev;have HO:=Aside0.mk (Kd.R_take ho (Nat.zero_le _));rw [List.length_replicate];rw [List.take_zero] at HO;have HB:=Aside0.mk hb;clear ho hb hg hat))
 go_ret
 exact ⟨_,rfl,HO.out,HB.out⟩
set_option maxHeartbeats 8000000 in
set_option maxRecDepth 100000 in
theorem slices_Concat_impl_Flat.calls (A0 : Option Addr) (c0 : Nat) (l0 : List (List S79)) (r : List S79) (w : World) (hr0 : Kd.C (Kd.slice 79 k79) w A0 l0.length l0) (hc0 : l0.length ≤ c0) (h : slices_Concat_impl_Flat.f l0 = some r) :
  Calls Try.prog 83 #[.slice A0 l0.length c0] w fun e w' => ∃ v0_ : Value,e = .returned (v0_) ∧ k79.R 79 w' w.heap.size (fun _ => True) v0_ r ∧ Below w.heap.size w w':=by
 unfold slices_Concat_impl_Flat.f at h
 by_cases c1 : l0.length ≤ 1000 ∧ ∀ x ∈ l0,x.length ≤ 1000
 rotate_left
 ·rw [if_neg c1] at h;exact absurd h (by simp)
 rw [if_pos c1] at h
 obtain rfl:=Option.some.inj h
 have HR:=Aside0.mk hr0
 have HM:=Aside0.mk c1
 have HB:=Aside0.mk (Below.refl w.heap.size w)
 clear h hr0 c1
 go_enter Try.func83,Try.ntmps83
 go_wp2
 go_loopg [3,11] l0.length (fun kq v3 v11 w' => ∃ (i s : Nat),v3 = .int .i64 (s : Int) ∧ v11 = .int .i64 (i : Int) ∧ Aside0 (i + kq = l0.length) ∧ Aside0 (s = sumL (l0.take i)) ∧ Aside0 (Below w.heap.size w w'))
 case atStart => exact ⟨0,0,rfl,rfl,⟨by omega⟩,⟨by simp [sumL]⟩,HB⟩
 case round =>
  clear HB
  obtain ⟨i,s,rfl,rfl,HI,HS,HB⟩:=hrel
  have hi:=HI.out
  have hsl:=sumL_le (l0.take i) (fun x hx => HM.out.2 x (List.mem_of_mem_take hx))
  have hm:=HM.out.1
  rw [List.length_take] at hsl
  have HSB:=Aside0.mk (show s ≤ 1000000 by rw [HS.out];omega)
  have HW1:=Aside0.mk (show wrap64 ((i : Int) + 1) = ((i + 1 : Nat) : Int) by unfold wrap64;omega)
  cases gk with
  | zero =>
   have q1 : decide (i < l0.length) = false:=decide_eq_false (by omega)
   have HF:=Aside0.mk (Kd.R_nil k79 79 wr w.heap.size (fun _ => True))
   have hS:=HS.out
   rw [List.take_of_length_le (by omega)] at hS
   have HS2:=Aside0.mk hS
   clear hi hsl hm HW1 HS hS HI
   go_wp2_with (go_at_call 96;(refine (slices_Grow_impl_Flat.calls s HSB.out _).mono ?_);rintro e w4 ⟨v0,rfl,ho,hb⟩;have HB2:=Aside0.mk (below_step HB.out hb);have HO:=Aside0.mk (Kd.R_lower ho HB.out.size);obtain ⟨Av,cv,ev⟩:=Kd.R_slice ho;subst ev;clear ho hb HB HF)
   go_loopg [6,27] l0.length (fun kq v6 v27 w' => ∃ (i : Nat),v27 = .int .i64 (i : Int) ∧ Aside0 (i + kq = l0.length) ∧ Aside0 (Below w.heap.size w w') ∧ Aside0 (k79.R 79 w' w.heap.size (fun _ => True) v6 (l0.take i).flatten))
   case atStart => exact ⟨0,rfl,⟨by omega⟩,HB2,⟨by rw [List.take_zero];exact HO.out⟩⟩
   case round =>
    clear HB2 HO HS2 HSB
    obtain ⟨i,rfl,HI,HB,HO⟩:=hrel
    obtain ⟨Av,cv,rfl⟩:=Kd.R_slice HO.out
    have hi:=HI.out
    have hm:=HM.out.1
    have HW1:=Aside0.mk (show wrap64 ((i : Int) + 1) = ((i + 1 : Nat) : Int) by unfold wrap64;omega)
    cases gk with
    | zero =>
     have q1 : decide (i < l0.length) = false:=decide_eq_false (by omega)
     have HO2:=HO.out
     rw [List.take_of_length_le (by omega)] at HO2 ⊢
     have HO3:=Aside0.mk HO2
     clear hi hm HW1 HI HO HO2
     go_wp2
     go_ret
     exact ⟨_,rfl,HO3.out,HB.out⟩
    | succ k1 =>
     have q1 : decide (i < l0.length) = true:=decide_eq_true (by omega)
     have p0 : (0 ≤ (i : Int)) = True:=eq_true (by omega)
     have p1 : ((i : Int) < (l0.length : Int)) = True:=eq_true (by omega)
     have p2 : (i < l0.length) = True:=eq_true (by omega)
     obtain ⟨ad,A1,c1,e1,hx1,hl1,hc1⟩:=at_L6 (Kd.C_below HR.out HB.out) (i : Int) (by omega) (by omega)
     obtain ⟨row,hrow⟩ : ∃ row,row = rd_L6 l0 (i : Int):=⟨_,rfl⟩
     have hx2:=hx1
     rw [← hrow,Int.toNat_natCast] at hx1
     rw [← hrow] at hl1 hc1
     have hrm : row ∈ l0:=by
      rw [hrow];unfold rd_L6
      rw [Int.toNat_natCast,List.getD_eq_getElem?_getD,List.getElem?_eq_getElem (show i < l0.length by omega)]
      exact List.getElem_mem _
     have hrl:=HM.out.2 row hrm
     have hfl:=sumL_le (l0.take i) (fun x hx => HM.out.2 x (List.mem_of_mem_take hx))
     rw [← sumL_flat,List.length_take] at hfl
     have HLM:=Aside0.mk (show (l0.take i).flatten.length + row.length ≤ 2000000 by omega)
     have HTK:=Aside0.mk (show (l0.take (i + 1)).flatten = (l0.take i).flatten ++ row by rw [take_get (by omega),← hrow];simp)
     cases e1
     have HRW:=Aside0.mk hc1
     obtain ⟨xs,hxs⟩ : ∃ xs,xs = (l0.take i).flatten:=⟨_,rfl⟩
     rw [← hxs] at HO HLM HTK ⊢
     clear hi hm hrow hrm hrl hfl hx2 hl1 hc1 hxs
     go_wp2_with ((with_reducible refine gate_builtin (b:=.append) (xs:=#[.tmp 31,.tmp 32]) rfl ?_);at_builtin;refine Kd.R_append_rows k79 (Rr:=k79.K wr) (w0:=w) w.heap.size rfl (.tmp 31) (.tmp 32) 54 79 (.agg #[.int .i64 0,.int .i64 0,.int .i64 0,.int .i64 0,.int .i64 0,.int .i64 0]) 48 rfl Try.underlying54 (by kernel_rfl) rfl (by decide) (by omega) (.slice Av xs.length cv) xs row _ _ _ (fun _ => True) (fun _ => False) rfl rfl HO.out HRW.out (fun x_ cs_ h_ => by obtain rfl:=k79_open h_;exact k79_mkM _ _ _ x_) (fun _ h => h.elim) (fun _ _ => trivial) HB.out HB.out.size ?aL ?_;(case aL => have:=HLM.out;omega);intro v7 w7 ho hb hg hat;rw [← HTK.out] at ho;have HO2:=Aside0.mk ho;have HB2:=Aside0.mk hb;clear ho hb hg hat HO HB)
     rw [HW1.out]
     go_roundg k1
     case measure => omega
     case rel => exact ⟨i + 1,rfl,⟨by have:=HI.out;omega⟩,HB2,HO2⟩
  | succ k1 =>
   have q1 : decide (i < l0.length) = true:=decide_eq_true (by omega)
   have p0 : (0 ≤ (i : Int)) = True:=eq_true (by omega)
   have p1 : ((i : Int) < (l0.length : Int)) = True:=eq_true (by omega)
   have p2 : (i < l0.length) = True:=eq_true (by omega)
   obtain ⟨ad,A1,c1,e1,hx1,hl1,hc1⟩:=at_L6 (Kd.C_below HR.out HB.out) (i : Int) (by omega) (by omega)
   obtain ⟨row,hrow⟩ : ∃ row,row = rd_L6 l0 (i : Int):=⟨_,rfl⟩
   rw [← hrow,Int.toNat_natCast] at hx1
   rw [← hrow] at hl1 hc1
   have hrm : row ∈ l0:=by
    rw [hrow];unfold rd_L6
    rw [Int.toNat_natCast,List.getD_eq_getElem?_getD,List.getElem?_eq_getElem (show i < l0.length by omega)]
    exact List.getElem_mem _
   have hrl:=HM.out.2 row hrm
   have hsum : sumL (l0.take (i + 1)) = s + row.length:=by rw [take_get (by omega),sumL_snoc,← hrow,← HS.out]
   have HSM:=Aside0.mk hsum
   have q2 : decide (wrap64 ((s : Int) + (row.length : Int)) < 0) = false:=decide_eq_false (by have:=HSB.out;unfold wrap64;omega)
   have HW2:=Aside0.mk (show wrap64 ((s : Int) + (row.length : Int)) = ((s + row.length : Nat) : Int) by have:=HSB.out;unfold wrap64;omega)
   cases e1
   clear hi hsl hm hrow hrm hrl hsum hl1 hc1
   go_wp2
   rw [HW1.out,HW2.out]
   go_roundg k1
   case measure => omega
   case rel => exact ⟨i + 1,s + row.length,rfl,rfl,⟨by have:=HI.out;omega⟩,⟨HSM.out.symm⟩,HB⟩

end Go.Proofs.Ythgkhfhfahifmaa.Q
