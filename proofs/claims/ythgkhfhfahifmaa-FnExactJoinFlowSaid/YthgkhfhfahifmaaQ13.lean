-- WRITTEN BY A PROGRAM OF THIS SESSION
import Derived.Test.YthgkhfhfahifmaaQ0
namespace Go.Proofs.Ythgkhfhfahifmaa.Q
open Go.RowKit Go.Proofs.YthgkhfhfahifmaaW.PrintWords Go.Proofs.YthgkhfhfahifmaaW.PrintLast Go.Proofs.YthgkhfhfahifmaaW.PrintMore
attribute [local go_sem] max2_int min2_int max_two min_two max_three min_three max_four min_four   -- for this text's walks alone
set_option linter.unusedVariables false
set_option linter.unusedSimpArgs false

/-! ### impl_listOf: function 50 -/
def impl_listOf.l0 : Nat → List Int → List Bool → Int → Int → Option (List Int)
 | 0,_,_,_,_ => none
 | k + 1,x3,x7,x8,x9 => if x9 < x8 then (if 0 ≤ x9 then (if x9 < (x7.length : Int) then (if rdOf false x7 x9 = true then (if x3.length < 17592186044416 then (impl_listOf.l0 k (x3 ++ [x9]) x7 x8 (wrap64 (x9 + 1))) else (none)) else (impl_listOf.l0 k x3 x7 x8 (wrap64 (x9 + 1)))) else (none)) else (none)) else (some x3)
def impl_listOf.f (k : Nat) (l0 : List Bool) : Option (List Int):=impl_listOf.l0 k (([] : List Int)) l0 (l0.length : Int) 0
theorem impl_listOf.mono_l : ∀ k,(∀ y0 y1 y2 y3,LeO (impl_listOf.l0 k y0 y1 y2 y3) (impl_listOf.l0 (k + 1) y0 y1 y2 y3))
 | 0 => fun _ _ _ _ r h => by simp [impl_listOf.l0] at h
 | k + 1 => by
  have ih0:=impl_listOf.mono_l k
  ·intro y0 y1 y2 y3
   unfold impl_listOf.l0
   repeat' first
   | (with_reducible exact ih0 _ _ _ _)
   | (with_reducible exact LeO.refl _)
   | (with_reducible exact LeO.none _)
   | (with_reducible refine LeO.ite ?_ ?_)
   | (with_reducible refine LeO.bind ?_ (fun _ => ?_))
theorem impl_listOf.mono : ∀ a0 k,LeO (impl_listOf.f k a0) (impl_listOf.f (k + 1) a0):=by
 intro a0 k
 have ih0:=impl_listOf.mono_l k
 unfold impl_listOf.f
 repeat' first
   | (with_reducible exact ih0 _ _ _ _)
   | (with_reducible exact LeO.refl _)
   | (with_reducible exact LeO.none _)
   | (with_reducible refine LeO.ite ?_ ?_)
   | (with_reducible refine LeO.bind ?_ (fun _ => ?_))
set_option maxHeartbeats 8000000 in
set_option maxRecDepth 100000 in
theorem impl_listOf.calls (k : Nat) (A0 : Option Addr) (c0 : Nat) (l0 : List Bool) (r : List Int) (w : World) (hr0 : Kd.C Kd.bool w A0 l0.length l0) (hc0 : l0.length ≤ c0) (h : impl_listOf.f k l0 = some r) :
  Calls Try.prog 50 #[.slice A0 l0.length c0] w fun e w' => ∃ v0_ : Value,e = .returned (v0_) ∧ Kd.R (Kd.int .i64) 3 w' w.heap.size (fun _ => True) v0_ r ∧ Below w.heap.size w w':=by
 have HR0:=Aside0.mk hr0
 have HC0:=Aside0.mk hc0
 clear hr0 hc0
 have HB:=Aside0.mk (Below.refl w.heap.size w)
 have H : (impl_listOf.l0 k (([] : List Int)) l0 (l0.length : Int) 0) = some r:=h
 clear h
 obtain ⟨y288,hy288⟩ : ∃ y_ : List Int,y_ = (([] : List Int)):=⟨_,rfl⟩
 replace H : (impl_listOf.l0 k y288 l0 (l0.length : Int) 0) = some r:=by first | (rw [hy288];with_reducible exact H) | (have H2_:=(Option.bind_some _ _).symm.trans H;rw [hy288];with_reducible exact H2_) | (have H2_:=(Option.bind_some _ _).symm.trans H;with_reducible exact H2_) | with_reducible exact H | (rw [hy288];exact H) | exact H
 have Ny288:=Aside0.mk hy288
 clear hy288
 have H':=Aside0.mk H
 clear H
 go_enter Try.func50,Try.ntmps50
 go_wp2_with (first | ((with_reducible refine gate_dst (N:=6) rfl ?_);refine Kd.R_lit (Kd.int .i64) _ 3 ?hg (N:=6) ?hd (xs:=([] : List Int)) (inner:=[]) (ok:=fun _ => True) (okp:=fun _ => True) ?hr ?hp (fun _ hk => hk) trivial (Below.refl _ _) (Nat.le_refl _) (by simp) ?_;(case hd => rfl);(case hg => rfl);(case hr => first | (go_simp;done) | (go_simp;rfl));(case hp => exact (Reps.none _ _));intro v289 w2 ho3 hb hg_ hnew_;clear hg_ hnew_;(first | rw [← Ny288.out] at ho3 | (simp only [Int.reduceToNat] at ho3;rw [← Ny288.out] at ho3));have n0_:=Aside0.mk (Kd.R_lower ho3 (below_size (by repeat (with_reducible first | exact HB.out | apply below_alloc | apply pw_below_drewN | apply below_drew1))));have n1_:=Aside0.mk (below_step (by repeat (with_reducible first | exact HB.out | apply below_alloc | apply pw_below_drewN | apply below_drew1)) hb);clear HB;have HO290:=n0_;have HB:=n1_;clear n0_ n1_;clear hb ho3))
 go_loopg [3,9] k (fun kq v3 v9 w' => ∃ (x3_1 : List Int) (x9_1 : Int),v9 = .int .i64 x9_1 ∧ Aside0 (impl_listOf.l0 kq x3_1 l0 (l0.length : Int) x9_1 = some r) ∧ Aside0 (kq ≤ k) ∧ Aside0 (Kd.R (Kd.int .i64) 3 w' w.heap.size (fun _ => True) v3 x3_1) ∧ Aside0 (Below w.heap.size w w'))
 case atStart => exact ⟨(y288),(0),(by first | rfl | (simp;done) | (simp [*];done)),H',⟨Nat.le_refl _⟩,⟨by (with_reducible repeat (first | apply Kd.R_alloc | apply Kd.R_drewN | apply Kd.R_drew));exact HO290.out⟩,⟨by repeat (with_reducible first | exact HB.out | apply below_alloc | apply pw_below_drewN | apply below_drew1)⟩⟩
 case round =>
  clear H'
  try clear p2
  obtain ⟨x3_1,x9_1,rfl,HA,HK1,HO_3,HB⟩:=hrel
  cases gk with
  | zero => exact absurd HA.out (by simp [impl_listOf.l0])
  | succ k1 =>
   have H:=HA.out
   clear HA
   simp only [impl_listOf.l0] at H
   by_cases c4 : x9_1 < (l0.length : Int)
   rotate_left
   ·rw [if_neg c4] at H
    have c4b0 : decide (x9_1 < (l0.length : Int)) = false:=decide_eq_false c4
    clear c4
    obtain rfl:=Option.some.inj H
    go_wp2
    go_ret
    exact ⟨_,by first | rfl | (simp [*,errW_none,errW_some] <;> rfl),by (with_reducible repeat (first | apply Kd.R_alloc | apply Kd.R_drewN | apply Kd.R_drew));exact HO_3.out,by repeat (with_reducible first | exact HB.out | apply below_alloc | apply pw_below_drewN | apply below_drew1)⟩
   rw [if_pos c4] at H
   have c4b0 : decide (x9_1 < (l0.length : Int)) = true:=decide_eq_true c4
   clear c4
   by_cases c5 : 0 ≤ x9_1
   rotate_left
   ·rw [if_neg c5] at H
    exact absurd H (by simp)
   rw [if_pos c5] at H
   have c5b0 : decide (0 ≤ x9_1) = true:=decide_eq_true c5
   clear c5
   by_cases c6 : x9_1 < (l0.length : Int)
   rotate_left
   ·rw [if_neg c6] at H
    exact absurd H (by simp)
   rw [if_pos c6] at H
   have c6b0 : decide (x9_1 < (l0.length : Int)) = true:=decide_eq_true c6
   clear c6
   obtain ⟨bq7,hbq7⟩ : ∃ b_ : Bool,b_ = (rdOf false l0 x9_1):=⟨_,rfl⟩
   replace H : (if bq7 = true then (if x3_1.length < 17592186044416 then (impl_listOf.l0 k1 (x3_1 ++ [x9_1]) l0 (l0.length : Int) (wrap64 (x9_1 + 1))) else (none)) else (impl_listOf.l0 k1 x3_1 l0 (l0.length : Int) (wrap64 (x9_1 + 1)))) = some r:=by rw [← hbq7] at H;exact H
   have Nbq7:=Aside0.mk hbq7
   clear hbq7
   by_cases c8 : bq7 = true
   rotate_left
   ·replace c8:=Bool.eq_false_iff.mpr c8
    subst c8
    have H1 : (impl_listOf.l0 k1 x3_1 l0 (l0.length : Int) (wrap64 (x9_1 + 1))) = some r:=by rw [if_neg (show ¬ (false = true) by decide)] at H;exact H
    clear H
    have H:=H1
    clear H1
    have H':=Aside0.mk H
    clear H
    have p291 : 0 ≤ (x9_1 : Int):=of_decide_eq_true (by assumption)
    have q291 : x9_1 < (l0.length : Int):=of_decide_eq_true (by assumption)
    obtain ⟨ad291,e291,hx291_0⟩:=Kd.at_bool HR0.out x9_1 p291 q291
    (try rw [← Nbq7.out] at hx291_0)
    cases e291
    replace hx291_0:=(HB.out.cell (World.block_lt_of_cell? w _ hx291_0)).trans hx291_0
    replace p291:=eq_true p291
    replace q291:=eq_true q291
    go_wp2
    go_roundg k1
    case measure => have:=HK1.out;omega
    case rel => exact ⟨(x3_1),(wrap64 (x9_1 + 1)),(by first | rfl | (simp;done) | (simp [*];done)),H',⟨by have:=HK1.out;omega⟩,⟨by (with_reducible repeat (first | apply Kd.R_alloc | apply Kd.R_drewN | apply Kd.R_drew));exact HO_3.out⟩,⟨by repeat (with_reducible first | exact HB.out | apply below_alloc | apply pw_below_drewN | apply below_drew1)⟩⟩
   subst c8
   have H1 : (if x3_1.length < 17592186044416 then (impl_listOf.l0 k1 (x3_1 ++ [x9_1]) l0 (l0.length : Int) (wrap64 (x9_1 + 1))) else (none)) = some r:=by rw [if_pos rfl] at H;exact H
   clear H
   have H:=H1
   clear H1
   by_cases c9 : x3_1.length < 17592186044416
   rotate_left
   ·rw [if_neg c9] at H
    exact absurd H (by simp)
   rw [if_pos c9] at H
   have LMc9:=Aside0.mk c9
   clear c9
   obtain ⟨y292,hy292⟩ : ∃ y_ : List Int,y_ = (x3_1 ++ [x9_1]):=⟨_,rfl⟩
   replace H : (impl_listOf.l0 k1 y292 l0 (l0.length : Int) (wrap64 (x9_1 + 1))) = some r:=by first | (rw [hy292];with_reducible exact H) | (have H2_:=(Option.bind_some _ _).symm.trans H;rw [hy292];with_reducible exact H2_) | (have H2_:=(Option.bind_some _ _).symm.trans H;with_reducible exact H2_) | with_reducible exact H | (rw [hy292];exact H) | exact H
   have Ny292:=Aside0.mk hy292
   clear hy292
   have H':=Aside0.mk H
   clear H
   have p291 : 0 ≤ (x9_1 : Int):=of_decide_eq_true (by assumption)
   have q291 : x9_1 < (l0.length : Int):=of_decide_eq_true (by assumption)
   obtain ⟨ad291,e291,hx291_0⟩:=Kd.at_bool HR0.out x9_1 p291 q291
   (try rw [← Nbq7.out] at hx291_0)
   cases e291
   replace hx291_0:=(HB.out.cell (World.block_lt_of_cell? w _ hx291_0)).trans hx291_0
   replace p291:=eq_true p291
   replace q291:=eq_true q291
   go_wp2_with (first | ((with_reducible refine gate_builtin (b:=.append) (xs:=#[.tmp 15,.tmp 17]) rfl ?_);at_builtin;refine Kd.R_append (Kd.int .i64) (w0:=w) w.heap.size rfl (.tmp 15) (.tmp 17) 37 3 (.int .i64 0) 8 rfl Try.underlying37 info3 rfl (by decide) (by omega) u3 x3_1 x9_1 [.int .i64 x9_1] (fun _ => True) (fun _ => False) rfl rfl ?aP (fun _ hk => hk.elim) ?aF ?aO ?aB ?aS ?aL ?_;(case aP => exact rfl);(case aB => exact (by repeat (with_reducible first | exact HB.out | apply below_alloc | apply pw_below_drewN | apply below_drew1)));(case aF => exact (fun _ _ => trivial));(case aO => exact (by (with_reducible repeat (first | apply Kd.R_alloc | apply Kd.R_drewN | apply Kd.R_drew));exact HO_3.out));(case aS => exact (below_size (by repeat (with_reducible first | exact HB.out | apply below_alloc | apply pw_below_drewN | apply below_drew1))));(case aL => have:=LMc9.out;omega);intro v293 w10 ho hb hg hat;rw [← Ny292.out] at ho;have n0_:=Aside0.mk (hb);have n1_:=Aside0.mk (ho);clear HB;clear HO_3;have HB:=n0_;have HO294:=n1_;clear n0_ n1_;clear ho hb hg hat))
   go_roundg k1
   case measure => have:=HK1.out;omega
   case rel => exact ⟨(y292),(wrap64 (x9_1 + 1)),(by first | rfl | (simp;done) | (simp [*];done)),H',⟨by have:=HK1.out;omega⟩,⟨by (with_reducible repeat (first | apply Kd.R_alloc | apply Kd.R_drewN | apply Kd.R_drew));exact HO294.out⟩,⟨by repeat (with_reducible first | exact HB.out | apply below_alloc | apply pw_below_drewN | apply below_drew1)⟩⟩

/-! ### slices_Index_int_int: function 94 -/
def slices_Index_int_int.l0 : Nat → List Int → Int → Int → Int → Option (Int)
 | 0,_,_,_,_ => none
 | k + 1,x0,x1,x7,x8 => if x8 < x7 then (if 0 ≤ x8 then (if x8 < (x0.length : Int) then (if x1 = (rd x0 x8) then (some x8) else (slices_Index_int_int.l0 k x0 x1 x7 (wrap64 (x8 + 1)))) else (none)) else (none)) else (some (-1))
def slices_Index_int_int.f (k : Nat) (l0 : List Int) (a1 : Int) : Option (Int):=slices_Index_int_int.l0 k l0 a1 (l0.length : Int) 0
theorem slices_Index_int_int.mono_l : ∀ k,(∀ y0 y1 y2 y3,LeO (slices_Index_int_int.l0 k y0 y1 y2 y3) (slices_Index_int_int.l0 (k + 1) y0 y1 y2 y3))
 | 0 => fun _ _ _ _ r h => by simp [slices_Index_int_int.l0] at h
 | k + 1 => by
  have ih0:=slices_Index_int_int.mono_l k
  ·intro y0 y1 y2 y3
   unfold slices_Index_int_int.l0
   repeat' first
   | (with_reducible exact ih0 _ _ _ _)
   | (with_reducible exact LeO.refl _)
   | (with_reducible exact LeO.none _)
   | (with_reducible refine LeO.ite ?_ ?_)
   | (with_reducible refine LeO.bind ?_ (fun _ => ?_))
theorem slices_Index_int_int.mono : ∀ a0 a1 k,LeO (slices_Index_int_int.f k a0 a1) (slices_Index_int_int.f (k + 1) a0 a1):=by
 intro a0 a1 k
 have ih0:=slices_Index_int_int.mono_l k
 unfold slices_Index_int_int.f
 repeat' first
   | (with_reducible exact ih0 _ _ _ _)
   | (with_reducible exact LeO.refl _)
   | (with_reducible exact LeO.none _)
   | (with_reducible refine LeO.ite ?_ ?_)
   | (with_reducible refine LeO.bind ?_ (fun _ => ?_))
set_option maxHeartbeats 8000000 in
set_option maxRecDepth 100000 in
theorem slices_Index_int_int.calls (k : Nat) (A0 : Option Addr) (c0 : Nat) (l0 : List Int) (a1 : Int) (r : Int) (w : World) (hr0 : Kd.C (Kd.int .i64) w A0 l0.length l0) (hc0 : l0.length ≤ c0) (h : slices_Index_int_int.f k l0 a1 = some r) :
  Calls Try.prog 94 #[.slice A0 l0.length c0,.int .i64 a1] w fun e w' => e = .returned (.int .i64 r) ∧ Drawn0 w w':=by
 have HR0:=Aside0.mk hr0
 have HC0:=Aside0.mk hc0
 clear hr0 hc0
 have H : (slices_Index_int_int.l0 k l0 a1 (l0.length : Int) 0) = some r:=h
 clear h
 have H':=Aside0.mk H
 clear H
 go_enter Try.func94,Try.ntmps94
 go_wp2
 go_loopg [8] k (fun kq v8 w' => ∃ (x8_1 : Int),v8 = .int .i64 x8_1 ∧ Aside0 (slices_Index_int_int.l0 kq l0 a1 (l0.length : Int) x8_1 = some r) ∧ Aside0 (kq ≤ k) ∧ Drawn0 w w')
 case atStart => exact ⟨(0),(by first | rfl | (simp;done) | (simp [*];done)),H',⟨Nat.le_refl _⟩,by repeat (first | exact Drawn0.refl _ | apply Drawn0.step)⟩
 case round =>
  clear H'
  try clear p2
  obtain ⟨x8_1,rfl,HA,HK1,⟨m1,rfl⟩⟩:=hrel
  cases gk with
  | zero => exact absurd HA.out (by simp [slices_Index_int_int.l0])
  | succ k1 =>
   have H:=HA.out
   clear HA
   simp only [slices_Index_int_int.l0] at H
   by_cases c3 : x8_1 < (l0.length : Int)
   rotate_left
   ·rw [if_neg c3] at H
    have c3b0 : decide (x8_1 < (l0.length : Int)) = false:=decide_eq_false c3
    clear c3
    obtain rfl:=Option.some.inj H
    go_wp2
    go_ret
    exact ⟨by first | rfl | (simp;done) | (simp [*];done),by repeat (first | exact Drawn0.refl _ | apply Drawn0.step)⟩
   rw [if_pos c3] at H
   have c3b0 : decide (x8_1 < (l0.length : Int)) = true:=decide_eq_true c3
   clear c3
   by_cases c4 : 0 ≤ x8_1
   rotate_left
   ·rw [if_neg c4] at H
    exact absurd H (by simp)
   rw [if_pos c4] at H
   have c4b0 : decide (0 ≤ x8_1) = true:=decide_eq_true c4
   clear c4
   by_cases c5 : x8_1 < (l0.length : Int)
   rotate_left
   ·rw [if_neg c5] at H
    exact absurd H (by simp)
   rw [if_pos c5] at H
   have c5b0 : decide (x8_1 < (l0.length : Int)) = true:=decide_eq_true c5
   clear c5
   by_cases c6 : a1 = (rd l0 x8_1)
   ·rw [if_pos c6] at H
    have c6b0 : (a1 == (rd l0 x8_1)) = true:=beq_iff_eq.mpr c6
    have c6b1 : (a1 != (rd l0 x8_1)) = false:=bne_eq_false_iff_eq.mpr c6
    clear c6
    obtain rfl:=Option.some.inj H
    have p295 : 0 ≤ (x8_1 : Int):=of_decide_eq_true (by assumption)
    have q295 : x8_1 < (l0.length : Int):=of_decide_eq_true (by assumption)
    obtain ⟨ad295,e295,hx295_0⟩:=Kd.at_int HR0.out x8_1 p295 q295
    cases e295
    replace p295:=eq_true p295
    replace q295:=eq_true q295
    go_wp2
    go_ret
    exact ⟨by first | rfl | (simp;done) | (simp [*];done),by repeat (first | exact Drawn0.refl _ | apply Drawn0.step)⟩
   rw [if_neg c6] at H
   have c6b0 : (a1 == (rd l0 x8_1)) = false:=beq_eq_false_iff_ne.mpr c6
   have c6b1 : (a1 != (rd l0 x8_1)) = true:=bne_iff_ne.mpr c6
   have H':=Aside0.mk H
   clear H
   have p295 : 0 ≤ (x8_1 : Int):=of_decide_eq_true (by assumption)
   have q295 : x8_1 < (l0.length : Int):=of_decide_eq_true (by assumption)
   obtain ⟨ad295,e295,hx295_0⟩:=Kd.at_int HR0.out x8_1 p295 q295
   cases e295
   replace p295:=eq_true p295
   replace q295:=eq_true q295
   go_wp2
   go_roundg k1
   case measure => have:=HK1.out;omega
   case rel => exact ⟨(wrap64 (x8_1 + 1)),(by first | rfl | (simp;done) | (simp [*];done)),H',⟨by have:=HK1.out;omega⟩,by repeat (first | exact Drawn0.refl _ | apply Drawn0.step)⟩

/-! ### slices_Contains_int_int: function 79 -/
def slices_Contains_int_int.f (k : Nat) (l0 : List Int) (a1 : Int) : Option (Bool):=(slices_Index_int_int.f k l0 a1).bind fun t296 => (some (decide (t296 ≥ 0)))
theorem slices_Contains_int_int.mono : ∀ a0 a1 k,LeO (slices_Contains_int_int.f k a0 a1) (slices_Contains_int_int.f (k + 1) a0 a1):=by
 intro a0 a1 k
 unfold slices_Contains_int_int.f
 repeat' first
   | (with_reducible exact slices_Index_int_int.mono _ _ _)
   | (with_reducible exact LeO.refl _)
   | (with_reducible exact LeO.none _)
   | (with_reducible refine LeO.ite ?_ ?_)
   | (with_reducible refine LeO.bind ?_ (fun _ => ?_))
set_option maxHeartbeats 8000000 in
set_option maxRecDepth 100000 in
theorem slices_Contains_int_int.calls (k : Nat) (A0 : Option Addr) (c0 : Nat) (l0 : List Int) (a1 : Int) (r : Bool) (w : World) (hr0 : Kd.C (Kd.int .i64) w A0 l0.length l0) (hc0 : l0.length ≤ c0) (h : slices_Contains_int_int.f k l0 a1 = some r) :
  Calls Try.prog 79 #[.slice A0 l0.length c0,.int .i64 a1] w fun e w' => e = .returned (.bool r) ∧ Drawn0 w w':=by
 have HR0:=Aside0.mk hr0
 have HC0:=Aside0.mk hc0
 clear hr0 hc0
 have H : ((slices_Index_int_int.f k l0 a1).bind fun t296 => (some (decide (t296 ≥ 0)))) = some r:=h
 clear h
 replace H:=Option.bind_eq_some_iff.mp H
 obtain ⟨t296,A30,H⟩:=H
 replace H : (some (decide (t296 ≥ 0))) = some r:=H
 have A3:=Aside0.mk A30
 clear A30
 obtain rfl:=Option.some.inj H
 go_enter Try.func79,Try.ntmps79
 go_wp2_with (first | ((with_reducible refine gate_callee (f:=94) rfl ?_);refine goesL_ (some 7) rfl rfl Try.func94 (by kernel_rfl) rfl #[.slice A0 l0.length c0,.int .i64 a1] rfl (by (try simp only [List.map_toArray,List.map_cons,List.map_nil]);first | done | rfl | (simp only [List.length_drop,List.length_take];rfl)) ?_;(with_reducible refine (slices_Index_int_int.calls k _ _ l0 a1 t296 _ ?side1 ?side2 A3.out).mono ?_);(case side1 => repeat (first | exact HR0.out | (with_reducible refine Kd.C_alloc ?_ _) | (with_reducible refine Kd.C_drewN ?_ _) | (with_reducible refine Kd.C_drew ?_)));(case side2 => exact HC0.out);rintro e w' ⟨rfl,⟨nd,rfl⟩⟩;refine ⟨_,rfl,?_⟩))
 go_ret
 exact ⟨by first | rfl | (simp;done) | (simp [*];done),by repeat (first | exact Drawn0.refl _ | apply Drawn0.step)⟩

/-! ### impl_reach: function 51 -/
mutual
def impl_reach.l0 : Nat → List (List Int) → List Int → List Bool → List Int → Option (List Bool)
 | 0,_,_,_,_ => none
 | k + 1,x0,x2,x7,x8 => if (x8.length : Int) > 0 then (if 0 < (x8.length : Int) then (if 0 ≤ (rd x8 0) then (if (rd x8 0) < (x0.length : Int) then (impl_reach.l1 k x0 x2 x7 x8 (rd_L3 x0 (rd x8 0)) ((rd_L3 x0 (rd x8 0)).length : Int) 0) else (none)) else (none)) else (none)) else (some x7)
def impl_reach.l1 : Nat → List (List Int) → List Int → List Bool → List Int → List Int → Int → Int → Option (List Bool)
 | 0,_,_,_,_,_,_,_ => none
 | k + 1,x0,x2,x7,x8,x33,x34,x35 => if x35 < x34 then (if 0 ≤ x35 then (if x35 < (x33.length : Int) then (if 0 ≤ (rd x33 x35) then (if (rd x33 x35) < (x7.length : Int) then (if (rdOf false x7 (rd x33 x35) = true) then (impl_reach.l1 k x0 x2 x7 x8 x33 x34 (wrap64 (x35 + 1))) else ((slices_Contains_int_int.f k x2 (rd x33 x35)).bind fun t309 => (if t309 = true then (impl_reach.l1 k x0 x2 x7 x8 x33 x34 (wrap64 (x35 + 1))) else (if x8.length < 17592186044416 then (impl_reach.l1 k x0 x2 (x7.set ((rd x33 x35) : Int).toNat true) (x8 ++ [rd x33 x35]) x33 x34 (wrap64 (x35 + 1))) else (none))))) else (none)) else (none)) else (none)) else (none)) else (if 1 ≤ (x8.length : Int) then (impl_reach.l0 k x0 x2 x7 (x8.drop (1 : Int).toNat)) else (none))
end
def impl_reach.f (k : Nat) (l0 : List (List Int)) (a1 : Int) (l2 : List Int) : Option (List Bool):=if 0 ≤ (l0.length : Int) then (if ((l0.length : Int) : Int).toNat ≤ 281474976710656 then ((some (List.replicate ((l0.length : Int) : Int).toNat false : List Bool)).bind fun y297 => ((slices_Contains_int_int.f k l2 a1).bind fun t300 => (if t300 = true then (some y297) else (if 0 ≤ a1 then (if a1 < (y297.length : Int) then (impl_reach.l0 k l0 l2 (y297.set (a1 : Int).toNat true) (([a1] : List Int))) else (none)) else (none))))) else (none)) else (none)
theorem impl_reach.mono_l : ∀ k,(∀ y0 y1 y2 y3,LeO (impl_reach.l0 k y0 y1 y2 y3) (impl_reach.l0 (k + 1) y0 y1 y2 y3)) ∧ (∀ y0 y1 y2 y3 y4 y5 y6,LeO (impl_reach.l1 k y0 y1 y2 y3 y4 y5 y6) (impl_reach.l1 (k + 1) y0 y1 y2 y3 y4 y5 y6))
 | 0 => ⟨fun _ _ _ _ r h => by simp [impl_reach.l0] at h,fun _ _ _ _ _ _ _ r h => by simp [impl_reach.l1] at h⟩
 | k + 1 => by
  obtain ⟨ih0,ih1⟩:=impl_reach.mono_l k
  refine ⟨?_,?_⟩
  ·intro y0 y1 y2 y3
   unfold impl_reach.l0
   repeat' first
   | (with_reducible exact ih0 _ _ _ _)
   | (with_reducible exact ih1 _ _ _ _ _ _ _)
   | (with_reducible exact slices_Contains_int_int.mono _ _ _)
   | (with_reducible exact LeO.refl _)
   | (with_reducible exact LeO.none _)
   | (with_reducible refine LeO.ite ?_ ?_)
   | (with_reducible refine LeO.bind ?_ (fun _ => ?_))
  ·intro y0 y1 y2 y3 y4 y5 y6
   unfold impl_reach.l1
   repeat' first
   | (with_reducible exact ih0 _ _ _ _)
   | (with_reducible exact ih1 _ _ _ _ _ _ _)
   | (with_reducible exact slices_Contains_int_int.mono _ _ _)
   | (with_reducible exact LeO.refl _)
   | (with_reducible exact LeO.none _)
   | (with_reducible refine LeO.ite ?_ ?_)
   | (with_reducible refine LeO.bind ?_ (fun _ => ?_))
theorem impl_reach.mono : ∀ a0 a1 a2 k,LeO (impl_reach.f k a0 a1 a2) (impl_reach.f (k + 1) a0 a1 a2):=by
 intro a0 a1 a2 k
 obtain ⟨ih0,ih1⟩:=impl_reach.mono_l k
 unfold impl_reach.f
 repeat' first
   | (with_reducible exact ih0 _ _ _ _)
   | (with_reducible exact ih1 _ _ _ _ _ _ _)
   | (with_reducible exact slices_Contains_int_int.mono _ _ _)
   | (with_reducible exact LeO.refl _)
   | (with_reducible exact LeO.none _)
   | (with_reducible refine LeO.ite ?_ ?_)
   | (with_reducible refine LeO.bind ?_ (fun _ => ?_))
set_option maxHeartbeats 8000000 in
set_option maxRecDepth 100000 in
theorem impl_reach.calls (k : Nat) (A0 : Option Addr) (c0 : Nat) (l0 : List (List Int)) (a1 : Int) (A2 : Option Addr) (c2 : Nat) (l2 : List Int) (r : List Bool) (w : World) (hr0 : Kd.C (Kd.slice 3 (Kd.int .i64)) w A0 l0.length l0) (hc0 : l0.length ≤ c0) (hr2 : Kd.C (Kd.int .i64) w A2 l2.length l2) (hc2 : l2.length ≤ c2) (h : impl_reach.f k l0 a1 l2 = some r) :
  Calls Try.prog 51 #[.slice A0 l0.length c0,.int .i64 a1,.slice A2 l2.length c2] w fun e w' => ∃ v0_ : Value,e = .returned (v0_) ∧ Kd.R Kd.bool 4 w' w.heap.size (fun _ => True) v0_ r ∧ Below w.heap.size w w':=by
 have HR0:=Aside0.mk hr0
 have HC0:=Aside0.mk hc0
 clear hr0 hc0
 have HR2:=Aside0.mk hr2
 have HC2:=Aside0.mk hc2
 clear hr2 hc2
 have HB:=Aside0.mk (Below.refl w.heap.size w)
 have H : (if 0 ≤ (l0.length : Int) then (if ((l0.length : Int) : Int).toNat ≤ 281474976710656 then ((some (List.replicate ((l0.length : Int) : Int).toNat false : List Bool)).bind fun y297 => ((slices_Contains_int_int.f k l2 a1).bind fun t300 => (if t300 = true then (some y297) else (if 0 ≤ a1 then (if a1 < (y297.length : Int) then (impl_reach.l0 k l0 l2 (y297.set (a1 : Int).toNat true) (([a1] : List Int))) else (none)) else (none))))) else (none)) else (none)) = some r:=h
 clear h
 by_cases c4 : 0 ≤ (l0.length : Int)
 rotate_left
 ·rw [if_neg c4] at H
  exact absurd H (by simp)
 rw [if_pos c4] at H
 have c4b0:=eq_true c4
 have c4b1 : decide (0 ≤ (l0.length : Int)) = true:=decide_eq_true c4
 clear c4
 by_cases c5 : ((l0.length : Int) : Int).toNat ≤ 281474976710656
 rotate_left
 ·rw [if_neg c5] at H
  exact absurd H (by simp)
 rw [if_pos c5] at H
 have c5b0:=eq_true c5
 have c5b1 : decide (((l0.length : Int) : Int).toNat ≤ 281474976710656) = true:=decide_eq_true c5
 clear c5
 obtain ⟨y297,hy297⟩ : ∃ y_ : List Bool,y_ = (List.replicate ((l0.length : Int) : Int).toNat false):=⟨_,rfl⟩
 replace H : ((slices_Contains_int_int.f k l2 a1).bind fun t300 => (if t300 = true then (some y297) else (if 0 ≤ a1 then (if a1 < (y297.length : Int) then (impl_reach.l0 k l0 l2 (y297.set (a1 : Int).toNat true) (([a1] : List Int))) else (none)) else (none)))) = some r:=by first | (rw [hy297];with_reducible exact H) | (have H2_:=(Option.bind_some _ _).symm.trans H;rw [hy297];with_reducible exact H2_) | (have H2_:=(Option.bind_some _ _).symm.trans H;with_reducible exact H2_) | with_reducible exact H | (rw [hy297];exact H) | exact H
 have Ny297:=Aside0.mk hy297
 clear hy297
 replace H:=Option.bind_eq_some_iff.mp H
 obtain ⟨t300,A60,H⟩:=H
 replace H : (if t300 = true then (some y297) else (if 0 ≤ a1 then (if a1 < (y297.length : Int) then (impl_reach.l0 k l0 l2 (y297.set (a1 : Int).toNat true) (([a1] : List Int))) else (none)) else (none))) = some r:=H
 have A6:=Aside0.mk A60
 clear A60
 by_cases c7 : t300 = true
 ·subst c7
  have H1 : (some y297) = some r:=by rw [if_pos rfl] at H;exact H
  clear H
  have H:=H1
  clear H1
  obtain rfl:=Option.some.inj H
  go_enter Try.func51,Try.ntmps51
  go_wp2_with (first | ((with_reducible refine gate_dst (N:=13) rfl ?_);refine Kd.R_make Kd.bool _ 4 rfl (N:=13) rfl 71 _ _ rfl (l0.length : Int) rfl rfl Try.underlying71 (.bool false) 1 info4 rfl (by decide) (by omega) false (ok:=fun _ => True) (okp:=fun _ => True) rfl (fun _ hk => hk) trivial (of_decide_eq_true (by assumption)) (Nat.le_trans (Nat.mul_le_mul_right _ (of_decide_eq_true (by assumption) : (l0.length : Int).toNat ≤ 281474976710656)) (by omega)) (Below.refl _ _) (Nat.le_refl _) ?_;intro v298 w8 ho9 hb hg_ hnew_;clear hg_ hnew_;(first | rw [← Ny297.out] at ho9 | (simp only [Int.reduceToNat] at ho9;rw [← Ny297.out] at ho9));have n0_:=Aside0.mk (Kd.R_lower ho9 (below_size (by repeat (with_reducible first | exact HB.out | apply below_alloc | apply pw_below_drewN | apply below_drew1))));have n1_:=Aside0.mk (below_step (by repeat (with_reducible first | exact HB.out | apply below_alloc | apply pw_below_drewN | apply below_drew1)) hb);clear HB;have HO299:=n0_;have HB:=n1_;clear n0_ n1_;clear hb ho9) | ((with_reducible refine gate_callee (f:=79) rfl ?_);refine goesL_ (some 16) rfl rfl Try.func79 (by kernel_rfl) rfl #[.slice A2 l2.length c2,.int .i64 a1] rfl (by (try simp only [List.map_toArray,List.map_cons,List.map_nil]);first | done | rfl | (simp only [List.length_drop,List.length_take];rfl)) ?_;(with_reducible refine (slices_Contains_int_int.calls k _ _ l2 a1 true _ ?side1 ?side2 A6.out).mono ?_);(case side1 => repeat (first | exact (Kd.C_below HR2.out HB.out) | (with_reducible refine Kd.C_alloc ?_ _) | (with_reducible refine Kd.C_drewN ?_ _) | (with_reducible refine Kd.C_drew ?_)));(case side2 => exact HC2.out);rintro e w' ⟨rfl,⟨nd,rfl⟩⟩;refine ⟨_,rfl,?_⟩))
  go_ret
  exact ⟨_,by first | rfl | (simp [*,errW_none,errW_some] <;> rfl),by (with_reducible repeat (first | apply Kd.R_alloc | apply Kd.R_drewN | apply Kd.R_drew));exact HO299.out,by repeat (with_reducible first | exact HB.out | apply below_alloc | apply pw_below_drewN | apply below_drew1)⟩
 replace c7:=Bool.eq_false_iff.mpr c7
 subst c7
 have H1 : (if 0 ≤ a1 then (if a1 < (y297.length : Int) then (impl_reach.l0 k l0 l2 (y297.set (a1 : Int).toNat true) (([a1] : List Int))) else (none)) else (none)) = some r:=by rw [if_neg (show ¬ (false = true) by decide)] at H;exact H
 clear H
 have H:=H1
 clear H1
 by_cases c10 : 0 ≤ a1
 rotate_left
 ·rw [if_neg c10] at H
  exact absurd H (by simp)
 rw [if_pos c10] at H
 have c10b0 : decide (0 ≤ a1) = true:=decide_eq_true c10
 clear c10
 by_cases c11 : a1 < (y297.length : Int)
 rotate_left
 ·rw [if_neg c11] at H
  exact absurd H (by simp)
 rw [if_pos c11] at H
 have c11b0 : decide (a1 < (y297.length : Int)) = true:=decide_eq_true c11
 clear c11
 obtain ⟨y301,hy301⟩ : ∃ y_ : List Bool,y_ = (y297.set (a1 : Int).toNat true):=⟨_,rfl⟩
 replace H : (impl_reach.l0 k l0 l2 y301 (([a1] : List Int))) = some r:=by first | (rw [hy301];with_reducible exact H) | (have H2_:=(Option.bind_some _ _).symm.trans H;rw [hy301];with_reducible exact H2_) | (have H2_:=(Option.bind_some _ _).symm.trans H;with_reducible exact H2_) | with_reducible exact H | (rw [hy301];exact H) | exact H
 have Ny301:=Aside0.mk hy301
 clear hy301
 obtain ⟨y302,hy302⟩ : ∃ y_ : List Int,y_ = (([a1] : List Int)):=⟨_,rfl⟩
 replace H : (impl_reach.l0 k l0 l2 y301 y302) = some r:=by first | (rw [hy302];with_reducible exact H) | (have H2_:=(Option.bind_some _ _).symm.trans H;rw [hy302];with_reducible exact H2_) | (have H2_:=(Option.bind_some _ _).symm.trans H;with_reducible exact H2_) | with_reducible exact H | (rw [hy302];exact H) | exact H
 have Ny302:=Aside0.mk hy302
 clear hy302
 have H':=Aside0.mk H
 clear H
 go_enter Try.func51,Try.ntmps51
 go_wp2_with (first | ((with_reducible refine gate_dst (N:=13) rfl ?_);refine Kd.R_make Kd.bool _ 4 rfl (N:=13) rfl 71 _ _ rfl (l0.length : Int) rfl rfl Try.underlying71 (.bool false) 1 info4 rfl (by decide) (by omega) false (ok:=fun _ => True) (okp:=fun _ => True) rfl (fun _ hk => hk) trivial (of_decide_eq_true (by assumption)) (Nat.le_trans (Nat.mul_le_mul_right _ (of_decide_eq_true (by assumption) : (l0.length : Int).toNat ≤ 281474976710656)) (by omega)) (Below.refl _ _) (Nat.le_refl _) ?_;intro v298 w13 ho14 hb hg_ hnew_;clear hg_ hnew_;(first | rw [← Ny297.out] at ho14 | (simp only [Int.reduceToNat] at ho14;rw [← Ny297.out] at ho14));have n0_:=Aside0.mk (Kd.R_lower ho14 (below_size (by repeat (with_reducible first | exact HB.out | apply below_alloc | apply pw_below_drewN | apply below_drew1))));have n1_:=Aside0.mk (below_step (by repeat (with_reducible first | exact HB.out | apply below_alloc | apply pw_below_drewN | apply below_drew1)) hb);clear HB;have HO299:=n0_;have HB:=n1_;clear n0_ n1_;clear hb ho14) | ((with_reducible refine gate_callee (f:=79) rfl ?_);refine goesL_ (some 16) rfl rfl Try.func79 (by kernel_rfl) rfl #[.slice A2 l2.length c2,.int .i64 a1] rfl (by (try simp only [List.map_toArray,List.map_cons,List.map_nil]);first | done | rfl | (simp only [List.length_drop,List.length_take];rfl)) ?_;(with_reducible refine (slices_Contains_int_int.calls k _ _ l2 a1 false _ ?side1 ?side2 A6.out).mono ?_);(case side1 => repeat (first | exact (Kd.C_below HR2.out HB.out) | (with_reducible refine Kd.C_alloc ?_ _) | (with_reducible refine Kd.C_drewN ?_ _) | (with_reducible refine Kd.C_drew ?_)));(case side2 => exact HC2.out);rintro e w' ⟨rfl,⟨nd,rfl⟩⟩;refine ⟨_,rfl,?_⟩;(try (rw [drewN_self w13];generalize hq_ : World.drewN w13 _ = w13;have n0_ : Aside0 (Kd.R Kd.bool 4 w13 w.heap.size (fun _ => True) v298 y297):=⟨by rw [← hq_];exact (by (with_reducible repeat (first | apply Kd.R_alloc | apply Kd.R_drewN | apply Kd.R_drew));exact HO299.out)⟩;have n1_ : Aside0 (Below w.heap.size w w13):=⟨by rw [← hq_];exact (by repeat (with_reducible first | exact HB.out | apply below_alloc | apply pw_below_drewN | apply below_drew1))⟩;clear HO299 HB hq_;have HO299:=n0_;have HB:=n1_;clear n0_ n1_));have p12 : 0 ≤ (a1 : Int):=of_decide_eq_true (by assumption);have q12 : (a1 : Int) < ((y297.length : Int) : Int):=of_decide_eq_true (by assumption);obtain ⟨go12,co12,eo12,gb12,gl12,cl12,HG12⟩:=Kd.R_form HO299.out (by omega);(first | cases eo12 | (injection eo12 with ea_ en_ ec_;(first | subst ea_ | (injection ea_ with ea_;subst ea_));subst ec_;clear en_));have GB12:=Aside0.mk gb12;have GG12:=Aside0.mk HG12;clear gb12 gl12 HG12;obtain ⟨hx12_0,hf12_0⟩:=Kd.R_celln false HO299.out (a1 : Int) p12 q12;replace p12:=eq_true p12;replace q12:=eq_true q12;obtain ⟨hy15_,hz15_⟩:=Kd.R_celln false HO299.out (a1 : Int) (of_decide_eq_true (by assumption)) (of_decide_eq_true (by assumption));have HP15:=Kd.R_putg HO299.out (a1 : Int) true) | ((with_reducible refine gate_store (t:=4) (p:=20) rfl ?_);refine store_event (t:=4) (p:=20) (v:=?vo_w16) (w1:=(w13.setCell ⟨go12,(a1 : Int).toNat,none⟩ (.bool true))) ?hg ?ho ?hn ?hr ?_;(case ho => rfl);(case hg => rfl);(case hn => rfl);(case hr => first | (go_simp;done) | (go_simp;rfl));intro w16 hw;have hg : w13.grownBy w16 (some go12):=(by rw [hw];exact HP15.2);have hp_ : Kd.R Kd.bool 4 w16 w.heap.size (fun _ => True) (.slice (some ⟨go12,0,none⟩) y297.length co12) y301:=(by rw [hw,Ny301.out];exact HP15.1);clear HP15;have n0_:=Aside0.mk (hp_);have n1_:=Aside0.mk ((by rw [hw];exact below_set (HB.out) GB12.out : Below w.heap.size w w16));clear HO299;clear HB;have HO299:=n0_;have HB:=n1_;clear n0_ n1_;clear hg hw hp_) | ((with_reducible refine gate_dst (N:=22) rfl ?_);refine Kd.R_lit (Kd.int .i64) _ 3 ?hg (N:=22) ?hd (xs:=([a1] : List Int)) (inner:=[.int .i64 a1]) (ok:=fun _ => True) (okp:=fun _ => True) ?hr ?hp (fun _ hk => hk) trivial (Below.refl _ _) (Nat.le_refl _) (by simp) ?_;(case hd => rfl);(case hg => rfl);(case hr => first | (go_simp;done) | (go_simp;rfl));(case hp => exact (Reps.one (show Kd.M (Kd.int .i64) _ _ _ a1 [.int .i64 a1] from rfl) (Reps.none _ _)));intro v303 w17 ho18 hb hg_ hnew_;clear hg_ hnew_;(first | rw [← Ny302.out] at ho18 | (simp only [Int.reduceToNat] at ho18;rw [← Ny302.out] at ho18));have n0_:=Aside0.mk (Kd.R_below (by (with_reducible repeat (first | apply Kd.R_alloc | apply Kd.R_drewN | apply Kd.R_drew));exact HO299.out) hb);have n1_:=Aside0.mk (Kd.R_lower ho18 (below_size (by repeat (with_reducible first | exact HB.out | apply below_alloc | apply pw_below_drewN | apply below_drew1))));have n2_:=Aside0.mk (below_step (by repeat (with_reducible first | exact HB.out | apply below_alloc | apply pw_below_drewN | apply below_drew1)) hb);clear HO299;clear HB;have HO299:=n0_;have HO304:=n1_;have HB:=n2_;clear n0_ n1_ n2_;clear hb ho18))
 go_loopg [8] k (fun kq v8 w' => ∃ (x7_1 : List Bool) (x8_1 : List Int),Aside0 (impl_reach.l0 kq l0 l2 x7_1 x8_1 = some r) ∧ Aside0 (kq ≤ k) ∧ Aside0 (Kd.R Kd.bool 4 w' w.heap.size (fun _ => True) (.slice (some ⟨go12,0,none⟩) y297.length co12) x7_1) ∧ Aside0 (Kd.Q (Kd.int .i64) 3 w' w.heap.size (fun _ => True) v8 x8_1) ∧ Aside0 (Below w.heap.size w w'))
 case atStart => exact ⟨(y301),(y302),H',⟨Nat.le_refl _⟩,⟨by (with_reducible repeat (first | apply Kd.R_alloc | apply Kd.R_drewN | apply Kd.R_drew));exact HO299.out⟩,⟨Kd.Q_of_R (by (with_reducible repeat (first | apply Kd.R_alloc | apply Kd.R_drewN | apply Kd.R_drew));exact HO304.out)⟩,⟨by repeat (with_reducible first | exact HB.out | apply below_alloc | apply pw_below_drewN | apply below_drew1)⟩⟩
 case round =>
  clear H'
  try clear c1
  try clear p1
  try clear q1
  try clear hx1
  try clear c2
  try clear p2
  try clear c4
  try clear c4b0
  try clear c4b1
  try clear c5
  try clear c5b0
  try clear c5b1
  try clear c7
  try clear c10
  try clear c10b0
  try clear c11
  try clear c11b0
  try clear p12
  try clear q12
  try clear hx12
  try clear hf12
  try clear hx12_0
  try clear p12
  try clear q12
  obtain ⟨x7_1,x8_1,HA,HK1,HO_7,HO_8,HB⟩:=hrel
  have hl7_1:=(Kd.R_reads' HO_7.out).1
  rw [hl7_1] at HO_7
  (try simp only [hl7_1])
  (try simp only [hl7_1] at HO_8)
  cases gk with
  | zero => exact absurd HA.out (by simp [impl_reach.l0])
  | succ k1 =>
   have H:=HA.out
   clear HA
   simp only [impl_reach.l0] at H
   by_cases c19 : (x8_1.length : Int) > 0
   rotate_left
   ·rw [if_neg c19] at H
    have c19b0 : decide (0 < (x8_1.length : Int)) = false:=decide_eq_false c19
    (try (have c19b0_h:=c19b0;rw [hl7_1] at c19b0_h))
    have c19b1 : decide (0 < x8_1.length) = false:=decide_eq_false (by omega)
    (try (have c19b1_h:=c19b1;rw [hl7_1] at c19b1_h))
    clear c19
    obtain rfl:=Option.some.inj H
    obtain ⟨Ao41,co41,eo41,_⟩:=Kd.Q_slice HO_8.out
    subst eo41
    go_wp2
    go_ret
    exact ⟨_,by first | rfl | (simp [*,errW_none,errW_some] <;> rfl),by (with_reducible repeat (first | apply Kd.R_alloc | apply Kd.R_drewN | apply Kd.R_drew));exact HO_7.out,by repeat (with_reducible first | exact HB.out | apply below_alloc | apply pw_below_drewN | apply below_drew1)⟩
   rw [if_pos c19] at H
   have c19b0 : decide (0 < (x8_1.length : Int)) = true:=decide_eq_true c19
   (try (have c19b0_h:=c19b0;rw [hl7_1] at c19b0_h))
   have c19b1 : decide (0 < x8_1.length) = true:=decide_eq_true (by omega)
   (try (have c19b1_h:=c19b1;rw [hl7_1] at c19b1_h))
   clear c19
   by_cases c20 : 0 < (x8_1.length : Int)
   rotate_left
   ·rw [if_neg c20] at H
    exact absurd H (by simp)
   rw [if_pos c20] at H
   have c20b0 : decide (0 < (x8_1.length : Int)) = true:=decide_eq_true c20
   (try (have c20b0_h:=c20b0;rw [hl7_1] at c20b0_h))
   have c20b1 : decide (0 < x8_1.length) = true:=decide_eq_true (by omega)
   (try (have c20b1_h:=c20b1;rw [hl7_1] at c20b1_h))
   clear c20
   by_cases c21 : 0 ≤ (rd x8_1 0)
   rotate_left
   ·rw [if_neg c21] at H
    exact absurd H (by simp)
   rw [if_pos c21] at H
   have c21b0 : decide (0 ≤ (rd x8_1 0)) = true:=decide_eq_true c21
   clear c21
   by_cases c22 : (rd x8_1 0) < (l0.length : Int)
   rotate_left
   ·rw [if_neg c22] at H
    exact absurd H (by simp)
   rw [if_pos c22] at H
   have c22b0 : decide ((rd x8_1 0) < (l0.length : Int)) = true:=decide_eq_true c22
   (try (have c22b0_h:=c22b0;rw [hl7_1] at c22b0_h))
   clear c22
   have H':=Aside0.mk H
   clear H
   obtain ⟨Ao23,co23,eo23,_⟩:=Kd.Q_slice HO_8.out
   subst eo23
   have p305 : 0 ≤ (0 : Int):=(by omega)
   have q305 : 0 < (x8_1.length : Int):=of_decide_eq_true (by assumption)
   obtain ⟨ad305,e305,hx305_0⟩:=Kd.at_int (Kd.Q_reads' HO_8.out).2.2 0 p305 q305
   cases e305
   have qi305 : (0 < x8_1.length) = True:=eq_true (by omega)
   (try rw [show ((0 : Int)).toNat = 0 from rfl] at hx305_0)
   (try rw [Addr.add_zero'] at hx305_0)
   replace p305:=eq_true p305
   replace q305:=eq_true q305
   have p306 : 0 ≤ ((rd x8_1 0) : Int):=of_decide_eq_true (by assumption)
   have q306 : (rd x8_1 0) < (l0.length : Int):=of_decide_eq_true (by assumption)
   obtain ⟨ad306,A306_0,c306_0,e306,hx306_0,hl306_0,hi306_0⟩:=at_L3 HR0.out (rd x8_1 0) p306 q306
   cases e306
   replace hx306_0:=(HB.out.cell (World.block_lt_of_cell? w _ hx306_0)).trans hx306_0
   have HR306_0:=Aside0.mk hi306_0
   have HC306_0:=Aside0.mk hl306_0
   clear hi306_0 hl306_0
   replace p306:=eq_true p306
   replace q306:=eq_true q306
   go_wp2
   go_loopg [8,35] k1 (fun kq v8 v35 w' => ∃ (x7_2 : List Bool) (x8_2 : List Int) (x35_2 : Int),v35 = .int .i64 x35_2 ∧ Aside0 (impl_reach.l1 kq l0 l2 x7_2 x8_2 (rd_L3 l0 (rd x8_1 0)) ((rd_L3 l0 (rd x8_1 0)).length : Int) x35_2 = some r) ∧ Aside0 (kq ≤ k1) ∧ Aside0 (Kd.R Kd.bool 4 w' w.heap.size (fun _ => True) (.slice (some ⟨go12,0,none⟩) x7_1.length co12) x7_2) ∧ Aside0 (Kd.Q (Kd.int .i64) 3 w' w.heap.size (fun _ => True) v8 x8_2) ∧ Aside0 (Below w.heap.size w w'))
   case atStart => exact ⟨(x7_1),(x8_1),(0),(by first | rfl | (simp;done) | (simp [*];done)),H',⟨Nat.le_refl _⟩,⟨by (try simp only [hl7_1]);(with_reducible repeat (first | apply Kd.R_alloc | apply Kd.R_drewN | apply Kd.R_drew));exact HO_7.out⟩,⟨by (try simp only [hl7_1]);(with_reducible repeat (first | apply Kd.Q_alloc | apply Kd.Q_drewN | apply Kd.Q_drew));exact HO_8.out⟩,⟨by repeat (with_reducible first | exact HB.out | apply below_alloc | apply pw_below_drewN | apply below_drew1)⟩⟩
   case round =>
    clear H'
    try clear c1
    try clear p1
    try clear q1
    try clear hx1
    try clear c2
    try clear p2
    try clear c3
    try clear p3
    try clear q3
    try clear hx3
    try clear qi3
    try clear c4
    try clear c4b0
    try clear c4b1
    try clear c5
    try clear c5b0
    try clear c5b1
    try clear c7
    try clear c10
    try clear c10b0
    try clear c11
    try clear c11b0
    try clear p12
    try clear q12
    try clear hx12
    try clear hf12
    try clear c19
    try clear c19b0
    try clear c19b1
    try clear c20
    try clear c20b0
    try clear c20b1
    try clear c21
    try clear c21b0
    try clear c22
    try clear c22b0
    try clear hx12_0
    try clear hx305_0
    try clear hx306_0
    try clear p1
    try clear p12
    try clear p2
    try clear p305
    try clear p306
    try clear q1
    try clear q12
    try clear q305
    try clear q306
    obtain ⟨x7_2,x8_2,x35_2,rfl,HA,HK2,HO_7,HO_8,HB⟩:=hrel
    have hl7_2:=(Kd.R_reads' HO_7.out).1
    rw [hl7_2] at HO_7
    (try simp only [hl7_2])
    (try simp only [hl7_2] at HO_8)
    cases gk with
    | zero => exact absurd HA.out (by simp [impl_reach.l1])
    | succ k2 =>
     have H:=HA.out
     clear HA
     simp only [impl_reach.l1] at H
     by_cases c24 : x35_2 < ((rd_L3 l0 (rd x8_1 0)).length : Int)
     rotate_left
     ·rw [if_neg c24] at H
      have c24b0 : decide (x35_2 < ((rd_L3 l0 (rd x8_1 0)).length : Int)) = false:=decide_eq_false c24
      (try (have c24b0_h:=c24b0;rw [hl7_2] at c24b0_h))
      clear c24
      by_cases c38 : 1 ≤ (x8_2.length : Int)
      rotate_left
      ·rw [if_neg c38] at H
       exact absurd H (by simp)
      rw [if_pos c38] at H
      have c38b0:=eq_true c38
      have c38b1 : decide (1 ≤ (x8_2.length : Int)) = true:=decide_eq_true c38
      (try (have c38b1_h:=c38b1;rw [hl7_2] at c38b1_h))
      clear c38
      obtain ⟨y314,hy314⟩ : ∃ y_ : List Int,y_ = (x8_2.drop (1 : Int).toNat):=⟨_,rfl⟩
      replace H : (impl_reach.l0 k2 l0 l2 x7_2 y314) = some r:=by first | (rw [hy314];with_reducible exact H) | (have H2_:=(Option.bind_some _ _).symm.trans H;rw [hy314];with_reducible exact H2_) | (have H2_:=(Option.bind_some _ _).symm.trans H;with_reducible exact H2_) | with_reducible exact H | (rw [hy314];exact H) | exact H
      have Ny314:=Aside0.mk hy314
      clear hy314
      have H':=Aside0.mk H
      clear H
      obtain ⟨Ao39,co39,eo39,_⟩:=Kd.Q_slice HO_8.out
      subst eo39
      have q40 : (1 : Int) ≤ ((x8_2.length : Int) : Int):=of_decide_eq_true (by assumption)
      obtain ⟨i040,hi040,_,hsz40,_⟩:=info_parts info3
      have hcut40:=cut_from (P:=Try.prog) 37 3 .i64 Try.underlying37 hi040 1 hsz40 Ao39 x8_2.length co39 1 (by omega) q40
      have hr40:=Kd.Q_drop (k:=(1 : Int).toNat) HO_8.out (by omega)
      obtain ⟨A40,hA40⟩ : ∃ A1,A1 = (if co39 = (1 : Int).toNat then Ao39 else (Ao39 : Option Addr).map (·.add ((1 : Int).toNat * 1))):=⟨_,rfl⟩
      obtain ⟨c40,hc40⟩ : ∃ c1,c1 = co39 - (1 : Int).toNat:=⟨_,rfl⟩
      have hy40 : y314.length = x8_2.length - (1 : Int).toNat:=(by rw [Ny314.out,List.length_drop])
      rw [← Ny314.out] at hr40
      rw [← hy40,← hA40,← hc40] at hcut40
      replace hr40 : Kd.Q (Kd.int .i64) 3 wr w.heap.size (fun _ => True) (.slice A40 y314.length c40) y314:=(by rw [hA40,hc40,hy40];exact hr40)
      have HE40 : Aside0 ((Value.slice A40 y314.length c40).ownBlock = (.slice Ao39 x8_2.length co39 : Value).ownBlock):=⟨by rw [hA40];split <;> (cases (Ao39 : Option Addr) <;> rfl)⟩
      clear hy40 hi040 hsz40 HO_8 hA40 hc40
      have HO316:=Aside0.mk hr40
      clear hr40
      replace q40:=eq_true q40
      go_wp2
      (try simp only [← hl7_1,← hl7_2])
      go_roundg k2
      case measure => have:=HK1.out;have:=HK2.out;omega
      case rel => exact ⟨(x7_2),(y314),H',⟨by have:=HK1.out;have:=HK2.out;omega⟩,⟨by (try simp only [hl7_1]);(try simp only [hl7_2]);(with_reducible repeat (first | apply Kd.R_alloc | apply Kd.R_drewN | apply Kd.R_drew));exact HO_7.out⟩,⟨by (try simp only [hl7_1]);(try simp only [hl7_2]);(with_reducible repeat (first | apply Kd.Q_alloc | apply Kd.Q_drewN | apply Kd.Q_drew));exact HO316.out⟩,⟨by repeat (with_reducible first | exact HB.out | apply below_alloc | apply pw_below_drewN | apply below_drew1)⟩⟩
     rw [if_pos c24] at H
     have c24b0 : decide (x35_2 < ((rd_L3 l0 (rd x8_1 0)).length : Int)) = true:=decide_eq_true c24
     (try (have c24b0_h:=c24b0;rw [hl7_2] at c24b0_h))
     clear c24
     by_cases c25 : 0 ≤ x35_2
     rotate_left
     ·rw [if_neg c25] at H
      exact absurd H (by simp)
     rw [if_pos c25] at H
     have c25b0 : decide (0 ≤ x35_2) = true:=decide_eq_true c25
     clear c25
     by_cases c26 : x35_2 < ((rd_L3 l0 (rd x8_1 0)).length : Int)
     rotate_left
     ·rw [if_neg c26] at H
      exact absurd H (by simp)
     rw [if_pos c26] at H
     have c26b0 : decide (x35_2 < ((rd_L3 l0 (rd x8_1 0)).length : Int)) = true:=decide_eq_true c26
     (try (have c26b0_h:=c26b0;rw [hl7_2] at c26b0_h))
     clear c26
     by_cases c27 : 0 ≤ (rd (rd_L3 l0 (rd x8_1 0)) x35_2)
     rotate_left
     ·rw [if_neg c27] at H
      exact absurd H (by simp)
     rw [if_pos c27] at H
     have c27b0 : decide (0 ≤ (rd (rd_L3 l0 (rd x8_1 0)) x35_2)) = true:=decide_eq_true c27
     clear c27
     by_cases c28 : (rd (rd_L3 l0 (rd x8_1 0)) x35_2) < (x7_2.length : Int)
     rotate_left
     ·rw [if_neg c28] at H
      exact absurd H (by simp)
     rw [if_pos c28] at H
     have c28b0 : decide ((rd (rd_L3 l0 (rd x8_1 0)) x35_2) < (x7_2.length : Int)) = true:=decide_eq_true c28
     (try (have c28b0_h:=c28b0;rw [hl7_2] at c28b0_h))
     clear c28
     obtain ⟨bq29,hbq29⟩ : ∃ b_ : Bool,b_ = (rdOf false x7_2 (rd (rd_L3 l0 (rd x8_1 0)) x35_2)):=⟨_,rfl⟩
     replace H : (if (bq29 = true) then (impl_reach.l1 k2 l0 l2 x7_2 x8_2 (rd_L3 l0 (rd x8_1 0)) ((rd_L3 l0 (rd x8_1 0)).length : Int) (wrap64 (x35_2 + 1))) else ((slices_Contains_int_int.f k2 l2 (rd (rd_L3 l0 (rd x8_1 0)) x35_2)).bind fun t309 => (if t309 = true then (impl_reach.l1 k2 l0 l2 x7_2 x8_2 (rd_L3 l0 (rd x8_1 0)) ((rd_L3 l0 (rd x8_1 0)).length : Int) (wrap64 (x35_2 + 1))) else (if x8_2.length < 17592186044416 then (impl_reach.l1 k2 l0 l2 (x7_2.set ((rd (rd_L3 l0 (rd x8_1 0)) x35_2) : Int).toNat true) (x8_2 ++ [rd (rd_L3 l0 (rd x8_1 0)) x35_2]) (rd_L3 l0 (rd x8_1 0)) ((rd_L3 l0 (rd x8_1 0)).length : Int) (wrap64 (x35_2 + 1))) else (none))))) = some r:=by rw [← hbq29] at H;exact H
     have Nbq29:=Aside0.mk hbq29
     clear hbq29
     by_cases c30 : (bq29 = true)
     ·subst c30
      have H1 : (impl_reach.l1 k2 l0 l2 x7_2 x8_2 (rd_L3 l0 (rd x8_1 0)) ((rd_L3 l0 (rd x8_1 0)).length : Int) (wrap64 (x35_2 + 1))) = some r:=by rw [if_pos rfl] at H;exact H
      clear H
      have H:=H1
      clear H1
      have H':=Aside0.mk H
      clear H
      have p307 : 0 ≤ (x35_2 : Int):=of_decide_eq_true (by assumption)
      have q307 : x35_2 < ((rd_L3 l0 (rd x8_1 0)).length : Int):=of_decide_eq_true (by assumption)
      obtain ⟨ad307,e307,hx307_0⟩:=Kd.at_int HR306_0.out x35_2 p307 q307
      cases e307
      replace hx307_0:=(HB.out.cell (World.block_lt_of_cell? w _ hx307_0)).trans hx307_0
      replace p307:=eq_true p307
      replace q307:=eq_true q307
      have p308 : 0 ≤ ((rd (rd_L3 l0 (rd x8_1 0)) x35_2) : Int):=of_decide_eq_true (by assumption)
      have q308 : (rd (rd_L3 l0 (rd x8_1 0)) x35_2) < (x7_2.length : Int):=of_decide_eq_true (by assumption)
      obtain ⟨ad308,e308,hx308_0⟩:=Kd.at_bool (Kd.R_reads' HO_7.out).2.2 (rd (rd_L3 l0 (rd x8_1 0)) x35_2) p308 q308
      (try rw [← Nbq29.out] at hx308_0)
      obtain rfl : (⟨go12,0,none⟩ : Addr) = ad308:=(by injection e308)
      (first | simp only [add_plain] at hx308_0 | simp only [add_at] at hx308_0 | simp only [Addr.add,Nat.zero_add] at hx308_0 | skip)
      replace p308:=eq_true p308
      replace q308:=eq_true q308
      go_wp2
      (try simp only [← hl7_2])
      go_roundg k2
      case measure => have:=HK1.out;have:=HK2.out;omega
      case rel => exact ⟨(x7_2),(x8_2),(wrap64 (x35_2 + 1)),(by first | rfl | (simp;done) | (simp [*];done)),H',⟨by have:=HK1.out;have:=HK2.out;omega⟩,⟨by (try simp only [hl7_1]);(try simp only [hl7_2]);(with_reducible repeat (first | apply Kd.R_alloc | apply Kd.R_drewN | apply Kd.R_drew));exact HO_7.out⟩,⟨by (try simp only [hl7_1]);(try simp only [hl7_2]);(with_reducible repeat (first | apply Kd.Q_alloc | apply Kd.Q_drewN | apply Kd.Q_drew));exact HO_8.out⟩,⟨by repeat (with_reducible first | exact HB.out | apply below_alloc | apply pw_below_drewN | apply below_drew1)⟩⟩
     replace c30:=Bool.eq_false_iff.mpr c30
     subst c30
     have H1 : ((slices_Contains_int_int.f k2 l2 (rd (rd_L3 l0 (rd x8_1 0)) x35_2)).bind fun t309 => (if t309 = true then (impl_reach.l1 k2 l0 l2 x7_2 x8_2 (rd_L3 l0 (rd x8_1 0)) ((rd_L3 l0 (rd x8_1 0)).length : Int) (wrap64 (x35_2 + 1))) else (if x8_2.length < 17592186044416 then (impl_reach.l1 k2 l0 l2 (x7_2.set ((rd (rd_L3 l0 (rd x8_1 0)) x35_2) : Int).toNat true) (x8_2 ++ [rd (rd_L3 l0 (rd x8_1 0)) x35_2]) (rd_L3 l0 (rd x8_1 0)) ((rd_L3 l0 (rd x8_1 0)).length : Int) (wrap64 (x35_2 + 1))) else (none)))) = some r:=by rw [if_neg (show ¬ (false = true) by decide)] at H;exact H
     clear H
     have H:=H1
     clear H1
     replace H:=Option.bind_eq_some_iff.mp H
     obtain ⟨t309,A310,H⟩:=H
     replace H : (if t309 = true then (impl_reach.l1 k2 l0 l2 x7_2 x8_2 (rd_L3 l0 (rd x8_1 0)) ((rd_L3 l0 (rd x8_1 0)).length : Int) (wrap64 (x35_2 + 1))) else (if x8_2.length < 17592186044416 then (impl_reach.l1 k2 l0 l2 (x7_2.set ((rd (rd_L3 l0 (rd x8_1 0)) x35_2) : Int).toNat true) (x8_2 ++ [rd (rd_L3 l0 (rd x8_1 0)) x35_2]) (rd_L3 l0 (rd x8_1 0)) ((rd_L3 l0 (rd x8_1 0)).length : Int) (wrap64 (x35_2 + 1))) else (none))) = some r:=H
     have A31:=Aside0.mk A310
     clear A310
     by_cases c32 : t309 = true
     ·subst c32
      have H1 : (impl_reach.l1 k2 l0 l2 x7_2 x8_2 (rd_L3 l0 (rd x8_1 0)) ((rd_L3 l0 (rd x8_1 0)).length : Int) (wrap64 (x35_2 + 1))) = some r:=by rw [if_pos rfl] at H;exact H
      clear H
      have H:=H1
      clear H1
      have H':=Aside0.mk H
      clear H
      have p307 : 0 ≤ (x35_2 : Int):=of_decide_eq_true (by assumption)
      have q307 : x35_2 < ((rd_L3 l0 (rd x8_1 0)).length : Int):=of_decide_eq_true (by assumption)
      obtain ⟨ad307,e307,hx307_0⟩:=Kd.at_int HR306_0.out x35_2 p307 q307
      cases e307
      replace hx307_0:=(HB.out.cell (World.block_lt_of_cell? w _ hx307_0)).trans hx307_0
      replace p307:=eq_true p307
      replace q307:=eq_true q307
      have p308 : 0 ≤ ((rd (rd_L3 l0 (rd x8_1 0)) x35_2) : Int):=of_decide_eq_true (by assumption)
      have q308 : (rd (rd_L3 l0 (rd x8_1 0)) x35_2) < (x7_2.length : Int):=of_decide_eq_true (by assumption)
      obtain ⟨ad308,e308,hx308_0⟩:=Kd.at_bool (Kd.R_reads' HO_7.out).2.2 (rd (rd_L3 l0 (rd x8_1 0)) x35_2) p308 q308
      (try rw [← Nbq29.out] at hx308_0)
      obtain rfl : (⟨go12,0,none⟩ : Addr) = ad308:=(by injection e308)
      (first | simp only [add_plain] at hx308_0 | simp only [add_at] at hx308_0 | simp only [Addr.add,Nat.zero_add] at hx308_0 | skip)
      replace p308:=eq_true p308
      replace q308:=eq_true q308
      go_wp2_with (first | (go_at_call 79;(with_reducible refine (slices_Contains_int_int.calls k2 _ _ l2 (rd (rd_L3 l0 (rd x8_1 0)) x35_2) true _ ?side1 ?side2 A31.out).mono ?_);(case side1 => repeat (first | exact (Kd.C_below HR2.out HB.out) | (with_reducible refine Kd.C_alloc ?_ _) | (with_reducible refine Kd.C_drewN ?_ _) | (with_reducible refine Kd.C_drew ?_)));(case side2 => exact HC2.out);rintro e w' ⟨rfl,⟨nd,rfl⟩⟩))
      (try simp only [← hl7_2])
      go_roundg k2
      case measure => have:=HK1.out;have:=HK2.out;omega
      case rel => exact ⟨(x7_2),(x8_2),(wrap64 (x35_2 + 1)),(by first | rfl | (simp;done) | (simp [*];done)),H',⟨by have:=HK1.out;have:=HK2.out;omega⟩,⟨by (try simp only [hl7_1]);(try simp only [hl7_2]);(with_reducible repeat (first | apply Kd.R_alloc | apply Kd.R_drewN | apply Kd.R_drew));exact HO_7.out⟩,⟨by (try simp only [hl7_1]);(try simp only [hl7_2]);(with_reducible repeat (first | apply Kd.Q_alloc | apply Kd.Q_drewN | apply Kd.Q_drew));exact HO_8.out⟩,⟨by repeat (with_reducible first | exact HB.out | apply below_alloc | apply pw_below_drewN | apply below_drew1)⟩⟩
     replace c32:=Bool.eq_false_iff.mpr c32
     subst c32
     have H1 : (if x8_2.length < 17592186044416 then (impl_reach.l1 k2 l0 l2 (x7_2.set ((rd (rd_L3 l0 (rd x8_1 0)) x35_2) : Int).toNat true) (x8_2 ++ [rd (rd_L3 l0 (rd x8_1 0)) x35_2]) (rd_L3 l0 (rd x8_1 0)) ((rd_L3 l0 (rd x8_1 0)).length : Int) (wrap64 (x35_2 + 1))) else (none)) = some r:=by rw [if_neg (show ¬ (false = true) by decide)] at H;exact H
     clear H
     have H:=H1
     clear H1
     obtain ⟨y310,hy310⟩ : ∃ y_ : List Bool,y_ = (x7_2.set ((rd (rd_L3 l0 (rd x8_1 0)) x35_2) : Int).toNat true):=⟨_,rfl⟩
     replace H : (if x8_2.length < 17592186044416 then (impl_reach.l1 k2 l0 l2 y310 (x8_2 ++ [rd (rd_L3 l0 (rd x8_1 0)) x35_2]) (rd_L3 l0 (rd x8_1 0)) ((rd_L3 l0 (rd x8_1 0)).length : Int) (wrap64 (x35_2 + 1))) else (none)) = some r:=by first | (rw [hy310];with_reducible exact H) | (have H2_:=(Option.bind_some _ _).symm.trans H;rw [hy310];with_reducible exact H2_) | (have H2_:=(Option.bind_some _ _).symm.trans H;with_reducible exact H2_) | with_reducible exact H | (rw [hy310];exact H) | exact H
     have Ny310:=Aside0.mk hy310
     clear hy310
     by_cases c34 : x8_2.length < 17592186044416
     rotate_left
     ·rw [if_neg c34] at H
      exact absurd H (by simp)
     rw [if_pos c34] at H
     have LMc34:=Aside0.mk c34
     clear c34
     obtain ⟨y311,hy311⟩ : ∃ y_ : List Int,y_ = (x8_2 ++ [rd (rd_L3 l0 (rd x8_1 0)) x35_2]):=⟨_,rfl⟩
     replace H : (impl_reach.l1 k2 l0 l2 y310 y311 (rd_L3 l0 (rd x8_1 0)) ((rd_L3 l0 (rd x8_1 0)).length : Int) (wrap64 (x35_2 + 1))) = some r:=by first | (rw [hy311];with_reducible exact H) | (have H2_:=(Option.bind_some _ _).symm.trans H;rw [hy311];with_reducible exact H2_) | (have H2_:=(Option.bind_some _ _).symm.trans H;with_reducible exact H2_) | with_reducible exact H | (rw [hy311];exact H) | exact H
     have Ny311:=Aside0.mk hy311
     clear hy311
     have H':=Aside0.mk H
     clear H
     have p307 : 0 ≤ (x35_2 : Int):=of_decide_eq_true (by assumption)
     have q307 : x35_2 < ((rd_L3 l0 (rd x8_1 0)).length : Int):=of_decide_eq_true (by assumption)
     obtain ⟨ad307,e307,hx307_0⟩:=Kd.at_int HR306_0.out x35_2 p307 q307
     cases e307
     replace hx307_0:=(HB.out.cell (World.block_lt_of_cell? w _ hx307_0)).trans hx307_0
     replace p307:=eq_true p307
     replace q307:=eq_true q307
     have p308 : 0 ≤ ((rd (rd_L3 l0 (rd x8_1 0)) x35_2) : Int):=of_decide_eq_true (by assumption)
     have q308 : (rd (rd_L3 l0 (rd x8_1 0)) x35_2) < (x7_2.length : Int):=of_decide_eq_true (by assumption)
     obtain ⟨ad308,e308,hx308_0⟩:=Kd.at_bool (Kd.R_reads' HO_7.out).2.2 (rd (rd_L3 l0 (rd x8_1 0)) x35_2) p308 q308
     (try rw [← Nbq29.out] at hx308_0)
     obtain rfl : (⟨go12,0,none⟩ : Addr) = ad308:=(by injection e308)
     (first | simp only [add_plain] at hx308_0 | simp only [add_at] at hx308_0 | simp only [Addr.add,Nat.zero_add] at hx308_0 | skip)
     replace p308:=eq_true p308
     replace q308:=eq_true q308
     go_wp2_with (first | (go_at_call 79;(with_reducible refine (slices_Contains_int_int.calls k2 _ _ l2 (rd (rd_L3 l0 (rd x8_1 0)) x35_2) false _ ?side1 ?side2 A31.out).mono ?_);(case side1 => repeat (first | exact (Kd.C_below HR2.out HB.out) | (with_reducible refine Kd.C_alloc ?_ _) | (with_reducible refine Kd.C_drewN ?_ _) | (with_reducible refine Kd.C_drew ?_)));(case side2 => exact HC2.out);rintro e w' ⟨rfl,⟨nd,rfl⟩⟩;(try (rw [drewN_self wr];generalize hq_ : World.drewN wr _ = wr;have n0_ : Aside0 (Kd.R Kd.bool 4 wr w.heap.size (fun _ => True) (.slice (some ⟨go12,0,none⟩) x7_2.length co12) x7_2):=⟨by rw [← hq_];exact (by (with_reducible repeat (first | apply Kd.R_alloc | apply Kd.R_drewN | apply Kd.R_drew));exact HO_7.out)⟩;have n1_ : Aside0 (Kd.Q (Kd.int .i64) 3 wr w.heap.size (fun _ => True) u8 x8_2):=⟨by rw [← hq_];exact (by (with_reducible repeat (first | apply Kd.Q_alloc | apply Kd.Q_drewN | apply Kd.Q_drew));exact HO_8.out)⟩;have n2_ : Aside0 (Below w.heap.size w wr):=⟨by rw [← hq_];exact (by repeat (with_reducible first | exact HB.out | apply below_alloc | apply pw_below_drewN | apply below_drew1))⟩;clear HO_7 HO_8 HB hq_;have HO_7:=n0_;have HO_8:=n1_;have HB:=n2_;clear n0_ n1_ n2_));have p33 : 0 ≤ ((rd (rd_L3 l0 (rd x8_1 0)) x35_2) : Int):=of_decide_eq_true (by assumption);have q33 : ((rd (rd_L3 l0 (rd x8_1 0)) x35_2) : Int) < ((x7_2.length : Int) : Int):=of_decide_eq_true (by assumption);obtain ⟨hx33_0,hf33_0⟩:=Kd.R_celln false HO_7.out ((rd (rd_L3 l0 (rd x8_1 0)) x35_2) : Int) p33 q33;replace p33:=eq_true p33;replace q33:=eq_true q33;obtain ⟨hy35_,hz35_⟩:=Kd.R_celln false HO_7.out ((rd (rd_L3 l0 (rd x8_1 0)) x35_2) : Int) (of_decide_eq_true (by assumption)) (of_decide_eq_true (by assumption));have HP35:=Kd.R_putg HO_7.out ((rd (rd_L3 l0 (rd x8_1 0)) x35_2) : Int) true) | ((with_reducible refine gate_store (t:=4) (p:=52) rfl ?_);refine store_event (t:=4) (p:=52) (v:=?vo_w36) (w1:=(wr.setCell ⟨go12,((rd (rd_L3 l0 (rd x8_1 0)) x35_2) : Int).toNat,none⟩ (.bool true))) ?hg ?ho ?hn ?hr ?_;(case ho => rfl);(case hg => rfl);(case hn => rfl);(case hr => first | (go_simp;done) | (go_simp;rfl));intro w36 hw;have hg : wr.grownBy w36 (some go12):=(by rw [hw];exact HP35.2);have hp_ : Kd.R Kd.bool 4 w36 w.heap.size (fun _ => True) (.slice (some ⟨go12,0,none⟩) x7_2.length co12) y310:=(by rw [hw,Ny310.out];exact HP35.1);clear HP35;have n0_:=Aside0.mk (hp_);have n1_:=Aside0.mk (Kd.Q_over' (v:=(.slice (some ⟨go12,0,none⟩) x7_2.length co12)) (by (with_reducible repeat (first | apply Kd.Q_alloc | apply Kd.Q_drewN | apply Kd.Q_drew));exact HO_8.out) (Kd.R_typed HO_7.out) (by decide) hg);have n2_:=Aside0.mk ((by rw [hw];exact below_set (HB.out) GB12.out : Below w.heap.size w w36));clear HO_7;clear HO_8;clear HB;have HO_7:=n0_;have HO_8:=n1_;have HB:=n2_;clear n0_ n1_ n2_;clear hg hw hp_) | ((with_reducible refine gate_builtin (b:=.append) (xs:=#[.tmp 53,.tmp 55]) rfl ?_);at_builtin;refine Kd.Q_append (Kd.int .i64) (w0:=w) w.heap.size rfl (.tmp 53) (.tmp 55) 37 3 (.int .i64 0) 8 rfl Try.underlying37 info3 rfl (by decide) (by omega) u8 x8_2 (rd (rd_L3 l0 (rd x8_1 0)) x35_2) [.int .i64 (rd (rd_L3 l0 (rd x8_1 0)) x35_2)] (fun _ => True) (fun _ => False) rfl rfl ?aP (fun _ hk => hk.elim) ?aF ?aO ?aB ?aS ?aL ?_;(case aP => exact rfl);(case aB => exact (by repeat (with_reducible first | exact HB.out | apply below_alloc | apply pw_below_drewN | apply below_drew1)));(case aF => exact (fun _ _ => trivial));(case aO => exact (by (with_reducible repeat (first | apply Kd.Q_alloc | apply Kd.Q_drewN | apply Kd.Q_drew));exact HO_8.out));(case aS => exact (below_size (by repeat (with_reducible first | exact HB.out | apply below_alloc | apply pw_below_drewN | apply below_drew1))));(case aL => have:=LMc34.out;omega);intro v312 w37 ho hb hg hat;rw [← Ny311.out] at ho;have n0_:=Aside0.mk (Kd.R_over' (by (with_reducible repeat (first | apply Kd.R_alloc | apply Kd.R_drewN | apply Kd.R_drew));exact HO_7.out) (Kd.Q_typed (by (with_reducible repeat (first | apply Kd.Q_alloc | apply Kd.Q_drewN | apply Kd.Q_drew));exact HO_8.out)) (by decide) hg);have n1_:=Aside0.mk (hb);have n2_:=Aside0.mk (ho);clear HO_7;clear HB;clear HO_8;have HO_7:=n0_;have HB:=n1_;have HO313:=n2_;clear n0_ n1_ n2_;clear ho hb hg hat))
     (try simp only [← hl7_2])
     go_roundg k2
     case measure => have:=HK1.out;have:=HK2.out;omega
     case rel => exact ⟨(y310),(y311),(wrap64 (x35_2 + 1)),(by first | rfl | (simp;done) | (simp [*];done)),H',⟨by have:=HK1.out;have:=HK2.out;omega⟩,⟨by (try simp only [hl7_1]);(try simp only [hl7_2]);(with_reducible repeat (first | apply Kd.R_alloc | apply Kd.R_drewN | apply Kd.R_drew));exact HO_7.out⟩,⟨by (try simp only [hl7_1]);(try simp only [hl7_2]);(with_reducible repeat (first | apply Kd.Q_alloc | apply Kd.Q_drewN | apply Kd.Q_drew));exact HO313.out⟩,⟨by repeat (with_reducible first | exact HB.out | apply below_alloc | apply pw_below_drewN | apply below_drew1)⟩⟩

end Go.Proofs.Ythgkhfhfahifmaa.Q
