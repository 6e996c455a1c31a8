-- WRITTEN BY A PROGRAM OF THIS SESSION
import Derived.Test.YthgkhfhfahifmaaQ0
namespace Go.Proofs.Ythgkhfhfahifmaa.Q
open Go.RowKit Go.Proofs.YthgkhfhfahifmaaW.PrintWords Go.Proofs.YthgkhfhfahifmaaW.PrintLast Go.Proofs.YthgkhfhfahifmaaW.PrintMore
attribute [local go_sem] max2_int min2_int max_two min_two max_three min_three max_four min_four   -- for this text's walks alone
set_option linter.unusedVariables false
set_option linter.unusedSimpArgs false

/-! ### spec_l1Put: function 74 -/
def spec_l1Put.l0 : Nat → List Int → Int → Int → Option (List Int)
 | 0,_,_,_ => none
 | k + 1,x0,x1,x5 => if x5 < (x0.length : Int) then (if 0 ≤ x5 then (if (rd x0 x5) < x1 then (spec_l1Put.l0 k x0 x1 (wrap64 (x5 + 1))) else (if (rd x0 x5) = x1 then (some x0) else (if x5 ≤ (x0.length : Int) then ((some (x0.take (x5 : Int).toNat : List Int)).bind fun y209 => (if ([] : List Int).length + y209.length < 17592186044416 then ((some (([] : List Int) ++ y209 : List Int)).bind fun y213 => (if y213.length < 17592186044416 then ((some (y213 ++ [x1] : List Int)).bind fun y216 => ((some (x0.drop (x5 : Int).toNat : List Int)).bind fun y219 => (if y216.length + y219.length < 17592186044416 then (some (y216 ++ y219)) else (none)))) else (none))) else (none))) else (none)))) else (none)) else (if 0 ≤ x5 then (if x5 ≤ (x0.length : Int) then ((some (x0.take (x5 : Int).toNat : List Int)).bind fun y226 => (if ([] : List Int).length + y226.length < 17592186044416 then ((some (([] : List Int) ++ y226 : List Int)).bind fun y230 => (if y230.length < 17592186044416 then ((some (y230 ++ [x1] : List Int)).bind fun y233 => ((some (x0.drop (x5 : Int).toNat : List Int)).bind fun y236 => (if y233.length + y236.length < 17592186044416 then (some (y233 ++ y236)) else (none)))) else (none))) else (none))) else (none)) else (none))
def spec_l1Put.f (k : Nat) (l0 : List Int) (a1 : Int) : Option (List Int):=spec_l1Put.l0 k l0 a1 0
theorem spec_l1Put.mono_l : ∀ k,(∀ y0 y1 y2,LeO (spec_l1Put.l0 k y0 y1 y2) (spec_l1Put.l0 (k + 1) y0 y1 y2))
 | 0 => fun _ _ _ r h => by simp [spec_l1Put.l0] at h
 | k + 1 => by
  have ih0:=spec_l1Put.mono_l k
  ·intro y0 y1 y2
   unfold spec_l1Put.l0
   repeat' first
   | (with_reducible exact ih0 _ _ _)
   | (with_reducible exact LeO.refl _)
   | (with_reducible exact LeO.none _)
   | (with_reducible refine LeO.ite ?_ ?_)
   | (with_reducible refine LeO.bind ?_ (fun _ => ?_))
theorem spec_l1Put.mono : ∀ a0 a1 k,LeO (spec_l1Put.f k a0 a1) (spec_l1Put.f (k + 1) a0 a1):=by
 intro a0 a1 k
 have ih0:=spec_l1Put.mono_l k
 unfold spec_l1Put.f
 repeat' first
   | (with_reducible exact ih0 _ _ _)
   | (with_reducible exact LeO.refl _)
   | (with_reducible exact LeO.none _)
   | (with_reducible refine LeO.ite ?_ ?_)
   | (with_reducible refine LeO.bind ?_ (fun _ => ?_))
set_option maxHeartbeats 8000000 in
set_option maxRecDepth 100000 in
theorem spec_l1Put.calls (k : Nat) (P0_ : Nat → Prop) (u9000_ : Value) (l0 : List Int) (a1 : Int) (r : List Int) (w0 w : World) (hB : Below w0.heap.size w0 w) (ho0 : Kd.R (Kd.int .i64) 3 w w0.heap.size P0_ u9000_ l0) (h : spec_l1Put.f k l0 a1 = some r) :
  Calls Try.prog 74 #[u9000_,.int .i64 a1] w fun e w' => ∃ v0_ : Value,e = .returned (v0_) ∧ Kd.R (Kd.int .i64) 3 w' w0.heap.size (fun k_ => (P0_ k_ ∨ w.heap.size ≤ k_)) v0_ r ∧ Below w0.heap.size w0 w' ∧ Kept w w' (fun k_ => P0_ k_):=by
 have HO0:=Aside0.mk (show Kd.R (Kd.int .i64) 3 w w0.heap.size (fun k_ => (P0_ k_ ∨ w.heap.size ≤ k_)) u9000_ l0 from Kd.R_mono ho0 (fun k_ hk => (.inl hk)))
 have HK:=Aside0.mk (Kept.refl w (fun k_ => P0_ k_))
 have HW0:=Aside0.mk hB.size
 have HB:=Aside0.mk hB
 clear hB
 have H : (spec_l1Put.l0 k l0 a1 0) = some r:=h
 clear h
 have H':=Aside0.mk H
 clear H
 go_enter Try.func74,Try.ntmps74
 go_wp2
 go_loopg [5] k (fun kq v5 w' => ∃ (x5_1 : Int),v5 = .int .i64 x5_1 ∧ Aside0 (spec_l1Put.l0 kq l0 a1 x5_1 = some r) ∧ Aside0 (kq ≤ k) ∧ Aside0 (Kd.R (Kd.int .i64) 3 w' w0.heap.size (fun k_ => (P0_ k_ ∨ w.heap.size ≤ k_)) u9000_ l0) ∧ Aside0 (Kept w w' (fun k_ => P0_ k_)) ∧ Aside0 (Below w0.heap.size w0 w'))
 case atStart => exact ⟨(0),(by first | rfl | (simp;done) | (simp [*];done)),H',⟨Nat.le_refl _⟩,⟨by (with_reducible repeat (first | apply Kd.R_alloc | apply Kd.R_drewN | apply Kd.R_drew));exact HO0.out⟩,⟨by repeat (first | (with_reducible first | exact HK.out | apply Kept.alloc | apply Kept.drewN | apply Kept.drew) | exact HK.out)⟩,⟨by repeat (with_reducible first | exact HB.out | apply below_alloc | apply pw_below_drewN | apply below_drew1)⟩⟩
 case round =>
  clear H'
  try clear p2
  obtain ⟨x5_1,rfl,HA,HK1,HO_0,HK,HB⟩:=hrel
  cases gk with
  | zero => exact absurd HA.out (by simp [spec_l1Put.l0])
  | succ k1 =>
   have H:=HA.out
   clear HA
   simp only [spec_l1Put.l0] at H
   by_cases c3 : x5_1 < (l0.length : Int)
   rotate_left
   ·rw [if_neg c3] at H
    have c3b0 : decide (x5_1 < (l0.length : Int)) = false:=decide_eq_false c3
    clear c3
    by_cases c22 : 0 ≤ x5_1
    rotate_left
    ·rw [if_neg c22] at H
     exact absurd H (by simp)
    rw [if_pos c22] at H
    have c22b0:=eq_true c22
    have c22b1 : decide (0 ≤ x5_1) = true:=decide_eq_true c22
    clear c22
    by_cases c23 : x5_1 ≤ (l0.length : Int)
    rotate_left
    ·rw [if_neg c23] at H
     exact absurd H (by simp)
    rw [if_pos c23] at H
    have c23b0:=eq_true c23
    have c23b1 : decide (x5_1 ≤ (l0.length : Int)) = true:=decide_eq_true c23
    clear c23
    obtain ⟨y226,hy226⟩ : ∃ y_ : List Int,y_ = (l0.take (x5_1 : Int).toNat):=⟨_,rfl⟩
    replace H : (if ([] : List Int).length + y226.length < 17592186044416 then ((some (([] : List Int) ++ y226 : List Int)).bind fun y230 => (if y230.length < 17592186044416 then ((some (y230 ++ [a1] : List Int)).bind fun y233 => ((some (l0.drop (x5_1 : Int).toNat : List Int)).bind fun y236 => (if y233.length + y236.length < 17592186044416 then (some (y233 ++ y236)) else (none)))) else (none))) else (none)) = some r:=by first | (rw [hy226];with_reducible exact H) | (have H2_:=(Option.bind_some _ _).symm.trans H;rw [hy226];with_reducible exact H2_) | (have H2_:=(Option.bind_some _ _).symm.trans H;with_reducible exact H2_) | with_reducible exact H | (rw [hy226];exact H) | exact H
    have Ny226:=Aside0.mk hy226
    clear hy226
    by_cases c24 : ([] : List Int).length + y226.length < 17592186044416
    rotate_left
    ·rw [if_neg c24] at H
     exact absurd H (by simp)
    rw [if_pos c24] at H
    have LMc24:=Aside0.mk c24
    clear c24
    obtain ⟨y230,hy230⟩ : ∃ y_ : List Int,y_ = (([] : List Int) ++ y226):=⟨_,rfl⟩
    replace H : (if y230.length < 17592186044416 then ((some (y230 ++ [a1] : List Int)).bind fun y233 => ((some (l0.drop (x5_1 : Int).toNat : List Int)).bind fun y236 => (if y233.length + y236.length < 17592186044416 then (some (y233 ++ y236)) else (none)))) else (none)) = some r:=by first | (rw [hy230];with_reducible exact H) | (have H2_:=(Option.bind_some _ _).symm.trans H;rw [hy230];with_reducible exact H2_) | (have H2_:=(Option.bind_some _ _).symm.trans H;with_reducible exact H2_) | with_reducible exact H | (rw [hy230];exact H) | exact H
    have Ny230:=Aside0.mk hy230
    clear hy230
    by_cases c25 : y230.length < 17592186044416
    rotate_left
    ·rw [if_neg c25] at H
     exact absurd H (by simp)
    rw [if_pos c25] at H
    have LMc25:=Aside0.mk c25
    clear c25
    obtain ⟨y233,hy233⟩ : ∃ y_ : List Int,y_ = (y230 ++ [a1]):=⟨_,rfl⟩
    replace H : ((some (l0.drop (x5_1 : Int).toNat : List Int)).bind fun y236 => (if y233.length + y236.length < 17592186044416 then (some (y233 ++ y236)) else (none))) = some r:=by first | (rw [hy233];with_reducible exact H) | (have H2_:=(Option.bind_some _ _).symm.trans H;rw [hy233];with_reducible exact H2_) | (have H2_:=(Option.bind_some _ _).symm.trans H;with_reducible exact H2_) | with_reducible exact H | (rw [hy233];exact H) | exact H
    have Ny233:=Aside0.mk hy233
    clear hy233
    have c26b0:=eq_true (of_decide_eq_true (by assumption) : 0 ≤ x5_1)
    have c27b0:=eq_true (of_decide_eq_true (by assumption) : x5_1 ≤ (l0.length : Int))
    obtain ⟨y236,hy236⟩ : ∃ y_ : List Int,y_ = (l0.drop (x5_1 : Int).toNat):=⟨_,rfl⟩
    replace H : (if y233.length + y236.length < 17592186044416 then (some (y233 ++ y236)) else (none)) = some r:=by first | (rw [hy236];with_reducible exact H) | (have H2_:=(Option.bind_some _ _).symm.trans H;rw [hy236];with_reducible exact H2_) | (have H2_:=(Option.bind_some _ _).symm.trans H;with_reducible exact H2_) | with_reducible exact H | (rw [hy236];exact H) | exact H
    have Ny236:=Aside0.mk hy236
    clear hy236
    by_cases c28 : y233.length + y236.length < 17592186044416
    rotate_left
    ·rw [if_neg c28] at H
     exact absurd H (by simp)
    rw [if_pos c28] at H
    have LMc28:=Aside0.mk c28
    clear c28
    obtain ⟨y240,hy240⟩ : ∃ y_ : List Int,y_ = (y233 ++ y236):=⟨_,rfl⟩
    replace H : (some y240) = some r:=by first | (rw [hy240];with_reducible exact H) | (have H2_:=(Option.bind_some _ _).symm.trans H;rw [hy240];with_reducible exact H2_) | (have H2_:=(Option.bind_some _ _).symm.trans H;with_reducible exact H2_) | with_reducible exact H | (rw [hy240];exact H) | exact H
    have Ny240:=Aside0.mk hy240
    clear hy240
    obtain rfl:=Option.some.inj H
    obtain ⟨Ao29,co29,eo29⟩:=Kd.R_slice HO_0.out
    subst eo29
    have q30 : (x5_1 : Int) ≤ ((l0.length : Int) : Int):=of_decide_eq_true (by assumption)
    obtain ⟨i030,hi030,_,hsz30,_⟩:=info_parts info3
    have hroom30 : l0.length ≤ co29:=(Kd.R_reads' HO_0.out).2.1
    have hC30 : Kd.C (Kd.int .i64) _ Ao29 l0.length l0:=(Kd.R_reads' HO_0.out).2.2
    have hcut30:=cut_to (P:=Try.prog) 37 3 .i64 Try.underlying37 hi030 Ao29 l0.length co29 x5_1 (of_decide_eq_true (by assumption)) q30 hroom30
    have hr30:=Kd.C_take (m:=(x5_1 : Int).toNat) hC30 (by omega)
    have hy30 : y226.length = (x5_1 : Int).toNat:=(by rw [Ny226.out,List.length_take];omega)
    rw [← Ny226.out] at hr30
    rw [← hy30] at hcut30
    have HR229:=Aside0.mk hr30
    have HC229:=Aside0.mk (show y226.length ≤ co29 from by omega)
    clear hr30 hC30 hroom30 hi030 hsz30
    have KY30:=Aside0.mk hy30
    clear hy30
    have KL30:=Aside0.mk (show (x5_1 : Int).toNat ≤ l0.length from by omega)
    replace q30:=eq_true q30
    go_wp2_with (first | ((with_reducible refine gate_builtin (b:=.append) (xs:=#[.tmp 34,.tmp 37]) rfl ?_);at_builtin;refine Kd.R_append_rows (Kd.int .i64) (w0:=w0) w0.heap.size rfl (.tmp 34) (.tmp 37) 37 3 (.int .i64 0) 8 rfl Try.underlying37 info3 rfl (by decide) (by omega) (.slice none 0 0) ([] : List Int) y226 _ _ _ (fun k_ => (P0_ k_ ∨ w.heap.size ≤ k_) ∧ some k_ ≠ (.slice Ao29 l0.length co29 : Value).ownBlock) (fun _ => False) rfl rfl ?aO ?aR (fun _ _ h => h) (fun _ h => h.elim) ?aF ?aB ?aS ?aL ?_;(case aR => repeat (first | exact (by repeat (first | (with_reducible exact HR229.out) | (with_reducible refine Kd.C_alloc ?_ _) | (with_reducible refine Kd.C_drewN ?_ _) | (with_reducible refine Kd.C_drew ?_) | exact HR229.out)) | (with_reducible refine Kd.C_alloc ?_ _) | (with_reducible refine Kd.C_drewN ?_ _) | (with_reducible refine Kd.C_drew ?_)));(case aB => exact (by repeat (with_reducible first | exact HB.out | apply below_alloc | apply pw_below_drewN | apply below_drew1)));(case aF => exact (fun k_ hk => ⟨(.inr (Nat.le_trans (by first | exact HK.out.1 | exact (show Kept w _ (fun k_ => P0_ k_) from by repeat (first | (with_reducible first | exact HK.out | apply Kept.alloc | apply Kept.drewN | apply Kept.drew) | exact HK.out)).1) hk)),Kd.fresh' (Kd.R_lt (by (with_reducible repeat (first | apply Kd.R_alloc | apply Kd.R_drewN | apply Kd.R_drew));exact HO_0.out)) k_ hk⟩));(case aO => exact ((Kd.R_nil _ _ _ _ (fun k_ => (P0_ k_ ∨ w.heap.size ≤ k_) ∧ some k_ ≠ (.slice Ao29 l0.length co29 : Value).ownBlock))));(case aS => exact (below_size (by repeat (with_reducible first | exact HB.out | apply below_alloc | apply pw_below_drewN | apply below_drew1))));(case aL => have:=LMc24.out;omega);intro v231 w31 ho hb hg hat;rw [← Ny230.out] at ho;have n0_:=Aside0.mk (Kd.R_after (Kd.R_apart_nil (by (with_reducible repeat (first | apply Kd.R_alloc | apply Kd.R_drewN | apply Kd.R_drew));exact HO_0.out)) hg hat);have n1_:=Aside0.mk (hb);have n2_:=Aside0.mk (Kept.of_grown (S:=(fun k_ => P0_ k_)) hg (by repeat (first | (with_reducible first | exact HK.out | apply Kept.alloc | apply Kept.drewN | apply Kept.drew) | exact HK.out)) (fun k_ e_ => by simp [Value.ownBlock] at e_));have n3_:=Aside0.mk ((show Kd.C (Kd.int .i64) w31 Ao29 y226.length y226 from by rw [Ny226.out];exact Kd.C_take (m:=(x5_1 : Int).toNat) ((Kd.R_reads' (Kd.R_after (Kd.R_apart_nil (by (with_reducible repeat (first | apply Kd.R_alloc | apply Kd.R_drewN | apply Kd.R_drew));exact HO_0.out)) hg hat)).2.2) KL30.out));have n4_:=Aside0.mk (ho);clear HO_0;clear HB;clear HK;clear HR229;have HO_0:=n0_;have HB:=n1_;have HK:=n2_;have HR229:=n3_;have HO232:=n4_;clear n0_ n1_ n2_ n3_ n4_;clear ho hb hg hat) | ((with_reducible refine gate_builtin (b:=.append) (xs:=#[.tmp 39,.tmp 41]) rfl ?_);at_builtin;refine Kd.R_append (Kd.int .i64) (w0:=w0) w0.heap.size rfl (.tmp 39) (.tmp 41) 37 3 (.int .i64 0) 8 rfl Try.underlying37 info3 rfl (by decide) (by omega) v231 y230 a1 [.int .i64 a1] (fun k_ => (P0_ k_ ∨ w.heap.size ≤ k_) ∧ some k_ ≠ (.slice Ao29 l0.length co29 : Value).ownBlock) (fun _ => False) rfl rfl ?aP (fun _ hk => hk.elim) ?aF ?aO ?aB ?aS ?aL ?_;(case aP => exact rfl);(case aB => exact (by repeat (with_reducible first | exact HB.out | apply below_alloc | apply pw_below_drewN | apply below_drew1)));(case aF => exact (fun k_ hk => ⟨(.inr (Nat.le_trans (by first | exact HK.out.1 | exact (show Kept w _ (fun k_ => P0_ k_) from by repeat (first | (with_reducible first | exact HK.out | apply Kept.alloc | apply Kept.drewN | apply Kept.drew) | exact HK.out)).1) hk)),Kd.fresh' (Kd.R_lt (by (with_reducible repeat (first | apply Kd.R_alloc | apply Kd.R_drewN | apply Kd.R_drew));exact HO_0.out)) k_ hk⟩));(case aO => exact (by (with_reducible repeat (first | apply Kd.R_alloc | apply Kd.R_drewN | apply Kd.R_drew));exact HO232.out));(case aS => exact (below_size (by repeat (with_reducible first | exact HB.out | apply below_alloc | apply pw_below_drewN | apply below_drew1))));(case aL => have:=LMc25.out;omega);intro v234 w32 ho hb hg hat;rw [← Ny233.out] at ho;have n0_:=Aside0.mk (Kd.R_after (ok:=(fun k_ => (P0_ k_ ∨ w.heap.size ≤ k_))) (by (with_reducible repeat (first | apply Kd.R_alloc | apply Kd.R_drewN | apply Kd.R_drew));exact HO_0.out) hg hat);have n1_:=Aside0.mk (hb);have n2_:=Aside0.mk (Kept.of_grown (S:=(fun k_ => P0_ k_)) hg (by repeat (first | (with_reducible first | exact HK.out | apply Kept.alloc | apply Kept.drewN | apply Kept.drew) | exact HK.out)) (fun k_ e_ => (HO232.out.1 k_ e_).1));have n3_:=Aside0.mk ((show Kd.C (Kd.int .i64) w32 Ao29 y226.length y226 from by rw [Ny226.out];exact Kd.C_take (m:=(x5_1 : Int).toNat) ((Kd.R_reads' (Kd.R_after (ok:=(fun k_ => (P0_ k_ ∨ w.heap.size ≤ k_))) (by (with_reducible repeat (first | apply Kd.R_alloc | apply Kd.R_drewN | apply Kd.R_drew));exact HO_0.out) hg hat)).2.2) KL30.out));have n4_:=Aside0.mk (ho);clear HO_0;clear HB;clear HK;clear HR229;clear HO232;have HO_0:=n0_;have HB:=n1_;have HK:=n2_;have HR229:=n3_;have HO235:=n4_;clear n0_ n1_ n2_ n3_ n4_;clear ho hb hg hat;have q33 : (x5_1 : Int) ≤ ((l0.length : Int) : Int):=of_decide_eq_true (by assumption);obtain ⟨i033,hi033,_,hsz33,_⟩:=info_parts info3;have hroom33 : l0.length ≤ co29:=(Kd.R_reads' HO_0.out).2.1;have hC33 : Kd.C (Kd.int .i64) _ Ao29 l0.length l0:=(Kd.R_reads' HO_0.out).2.2;have q033 : (0 : Int) ≤ (x5_1 : Int):=of_decide_eq_true (by assumption);have hcut33:=cut_from (P:=Try.prog) 37 3 .i64 Try.underlying37 hi033 1 hsz33 Ao29 l0.length co29 x5_1 q033 q33;have hr33:=Kd.C_drop (m:=(x5_1 : Int).toNat) (c:=co29) hC33 (by omega) hroom33;obtain ⟨A33,hA33⟩ : ∃ A1,A1 = (if co29 = (x5_1 : Int).toNat then Ao29 else (Ao29 : Option Addr).map (·.add ((x5_1 : Int).toNat * 1))):=⟨_,rfl⟩;obtain ⟨c33,hc33⟩ : ∃ c1,c1 = co29 - (x5_1 : Int).toNat:=⟨_,rfl⟩;have hy33 : y236.length = l0.length - (x5_1 : Int).toNat:=(by rw [Ny236.out,List.length_drop] <;> omega);rw [show (l0).drop (x5_1 : Int).toNat = y236 from Ny236.out.symm] at hr33;replace hr33 : Kd.C (Kd.int .i64) _ A33 y236.length y236:=(by rw [hA33];exact hr33);rw [← hy33,← hA33,← hc33] at hcut33;have HR239:=Aside0.mk hr33;have HC239:=Aside0.mk (show y236.length ≤ c33 from by rw [hy33,hc33];exact Nat.sub_le_sub_right hroom33 _);clear hr33 hC33 hroom33 hi033 hsz33 hc33;have KY33:=Aside0.mk hy33;have KA33:=Aside0.mk hA33;clear hy33 hA33;have KL33:=Aside0.mk (show (x5_1 : Int).toNat ≤ l0.length from by omega);replace q33:=eq_true q33) | ((with_reducible refine gate_builtin (b:=.append) (xs:=#[.tmp 43,.tmp 46]) rfl ?_);at_builtin;refine Kd.R_append_rows (Kd.int .i64) (w0:=w0) w0.heap.size rfl (.tmp 43) (.tmp 46) 37 3 (.int .i64 0) 8 rfl Try.underlying37 info3 rfl (by decide) (by omega) v234 y233 y236 _ _ _ (fun k_ => (P0_ k_ ∨ w.heap.size ≤ k_) ∧ some k_ ≠ (.slice Ao29 l0.length co29 : Value).ownBlock) (fun _ => False) rfl rfl ?aO ?aR (fun _ _ h => h) (fun _ h => h.elim) ?aF ?aB ?aS ?aL ?_;(case aR => repeat (first | exact (by repeat (first | (with_reducible exact HR239.out) | (with_reducible refine Kd.C_alloc ?_ _) | (with_reducible refine Kd.C_drewN ?_ _) | (with_reducible refine Kd.C_drew ?_) | exact HR239.out)) | (with_reducible refine Kd.C_alloc ?_ _) | (with_reducible refine Kd.C_drewN ?_ _) | (with_reducible refine Kd.C_drew ?_)));(case aB => exact (by repeat (with_reducible first | exact HB.out | apply below_alloc | apply pw_below_drewN | apply below_drew1)));(case aF => exact (fun k_ hk => ⟨(.inr (Nat.le_trans (by first | exact HK.out.1 | exact (show Kept w _ (fun k_ => P0_ k_) from by repeat (first | (with_reducible first | exact HK.out | apply Kept.alloc | apply Kept.drewN | apply Kept.drew) | exact HK.out)).1) hk)),Kd.fresh' (Kd.R_lt (by (with_reducible repeat (first | apply Kd.R_alloc | apply Kd.R_drewN | apply Kd.R_drew));exact HO_0.out)) k_ hk⟩));(case aO => exact (by (with_reducible repeat (first | apply Kd.R_alloc | apply Kd.R_drewN | apply Kd.R_drew));exact HO235.out));(case aS => exact (below_size (by repeat (with_reducible first | exact HB.out | apply below_alloc | apply pw_below_drewN | apply below_drew1))));(case aL => have:=LMc28.out;omega);intro v241 w34 ho hb hg hat;rw [← Ny240.out] at ho;have n0_:=Aside0.mk (Kd.R_after (ok:=(fun k_ => (P0_ k_ ∨ w.heap.size ≤ k_))) (by (with_reducible repeat (first | apply Kd.R_alloc | apply Kd.R_drewN | apply Kd.R_drew));exact HO_0.out) hg hat);have n1_:=Aside0.mk (hb);have n2_:=Aside0.mk (Kept.of_grown (S:=(fun k_ => P0_ k_)) hg (by repeat (first | (with_reducible first | exact HK.out | apply Kept.alloc | apply Kept.drewN | apply Kept.drew) | exact HK.out)) (fun k_ e_ => (HO235.out.1 k_ e_).1));have n3_:=Aside0.mk ((show Kd.C (Kd.int .i64) w34 Ao29 y226.length y226 from by rw [Ny226.out];exact Kd.C_take (m:=(x5_1 : Int).toNat) ((Kd.R_reads' (Kd.R_after (ok:=(fun k_ => (P0_ k_ ∨ w.heap.size ≤ k_))) (by (with_reducible repeat (first | apply Kd.R_alloc | apply Kd.R_drewN | apply Kd.R_drew));exact HO_0.out) hg hat)).2.2) KL30.out));have n4_:=Aside0.mk ((show Kd.C (Kd.int .i64) w34 A33 y236.length y236 from by rw [Ny236.out,KA33.out];exact Kd.C_drop (m:=(x5_1 : Int).toNat) (c:=co29) ((Kd.R_reads' (Kd.R_after (ok:=(fun k_ => (P0_ k_ ∨ w.heap.size ≤ k_))) (by (with_reducible repeat (first | apply Kd.R_alloc | apply Kd.R_drewN | apply Kd.R_drew));exact HO_0.out) hg hat)).2.2) KL33.out ((Kd.R_reads' (Kd.R_after (ok:=(fun k_ => (P0_ k_ ∨ w.heap.size ≤ k_))) (by (with_reducible repeat (first | apply Kd.R_alloc | apply Kd.R_drewN | apply Kd.R_drew));exact HO_0.out) hg hat)).2.1)));have n5_:=Aside0.mk (ho);clear HO_0;clear HB;clear HK;clear HR229;clear HR239;clear HO235;have HO_0:=n0_;have HB:=n1_;have HK:=n2_;have HR229:=n3_;have HR239:=n4_;have HO242:=n5_;clear n0_ n1_ n2_ n3_ n4_ n5_;clear ho hb hg hat))
    go_ret
    exact ⟨_,by first | rfl | (simp [*,errW_none,errW_some] <;> rfl),by (with_reducible repeat (first | apply Kd.R_alloc | apply Kd.R_drewN | apply Kd.R_drew));exact Kd.R_mono HO242.out (fun _ hk => hk.1),by repeat (with_reducible first | exact HB.out | apply below_alloc | apply pw_below_drewN | apply below_drew1),by repeat (first | (with_reducible first | exact HK.out | apply Kept.alloc | apply Kept.drewN | apply Kept.drew) | exact HK.out)⟩
   rw [if_pos c3] at H
   have c3b0 : decide (x5_1 < (l0.length : Int)) = true:=decide_eq_true c3
   clear c3
   by_cases c4 : 0 ≤ x5_1
   rotate_left
   ·rw [if_neg c4] at H
    exact absurd H (by simp)
   rw [if_pos c4] at H
   have c4b0 : decide (0 ≤ x5_1) = true:=decide_eq_true c4
   clear c4
   by_cases c5 : (rd l0 x5_1) < a1
   ·rw [if_pos c5] at H
    have c5b0 : decide ((rd l0 x5_1) < a1) = true:=decide_eq_true c5
    clear c5
    have H':=Aside0.mk H
    clear H
    obtain ⟨Ao6,co6,eo6⟩:=Kd.R_slice HO_0.out
    subst eo6
    have p207 : 0 ≤ (x5_1 : Int):=of_decide_eq_true (by assumption)
    have q207 : x5_1 < (l0.length : Int):=of_decide_eq_true (by assumption)
    obtain ⟨ad207,e207,hx207_0⟩:=Kd.at_int (Kd.R_reads' HO_0.out).2.2 x5_1 p207 q207
    cases e207
    replace p207:=eq_true p207
    replace q207:=eq_true q207
    go_wp2
    go_roundg k1
    case measure => have:=HK1.out;omega
    case rel => exact ⟨(wrap64 (x5_1 + 1)),(by first | rfl | (simp;done) | (simp [*];done)),H',⟨by have:=HK1.out;omega⟩,⟨by (with_reducible repeat (first | apply Kd.R_alloc | apply Kd.R_drewN | apply Kd.R_drew));exact HO_0.out⟩,⟨by repeat (first | (with_reducible first | exact HK.out | apply Kept.alloc | apply Kept.drewN | apply Kept.drew) | exact HK.out)⟩,⟨by repeat (with_reducible first | exact HB.out | apply below_alloc | apply pw_below_drewN | apply below_drew1)⟩⟩
   rw [if_neg c5] at H
   have c5b0 : decide ((rd l0 x5_1) < a1) = false:=decide_eq_false c5
   clear c5
   by_cases c7 : (rd l0 x5_1) = a1
   ·rw [if_pos c7] at H
    have c7b0 : ((rd l0 x5_1) == a1) = true:=beq_iff_eq.mpr c7
    have c7b1 : ((rd l0 x5_1) != a1) = false:=bne_eq_false_iff_eq.mpr c7
    clear c7
    obtain rfl:=Option.some.inj H
    obtain ⟨Ao8,co8,eo8⟩:=Kd.R_slice HO_0.out
    subst eo8
    have p207 : 0 ≤ (x5_1 : Int):=of_decide_eq_true (by assumption)
    have q207 : x5_1 < (l0.length : Int):=of_decide_eq_true (by assumption)
    obtain ⟨ad207,e207,hx207_0⟩:=Kd.at_int (Kd.R_reads' HO_0.out).2.2 x5_1 p207 q207
    cases e207
    replace p207:=eq_true p207
    replace q207:=eq_true q207
    have p208 : 0 ≤ (x5_1 : Int):=of_decide_eq_true (by assumption)
    have q208 : x5_1 < (l0.length : Int):=of_decide_eq_true (by assumption)
    obtain ⟨ad208,e208,hx208_0⟩:=Kd.at_int (Kd.R_reads' HO_0.out).2.2 x5_1 p208 q208
    obtain rfl : ad207 = ad208:=(by injection e208)
    replace p208:=eq_true p208
    replace q208:=eq_true q208
    go_wp2
    go_ret
    exact ⟨_,by first | rfl | (simp [*,errW_none,errW_some] <;> rfl),by (with_reducible repeat (first | apply Kd.R_alloc | apply Kd.R_drewN | apply Kd.R_drew));exact HO_0.out,by repeat (with_reducible first | exact HB.out | apply below_alloc | apply pw_below_drewN | apply below_drew1),by repeat (first | (with_reducible first | exact HK.out | apply Kept.alloc | apply Kept.drewN | apply Kept.drew) | exact HK.out)⟩
   rw [if_neg c7] at H
   have c7b0 : ((rd l0 x5_1) == a1) = false:=beq_eq_false_iff_ne.mpr c7
   have c7b1 : ((rd l0 x5_1) != a1) = true:=bne_iff_ne.mpr c7
   have c9b0:=eq_true (of_decide_eq_true (by assumption) : 0 ≤ x5_1)
   by_cases c10 : x5_1 ≤ (l0.length : Int)
   rotate_left
   ·rw [if_neg c10] at H
    exact absurd H (by simp)
   rw [if_pos c10] at H
   have c10b0:=eq_true c10
   have c10b1 : decide (x5_1 ≤ (l0.length : Int)) = true:=decide_eq_true c10
   clear c10
   obtain ⟨y209,hy209⟩ : ∃ y_ : List Int,y_ = (l0.take (x5_1 : Int).toNat):=⟨_,rfl⟩
   replace H : (if ([] : List Int).length + y209.length < 17592186044416 then ((some (([] : List Int) ++ y209 : List Int)).bind fun y213 => (if y213.length < 17592186044416 then ((some (y213 ++ [a1] : List Int)).bind fun y216 => ((some (l0.drop (x5_1 : Int).toNat : List Int)).bind fun y219 => (if y216.length + y219.length < 17592186044416 then (some (y216 ++ y219)) else (none)))) else (none))) else (none)) = some r:=by first | (rw [hy209];with_reducible exact H) | (have H2_:=(Option.bind_some _ _).symm.trans H;rw [hy209];with_reducible exact H2_) | (have H2_:=(Option.bind_some _ _).symm.trans H;with_reducible exact H2_) | with_reducible exact H | (rw [hy209];exact H) | exact H
   have Ny209:=Aside0.mk hy209
   clear hy209
   by_cases c11 : ([] : List Int).length + y209.length < 17592186044416
   rotate_left
   ·rw [if_neg c11] at H
    exact absurd H (by simp)
   rw [if_pos c11] at H
   have LMc11:=Aside0.mk c11
   clear c11
   obtain ⟨y213,hy213⟩ : ∃ y_ : List Int,y_ = (([] : List Int) ++ y209):=⟨_,rfl⟩
   replace H : (if y213.length < 17592186044416 then ((some (y213 ++ [a1] : List Int)).bind fun y216 => ((some (l0.drop (x5_1 : Int).toNat : List Int)).bind fun y219 => (if y216.length + y219.length < 17592186044416 then (some (y216 ++ y219)) else (none)))) else (none)) = some r:=by first | (rw [hy213];with_reducible exact H) | (have H2_:=(Option.bind_some _ _).symm.trans H;rw [hy213];with_reducible exact H2_) | (have H2_:=(Option.bind_some _ _).symm.trans H;with_reducible exact H2_) | with_reducible exact H | (rw [hy213];exact H) | exact H
   have Ny213:=Aside0.mk hy213
   clear hy213
   by_cases c12 : y213.length < 17592186044416
   rotate_left
   ·rw [if_neg c12] at H
    exact absurd H (by simp)
   rw [if_pos c12] at H
   have LMc12:=Aside0.mk c12
   clear c12
   obtain ⟨y216,hy216⟩ : ∃ y_ : List Int,y_ = (y213 ++ [a1]):=⟨_,rfl⟩
   replace H : ((some (l0.drop (x5_1 : Int).toNat : List Int)).bind fun y219 => (if y216.length + y219.length < 17592186044416 then (some (y216 ++ y219)) else (none))) = some r:=by first | (rw [hy216];with_reducible exact H) | (have H2_:=(Option.bind_some _ _).symm.trans H;rw [hy216];with_reducible exact H2_) | (have H2_:=(Option.bind_some _ _).symm.trans H;with_reducible exact H2_) | with_reducible exact H | (rw [hy216];exact H) | exact H
   have Ny216:=Aside0.mk hy216
   clear hy216
   have c13b0:=eq_true (of_decide_eq_true (by assumption) : 0 ≤ x5_1)
   have c14b0:=eq_true (of_decide_eq_true (by assumption) : x5_1 ≤ (l0.length : Int))
   obtain ⟨y219,hy219⟩ : ∃ y_ : List Int,y_ = (l0.drop (x5_1 : Int).toNat):=⟨_,rfl⟩
   replace H : (if y216.length + y219.length < 17592186044416 then (some (y216 ++ y219)) else (none)) = some r:=by first | (rw [hy219];with_reducible exact H) | (have H2_:=(Option.bind_some _ _).symm.trans H;rw [hy219];with_reducible exact H2_) | (have H2_:=(Option.bind_some _ _).symm.trans H;with_reducible exact H2_) | with_reducible exact H | (rw [hy219];exact H) | exact H
   have Ny219:=Aside0.mk hy219
   clear hy219
   by_cases c15 : y216.length + y219.length < 17592186044416
   rotate_left
   ·rw [if_neg c15] at H
    exact absurd H (by simp)
   rw [if_pos c15] at H
   have LMc15:=Aside0.mk c15
   clear c15
   obtain ⟨y223,hy223⟩ : ∃ y_ : List Int,y_ = (y216 ++ y219):=⟨_,rfl⟩
   replace H : (some y223) = some r:=by first | (rw [hy223];with_reducible exact H) | (have H2_:=(Option.bind_some _ _).symm.trans H;rw [hy223];with_reducible exact H2_) | (have H2_:=(Option.bind_some _ _).symm.trans H;with_reducible exact H2_) | with_reducible exact H | (rw [hy223];exact H) | exact H
   have Ny223:=Aside0.mk hy223
   clear hy223
   obtain rfl:=Option.some.inj H
   obtain ⟨Ao16,co16,eo16⟩:=Kd.R_slice HO_0.out
   subst eo16
   have p207 : 0 ≤ (x5_1 : Int):=of_decide_eq_true (by assumption)
   have q207 : x5_1 < (l0.length : Int):=of_decide_eq_true (by assumption)
   obtain ⟨ad207,e207,hx207_0⟩:=Kd.at_int (Kd.R_reads' HO_0.out).2.2 x5_1 p207 q207
   cases e207
   replace p207:=eq_true p207
   replace q207:=eq_true q207
   have p208 : 0 ≤ (x5_1 : Int):=of_decide_eq_true (by assumption)
   have q208 : x5_1 < (l0.length : Int):=of_decide_eq_true (by assumption)
   obtain ⟨ad208,e208,hx208_0⟩:=Kd.at_int (Kd.R_reads' HO_0.out).2.2 x5_1 p208 q208
   obtain rfl : ad207 = ad208:=(by injection e208)
   replace p208:=eq_true p208
   replace q208:=eq_true q208
   have q17 : (x5_1 : Int) ≤ ((l0.length : Int) : Int):=of_decide_eq_true (by assumption)
   obtain ⟨i017,hi017,_,hsz17,_⟩:=info_parts info3
   have hroom17 : l0.length ≤ co16:=(Kd.R_reads' HO_0.out).2.1
   have hC17 : Kd.C (Kd.int .i64) _ (some ad207) l0.length l0:=(Kd.R_reads' HO_0.out).2.2
   have hcut17:=cut_to (P:=Try.prog) 37 3 .i64 Try.underlying37 hi017 (some ad207) l0.length co16 x5_1 (of_decide_eq_true (by assumption)) q17 hroom17
   have hr17:=Kd.C_take (m:=(x5_1 : Int).toNat) hC17 (by omega)
   have hy17 : y209.length = (x5_1 : Int).toNat:=(by rw [Ny209.out,List.length_take];omega)
   rw [← Ny209.out] at hr17
   rw [← hy17] at hcut17
   have HR212:=Aside0.mk hr17
   have HC212:=Aside0.mk (show y209.length ≤ co16 from by omega)
   clear hr17 hC17 hroom17 hi017 hsz17
   have KY17:=Aside0.mk hy17
   clear hy17
   have KL17:=Aside0.mk (show (x5_1 : Int).toNat ≤ l0.length from by omega)
   replace q17:=eq_true q17
   go_wp2_with (first | ((with_reducible refine gate_builtin (b:=.append) (xs:=#[.tmp 34,.tmp 37]) rfl ?_);at_builtin;refine Kd.R_append_rows (Kd.int .i64) (w0:=w0) w0.heap.size rfl (.tmp 34) (.tmp 37) 37 3 (.int .i64 0) 8 rfl Try.underlying37 info3 rfl (by decide) (by omega) (.slice none 0 0) ([] : List Int) y209 _ _ _ (fun k_ => (P0_ k_ ∨ w.heap.size ≤ k_) ∧ some k_ ≠ (.slice (some ad207) l0.length co16 : Value).ownBlock) (fun _ => False) rfl rfl ?aO ?aR (fun _ _ h => h) (fun _ h => h.elim) ?aF ?aB ?aS ?aL ?_;(case aR => repeat (first | exact (by repeat (first | (with_reducible exact HR212.out) | (with_reducible refine Kd.C_alloc ?_ _) | (with_reducible refine Kd.C_drewN ?_ _) | (with_reducible refine Kd.C_drew ?_) | exact HR212.out)) | (with_reducible refine Kd.C_alloc ?_ _) | (with_reducible refine Kd.C_drewN ?_ _) | (with_reducible refine Kd.C_drew ?_)));(case aB => exact (by repeat (with_reducible first | exact HB.out | apply below_alloc | apply pw_below_drewN | apply below_drew1)));(case aF => exact (fun k_ hk => ⟨(.inr (Nat.le_trans (by first | exact HK.out.1 | exact (show Kept w _ (fun k_ => P0_ k_) from by repeat (first | (with_reducible first | exact HK.out | apply Kept.alloc | apply Kept.drewN | apply Kept.drew) | exact HK.out)).1) hk)),Kd.fresh' (Kd.R_lt (by (with_reducible repeat (first | apply Kd.R_alloc | apply Kd.R_drewN | apply Kd.R_drew));exact HO_0.out)) k_ hk⟩));(case aO => exact ((Kd.R_nil _ _ _ _ (fun k_ => (P0_ k_ ∨ w.heap.size ≤ k_) ∧ some k_ ≠ (.slice (some ad207) l0.length co16 : Value).ownBlock))));(case aS => exact (below_size (by repeat (with_reducible first | exact HB.out | apply below_alloc | apply pw_below_drewN | apply below_drew1))));(case aL => have:=LMc11.out;omega);intro v214 w18 ho hb hg hat;rw [← Ny213.out] at ho;have n0_:=Aside0.mk (Kd.R_after (Kd.R_apart_nil (by (with_reducible repeat (first | apply Kd.R_alloc | apply Kd.R_drewN | apply Kd.R_drew));exact HO_0.out)) hg hat);have n1_:=Aside0.mk (hb);have n2_:=Aside0.mk (Kept.of_grown (S:=(fun k_ => P0_ k_)) hg (by repeat (first | (with_reducible first | exact HK.out | apply Kept.alloc | apply Kept.drewN | apply Kept.drew) | exact HK.out)) (fun k_ e_ => by simp [Value.ownBlock] at e_));have n3_:=Aside0.mk ((show Kd.C (Kd.int .i64) w18 (some ad207) y209.length y209 from by rw [Ny209.out];exact Kd.C_take (m:=(x5_1 : Int).toNat) ((Kd.R_reads' (Kd.R_after (Kd.R_apart_nil (by (with_reducible repeat (first | apply Kd.R_alloc | apply Kd.R_drewN | apply Kd.R_drew));exact HO_0.out)) hg hat)).2.2) KL17.out));have n4_:=Aside0.mk (ho);clear HO_0;clear HB;clear HK;clear HR212;have HO_0:=n0_;have HB:=n1_;have HK:=n2_;have HR212:=n3_;have HO215:=n4_;clear n0_ n1_ n2_ n3_ n4_;clear ho hb hg hat) | ((with_reducible refine gate_builtin (b:=.append) (xs:=#[.tmp 39,.tmp 41]) rfl ?_);at_builtin;refine Kd.R_append (Kd.int .i64) (w0:=w0) w0.heap.size rfl (.tmp 39) (.tmp 41) 37 3 (.int .i64 0) 8 rfl Try.underlying37 info3 rfl (by decide) (by omega) v214 y213 a1 [.int .i64 a1] (fun k_ => (P0_ k_ ∨ w.heap.size ≤ k_) ∧ some k_ ≠ (.slice (some ad207) l0.length co16 : Value).ownBlock) (fun _ => False) rfl rfl ?aP (fun _ hk => hk.elim) ?aF ?aO ?aB ?aS ?aL ?_;(case aP => exact rfl);(case aB => exact (by repeat (with_reducible first | exact HB.out | apply below_alloc | apply pw_below_drewN | apply below_drew1)));(case aF => exact (fun k_ hk => ⟨(.inr (Nat.le_trans (by first | exact HK.out.1 | exact (show Kept w _ (fun k_ => P0_ k_) from by repeat (first | (with_reducible first | exact HK.out | apply Kept.alloc | apply Kept.drewN | apply Kept.drew) | exact HK.out)).1) hk)),Kd.fresh' (Kd.R_lt (by (with_reducible repeat (first | apply Kd.R_alloc | apply Kd.R_drewN | apply Kd.R_drew));exact HO_0.out)) k_ hk⟩));(case aO => exact (by (with_reducible repeat (first | apply Kd.R_alloc | apply Kd.R_drewN | apply Kd.R_drew));exact HO215.out));(case aS => exact (below_size (by repeat (with_reducible first | exact HB.out | apply below_alloc | apply pw_below_drewN | apply below_drew1))));(case aL => have:=LMc12.out;omega);intro v217 w19 ho hb hg hat;rw [← Ny216.out] at ho;have n0_:=Aside0.mk (Kd.R_after (ok:=(fun k_ => (P0_ k_ ∨ w.heap.size ≤ k_))) (by (with_reducible repeat (first | apply Kd.R_alloc | apply Kd.R_drewN | apply Kd.R_drew));exact HO_0.out) hg hat);have n1_:=Aside0.mk (hb);have n2_:=Aside0.mk (Kept.of_grown (S:=(fun k_ => P0_ k_)) hg (by repeat (first | (with_reducible first | exact HK.out | apply Kept.alloc | apply Kept.drewN | apply Kept.drew) | exact HK.out)) (fun k_ e_ => (HO215.out.1 k_ e_).1));have n3_:=Aside0.mk ((show Kd.C (Kd.int .i64) w19 (some ad207) y209.length y209 from by rw [Ny209.out];exact Kd.C_take (m:=(x5_1 : Int).toNat) ((Kd.R_reads' (Kd.R_after (ok:=(fun k_ => (P0_ k_ ∨ w.heap.size ≤ k_))) (by (with_reducible repeat (first | apply Kd.R_alloc | apply Kd.R_drewN | apply Kd.R_drew));exact HO_0.out) hg hat)).2.2) KL17.out));have n4_:=Aside0.mk (ho);clear HO_0;clear HB;clear HK;clear HR212;clear HO215;have HO_0:=n0_;have HB:=n1_;have HK:=n2_;have HR212:=n3_;have HO218:=n4_;clear n0_ n1_ n2_ n3_ n4_;clear ho hb hg hat;have q20 : (x5_1 : Int) ≤ ((l0.length : Int) : Int):=of_decide_eq_true (by assumption);obtain ⟨i020,hi020,_,hsz20,_⟩:=info_parts info3;have hroom20 : l0.length ≤ co16:=(Kd.R_reads' HO_0.out).2.1;have hC20 : Kd.C (Kd.int .i64) _ (some ad207) l0.length l0:=(Kd.R_reads' HO_0.out).2.2;have q020 : (0 : Int) ≤ (x5_1 : Int):=of_decide_eq_true (by assumption);have hcut20:=cut_from (P:=Try.prog) 37 3 .i64 Try.underlying37 hi020 1 hsz20 (some ad207) l0.length co16 x5_1 q020 q20;have hr20:=Kd.C_drop (m:=(x5_1 : Int).toNat) (c:=co16) hC20 (by omega) hroom20;obtain ⟨A20,hA20⟩ : ∃ A1,A1 = (if co16 = (x5_1 : Int).toNat then (some ad207) else ((some ad207) : Option Addr).map (·.add ((x5_1 : Int).toNat * 1))):=⟨_,rfl⟩;obtain ⟨c20,hc20⟩ : ∃ c1,c1 = co16 - (x5_1 : Int).toNat:=⟨_,rfl⟩;have hy20 : y219.length = l0.length - (x5_1 : Int).toNat:=(by rw [Ny219.out,List.length_drop] <;> omega);rw [show (l0).drop (x5_1 : Int).toNat = y219 from Ny219.out.symm] at hr20;replace hr20 : Kd.C (Kd.int .i64) _ A20 y219.length y219:=(by rw [hA20];exact hr20);rw [← hy20,← hA20,← hc20] at hcut20;have HR222:=Aside0.mk hr20;have HC222:=Aside0.mk (show y219.length ≤ c20 from by rw [hy20,hc20];exact Nat.sub_le_sub_right hroom20 _);clear hr20 hC20 hroom20 hi020 hsz20 hc20;have KY20:=Aside0.mk hy20;have KA20:=Aside0.mk hA20;clear hy20 hA20;have KL20:=Aside0.mk (show (x5_1 : Int).toNat ≤ l0.length from by omega);replace q20:=eq_true q20) | ((with_reducible refine gate_builtin (b:=.append) (xs:=#[.tmp 43,.tmp 46]) rfl ?_);at_builtin;refine Kd.R_append_rows (Kd.int .i64) (w0:=w0) w0.heap.size rfl (.tmp 43) (.tmp 46) 37 3 (.int .i64 0) 8 rfl Try.underlying37 info3 rfl (by decide) (by omega) v217 y216 y219 _ _ _ (fun k_ => (P0_ k_ ∨ w.heap.size ≤ k_) ∧ some k_ ≠ (.slice (some ad207) l0.length co16 : Value).ownBlock) (fun _ => False) rfl rfl ?aO ?aR (fun _ _ h => h) (fun _ h => h.elim) ?aF ?aB ?aS ?aL ?_;(case aR => repeat (first | exact (by repeat (first | (with_reducible exact HR222.out) | (with_reducible refine Kd.C_alloc ?_ _) | (with_reducible refine Kd.C_drewN ?_ _) | (with_reducible refine Kd.C_drew ?_) | exact HR222.out)) | (with_reducible refine Kd.C_alloc ?_ _) | (with_reducible refine Kd.C_drewN ?_ _) | (with_reducible refine Kd.C_drew ?_)));(case aB => exact (by repeat (with_reducible first | exact HB.out | apply below_alloc | apply pw_below_drewN | apply below_drew1)));(case aF => exact (fun k_ hk => ⟨(.inr (Nat.le_trans (by first | exact HK.out.1 | exact (show Kept w _ (fun k_ => P0_ k_) from by repeat (first | (with_reducible first | exact HK.out | apply Kept.alloc | apply Kept.drewN | apply Kept.drew) | exact HK.out)).1) hk)),Kd.fresh' (Kd.R_lt (by (with_reducible repeat (first | apply Kd.R_alloc | apply Kd.R_drewN | apply Kd.R_drew));exact HO_0.out)) k_ hk⟩));(case aO => exact (by (with_reducible repeat (first | apply Kd.R_alloc | apply Kd.R_drewN | apply Kd.R_drew));exact HO218.out));(case aS => exact (below_size (by repeat (with_reducible first | exact HB.out | apply below_alloc | apply pw_below_drewN | apply below_drew1))));(case aL => have:=LMc15.out;omega);intro v224 w21 ho hb hg hat;rw [← Ny223.out] at ho;have n0_:=Aside0.mk (Kd.R_after (ok:=(fun k_ => (P0_ k_ ∨ w.heap.size ≤ k_))) (by (with_reducible repeat (first | apply Kd.R_alloc | apply Kd.R_drewN | apply Kd.R_drew));exact HO_0.out) hg hat);have n1_:=Aside0.mk (hb);have n2_:=Aside0.mk (Kept.of_grown (S:=(fun k_ => P0_ k_)) hg (by repeat (first | (with_reducible first | exact HK.out | apply Kept.alloc | apply Kept.drewN | apply Kept.drew) | exact HK.out)) (fun k_ e_ => (HO218.out.1 k_ e_).1));have n3_:=Aside0.mk ((show Kd.C (Kd.int .i64) w21 (some ad207) y209.length y209 from by rw [Ny209.out];exact Kd.C_take (m:=(x5_1 : Int).toNat) ((Kd.R_reads' (Kd.R_after (ok:=(fun k_ => (P0_ k_ ∨ w.heap.size ≤ k_))) (by (with_reducible repeat (first | apply Kd.R_alloc | apply Kd.R_drewN | apply Kd.R_drew));exact HO_0.out) hg hat)).2.2) KL17.out));have n4_:=Aside0.mk ((show Kd.C (Kd.int .i64) w21 A20 y219.length y219 from by rw [Ny219.out,KA20.out];exact Kd.C_drop (m:=(x5_1 : Int).toNat) (c:=co16) ((Kd.R_reads' (Kd.R_after (ok:=(fun k_ => (P0_ k_ ∨ w.heap.size ≤ k_))) (by (with_reducible repeat (first | apply Kd.R_alloc | apply Kd.R_drewN | apply Kd.R_drew));exact HO_0.out) hg hat)).2.2) KL20.out ((Kd.R_reads' (Kd.R_after (ok:=(fun k_ => (P0_ k_ ∨ w.heap.size ≤ k_))) (by (with_reducible repeat (first | apply Kd.R_alloc | apply Kd.R_drewN | apply Kd.R_drew));exact HO_0.out) hg hat)).2.1)));have n5_:=Aside0.mk (ho);clear HO_0;clear HB;clear HK;clear HR212;clear HR222;clear HO218;have HO_0:=n0_;have HB:=n1_;have HK:=n2_;have HR212:=n3_;have HR222:=n4_;have HO225:=n5_;clear n0_ n1_ n2_ n3_ n4_ n5_;clear ho hb hg hat))
   go_ret
   exact ⟨_,by first | rfl | (simp [*,errW_none,errW_some] <;> rfl),by (with_reducible repeat (first | apply Kd.R_alloc | apply Kd.R_drewN | apply Kd.R_drew));exact Kd.R_mono HO225.out (fun _ hk => hk.1),by repeat (with_reducible first | exact HB.out | apply below_alloc | apply pw_below_drewN | apply below_drew1),by repeat (first | (with_reducible first | exact HK.out | apply Kept.alloc | apply Kept.drewN | apply Kept.drew) | exact HK.out)⟩

/-! ### spec_l1Has: function 78 -/
def spec_l1Has.l0 : Nat → Int → List Int → Int → Int → Option (Bool)
 | 0,_,_,_,_ => none
 | k + 1,x1,x7,x8,x9 => if x9 < x8 then (if 0 ≤ x9 then (if x9 < (x7.length : Int) then (if (rd x7 x9) = x1 then (some true) else (spec_l1Has.l0 k x1 x7 x8 (wrap64 (x9 + 1)))) else (none)) else (none)) else (some false)
def spec_l1Has.f (k : Nat) (l0 : List Int) (a1 : Int) : Option (Bool):=spec_l1Has.l0 k a1 l0 (l0.length : Int) 0
theorem spec_l1Has.mono_l : ∀ k,(∀ y0 y1 y2 y3,LeO (spec_l1Has.l0 k y0 y1 y2 y3) (spec_l1Has.l0 (k + 1) y0 y1 y2 y3))
 | 0 => fun _ _ _ _ r h => by simp [spec_l1Has.l0] at h
 | k + 1 => by
  have ih0:=spec_l1Has.mono_l k
  ·intro y0 y1 y2 y3
   unfold spec_l1Has.l0
   repeat' first
   | (with_reducible exact ih0 _ _ _ _)
   | (with_reducible exact LeO.refl _)
   | (with_reducible exact LeO.none _)
   | (with_reducible refine LeO.ite ?_ ?_)
   | (with_reducible refine LeO.bind ?_ (fun _ => ?_))
theorem spec_l1Has.mono : ∀ a0 a1 k,LeO (spec_l1Has.f k a0 a1) (spec_l1Has.f (k + 1) a0 a1):=by
 intro a0 a1 k
 have ih0:=spec_l1Has.mono_l k
 unfold spec_l1Has.f
 repeat' first
   | (with_reducible exact ih0 _ _ _ _)
   | (with_reducible exact LeO.refl _)
   | (with_reducible exact LeO.none _)
   | (with_reducible refine LeO.ite ?_ ?_)
   | (with_reducible refine LeO.bind ?_ (fun _ => ?_))
set_option maxHeartbeats 8000000 in
set_option maxRecDepth 100000 in
theorem spec_l1Has.calls (k : Nat) (A0 : Option Addr) (c0 : Nat) (l0 : List Int) (a1 : Int) (r : Bool) (w : World) (hr0 : Kd.C (Kd.int .i64) w A0 l0.length l0) (hc0 : l0.length ≤ c0) (h : spec_l1Has.f k l0 a1 = some r) :
  Calls Try.prog 78 #[.slice A0 l0.length c0,.int .i64 a1] w fun e w' => e = .returned (.bool r) ∧ Drawn0 w w':=by
 have HR0:=Aside0.mk hr0
 have HC0:=Aside0.mk hc0
 clear hr0 hc0
 have H : (spec_l1Has.l0 k a1 l0 (l0.length : Int) 0) = some r:=h
 clear h
 have H':=Aside0.mk H
 clear H
 go_enter Try.func78,Try.ntmps78
 go_wp2
 go_loopg [9] k (fun kq v9 w' => ∃ (x9_1 : Int),v9 = .int .i64 x9_1 ∧ Aside0 (spec_l1Has.l0 kq a1 l0 (l0.length : Int) x9_1 = some r) ∧ Aside0 (kq ≤ k) ∧ Drawn0 w w')
 case atStart => exact ⟨(0),(by first | rfl | (simp;done) | (simp [*];done)),H',⟨Nat.le_refl _⟩,by repeat (first | exact Drawn0.refl _ | apply Drawn0.step)⟩
 case round =>
  clear H'
  try clear p2
  obtain ⟨x9_1,rfl,HA,HK1,⟨m1,rfl⟩⟩:=hrel
  cases gk with
  | zero => exact absurd HA.out (by simp [spec_l1Has.l0])
  | succ k1 =>
   have H:=HA.out
   clear HA
   simp only [spec_l1Has.l0] at H
   by_cases c3 : x9_1 < (l0.length : Int)
   rotate_left
   ·rw [if_neg c3] at H
    have c3b0 : decide (x9_1 < (l0.length : Int)) = false:=decide_eq_false c3
    clear c3
    obtain rfl:=Option.some.inj H
    go_wp2
    go_ret
    exact ⟨by first | rfl | (simp;done) | (simp [*];done),by repeat (first | exact Drawn0.refl _ | apply Drawn0.step)⟩
   rw [if_pos c3] at H
   have c3b0 : decide (x9_1 < (l0.length : Int)) = true:=decide_eq_true c3
   clear c3
   by_cases c4 : 0 ≤ x9_1
   rotate_left
   ·rw [if_neg c4] at H
    exact absurd H (by simp)
   rw [if_pos c4] at H
   have c4b0 : decide (0 ≤ x9_1) = true:=decide_eq_true c4
   clear c4
   by_cases c5 : x9_1 < (l0.length : Int)
   rotate_left
   ·rw [if_neg c5] at H
    exact absurd H (by simp)
   rw [if_pos c5] at H
   have c5b0 : decide (x9_1 < (l0.length : Int)) = true:=decide_eq_true c5
   clear c5
   by_cases c6 : (rd l0 x9_1) = a1
   ·rw [if_pos c6] at H
    have c6b0 : ((rd l0 x9_1) == a1) = true:=beq_iff_eq.mpr c6
    have c6b1 : ((rd l0 x9_1) != a1) = false:=bne_eq_false_iff_eq.mpr c6
    clear c6
    obtain rfl:=Option.some.inj H
    have p243 : 0 ≤ (x9_1 : Int):=of_decide_eq_true (by assumption)
    have q243 : x9_1 < (l0.length : Int):=of_decide_eq_true (by assumption)
    obtain ⟨ad243,e243,hx243_0⟩:=Kd.at_int HR0.out x9_1 p243 q243
    cases e243
    replace p243:=eq_true p243
    replace q243:=eq_true q243
    go_wp2
    go_ret
    exact ⟨by first | rfl | (simp;done) | (simp [*];done),by repeat (first | exact Drawn0.refl _ | apply Drawn0.step)⟩
   rw [if_neg c6] at H
   have c6b0 : ((rd l0 x9_1) == a1) = false:=beq_eq_false_iff_ne.mpr c6
   have c6b1 : ((rd l0 x9_1) != a1) = true:=bne_iff_ne.mpr c6
   have H':=Aside0.mk H
   clear H
   have p243 : 0 ≤ (x9_1 : Int):=of_decide_eq_true (by assumption)
   have q243 : x9_1 < (l0.length : Int):=of_decide_eq_true (by assumption)
   obtain ⟨ad243,e243,hx243_0⟩:=Kd.at_int HR0.out x9_1 p243 q243
   cases e243
   replace p243:=eq_true p243
   replace q243:=eq_true q243
   go_wp2
   go_roundg k1
   case measure => have:=HK1.out;omega
   case rel => exact ⟨(wrap64 (x9_1 + 1)),(by first | rfl | (simp;done) | (simp [*];done)),H',⟨by have:=HK1.out;omega⟩,by repeat (first | exact Drawn0.refl _ | apply Drawn0.step)⟩

/-! ### spec_l6Reach: function 49 -/
mutual
def spec_l6Reach.l0 : Nat → List (S56) → List Int → Int → Option (List Int)
 | 0,_,_,_ => none
 | k + 1,x0,x3,x4 => if x4 < (x3.length : Int) then (if 0 ≤ x4 then (if 0 ≤ (rd x3 x4) then (if (rd x3 x4) < (x0.length : Int) then (spec_l6Reach.l1 k x0 x3 x4 ((rd_T56 x0 (rd x3 x4)).f3) (((rd_T56 x0 (rd x3 x4)).f3).length : Int) 0) else (none)) else (none)) else (none)) else (spec_l6Reach.l2 k ([] : List Int) x3 (x3.length : Int) 0)
def spec_l6Reach.l1 : Nat → List (S56) → List Int → Int → List Int → Int → Int → Option (List Int)
 | 0,_,_,_,_,_,_ => none
 | k + 1,x0,x3,x4,x24,x25,x26 => if x26 < x25 then (if 0 ≤ x26 then (if x26 < (x24.length : Int) then ((spec_l1Has.f k x3 (rd x24 x26)).bind fun t250 => (if t250 = true then (spec_l6Reach.l1 k x0 x3 x4 x24 x25 (wrap64 (x26 + 1))) else (if x3.length < 17592186044416 then (spec_l6Reach.l1 k x0 (x3 ++ [rd x24 x26]) x4 x24 x25 (wrap64 (x26 + 1))) else (none)))) else (none)) else (none)) else (spec_l6Reach.l0 k x0 x3 (wrap64 (x4 + 1)))
def spec_l6Reach.l2 : Nat → List Int → List Int → Int → Int → Option (List Int)
 | 0,_,_,_,_ => none
 | k + 1,x7,x39,x40,x41 => if x41 < x40 then (if 0 ≤ x41 then (if x41 < (x39.length : Int) then ((spec_l1Put.f k x7 (rd x39 x41)).bind fun t255 => (spec_l6Reach.l2 k t255 x39 x40 (wrap64 (x41 + 1)))) else (none)) else (none)) else (some x7)
end
def spec_l6Reach.f (k : Nat) (l0 : List (S56)) : Option (List Int):=spec_l6Reach.l0 k l0 (([0] : List Int)) 0
theorem spec_l6Reach.mono_l : ∀ k,(∀ y0 y1 y2,LeO (spec_l6Reach.l0 k y0 y1 y2) (spec_l6Reach.l0 (k + 1) y0 y1 y2)) ∧ (∀ y0 y1 y2 y3 y4 y5,LeO (spec_l6Reach.l1 k y0 y1 y2 y3 y4 y5) (spec_l6Reach.l1 (k + 1) y0 y1 y2 y3 y4 y5)) ∧ (∀ y0 y1 y2 y3,LeO (spec_l6Reach.l2 k y0 y1 y2 y3) (spec_l6Reach.l2 (k + 1) y0 y1 y2 y3))
 | 0 => ⟨fun _ _ _ r h => by simp [spec_l6Reach.l0] at h,fun _ _ _ _ _ _ r h => by simp [spec_l6Reach.l1] at h,fun _ _ _ _ r h => by simp [spec_l6Reach.l2] at h⟩
 | k + 1 => by
  obtain ⟨ih0,ih1,ih2⟩:=spec_l6Reach.mono_l k
  refine ⟨?_,?_,?_⟩
  ·intro y0 y1 y2
   unfold spec_l6Reach.l0
   repeat' first
   | (with_reducible exact ih0 _ _ _)
   | (with_reducible exact ih1 _ _ _ _ _ _)
   | (with_reducible exact ih2 _ _ _ _)
   | (with_reducible exact spec_l1Has.mono _ _ _)
   | (with_reducible exact spec_l1Put.mono _ _ _)
   | (with_reducible exact LeO.refl _)
   | (with_reducible exact LeO.none _)
   | (with_reducible refine LeO.ite ?_ ?_)
   | (with_reducible refine LeO.bind ?_ (fun _ => ?_))
  ·intro y0 y1 y2 y3 y4 y5
   unfold spec_l6Reach.l1
   repeat' first
   | (with_reducible exact ih0 _ _ _)
   | (with_reducible exact ih1 _ _ _ _ _ _)
   | (with_reducible exact ih2 _ _ _ _)
   | (with_reducible exact spec_l1Has.mono _ _ _)
   | (with_reducible exact spec_l1Put.mono _ _ _)
   | (with_reducible exact LeO.refl _)
   | (with_reducible exact LeO.none _)
   | (with_reducible refine LeO.ite ?_ ?_)
   | (with_reducible refine LeO.bind ?_ (fun _ => ?_))
  ·intro y0 y1 y2 y3
   unfold spec_l6Reach.l2
   repeat' first
   | (with_reducible exact ih0 _ _ _)
   | (with_reducible exact ih1 _ _ _ _ _ _)
   | (with_reducible exact ih2 _ _ _ _)
   | (with_reducible exact spec_l1Has.mono _ _ _)
   | (with_reducible exact spec_l1Put.mono _ _ _)
   | (with_reducible exact LeO.refl _)
   | (with_reducible exact LeO.none _)
   | (with_reducible refine LeO.ite ?_ ?_)
   | (with_reducible refine LeO.bind ?_ (fun _ => ?_))
theorem spec_l6Reach.mono : ∀ a0 k,LeO (spec_l6Reach.f k a0) (spec_l6Reach.f (k + 1) a0):=by
 intro a0 k
 obtain ⟨ih0,ih1,ih2⟩:=spec_l6Reach.mono_l k
 unfold spec_l6Reach.f
 repeat' first
   | (with_reducible exact ih0 _ _ _)
   | (with_reducible exact ih1 _ _ _ _ _ _)
   | (with_reducible exact ih2 _ _ _ _)
   | (with_reducible exact spec_l1Has.mono _ _ _)
   | (with_reducible exact spec_l1Put.mono _ _ _)
   | (with_reducible exact LeO.refl _)
   | (with_reducible exact LeO.none _)
   | (with_reducible refine LeO.ite ?_ ?_)
   | (with_reducible refine LeO.bind ?_ (fun _ => ?_))
set_option maxHeartbeats 8000000 in
set_option maxRecDepth 100000 in
theorem spec_l6Reach.calls (k : Nat) (A0 : Option Addr) (c0 : Nat) (l0 : List (S56)) (r : List Int) (w : World) (hr0 : Kd.C k56 w A0 l0.length l0) (hc0 : l0.length ≤ c0) (h : spec_l6Reach.f k l0 = some r) :
  Calls Try.prog 49 #[.slice A0 l0.length c0] w fun e w' => ∃ v0_ : Value,e = .returned (v0_) ∧ Kd.R (Kd.int .i64) 3 w' w.heap.size (fun _ => True) v0_ r ∧ Below w.heap.size w w':=by
 have HR0:=Aside0.mk hr0
 have HC0:=Aside0.mk hc0
 clear hr0 hc0
 have HB:=Aside0.mk (Below.refl w.heap.size w)
 have H : (spec_l6Reach.l0 k l0 (([0] : List Int)) 0) = some r:=h
 clear h
 obtain ⟨y244,hy244⟩ : ∃ y_ : List Int,y_ = (([0] : List Int)):=⟨_,rfl⟩
 replace H : (spec_l6Reach.l0 k l0 y244 0) = some r:=by first | (rw [hy244];with_reducible exact H) | (have H2_:=(Option.bind_some _ _).symm.trans H;rw [hy244];with_reducible exact H2_) | (have H2_:=(Option.bind_some _ _).symm.trans H;with_reducible exact H2_) | with_reducible exact H | (rw [hy244];exact H) | exact H
 have Ny244:=Aside0.mk hy244
 clear hy244
 have H':=Aside0.mk H
 clear H
 go_enter Try.func49,Try.ntmps49
 go_wp2_with (first | ((with_reducible refine gate_dst (N:=10) rfl ?_);refine Kd.R_lit (Kd.int .i64) _ 3 ?hg (N:=10) ?hd (xs:=([0] : List Int)) (inner:=[.int .i64 0]) (ok:=fun _ => True) (okp:=fun _ => True) ?hr ?hp (fun _ hk => hk) trivial (Below.refl _ _) (Nat.le_refl _) (by simp) ?_;(case hd => rfl);(case hg => rfl);(case hr => first | (go_simp;done) | (go_simp;rfl));(case hp => exact (Reps.one (show Kd.M (Kd.int .i64) _ _ _ 0 [.int .i64 0] from rfl) (Reps.none _ _)));intro v245 w2 ho3 hb hg_ hnew_;clear hg_ hnew_;(first | rw [← Ny244.out] at ho3 | (simp only [Int.reduceToNat] at ho3;rw [← Ny244.out] at ho3));have n0_:=Aside0.mk (Kd.R_lower ho3 (below_size (by repeat (with_reducible first | exact HB.out | apply below_alloc | apply pw_below_drewN | apply below_drew1))));have n1_:=Aside0.mk (below_step (by repeat (with_reducible first | exact HB.out | apply below_alloc | apply pw_below_drewN | apply below_drew1)) hb);clear HB;have HO246:=n0_;have HB:=n1_;clear n0_ n1_;clear hb ho3))
 go_loopg [3,4] k (fun kq v3 v4 w' => ∃ (x3_1 : List Int) (x4_1 : Int),v4 = .int .i64 x4_1 ∧ Aside0 (spec_l6Reach.l0 kq l0 x3_1 x4_1 = some r) ∧ Aside0 (kq ≤ k) ∧ Aside0 (Kd.R (Kd.int .i64) 3 w' w.heap.size (fun _ => True) v3 x3_1) ∧ Aside0 (Below w.heap.size w w'))
 case atStart => exact ⟨(y244),(0),(by first | rfl | (simp;done) | (simp [*];done)),H',⟨Nat.le_refl _⟩,⟨by (with_reducible repeat (first | apply Kd.R_alloc | apply Kd.R_drewN | apply Kd.R_drew));exact HO246.out⟩,⟨by repeat (with_reducible first | exact HB.out | apply below_alloc | apply pw_below_drewN | apply below_drew1)⟩⟩
 case round =>
  clear H'
  try clear p2
  obtain ⟨x3_1,x4_1,rfl,HA,HK1,HO_3,HB⟩:=hrel
  cases gk with
  | zero => exact absurd HA.out (by simp [spec_l6Reach.l0])
  | succ k1 =>
   have H:=HA.out
   clear HA
   simp only [spec_l6Reach.l0] at H
   by_cases c4 : x4_1 < (x3_1.length : Int)
   rotate_left
   ·rw [if_neg c4] at H
    have c4b0 : decide (x4_1 < (x3_1.length : Int)) = false:=decide_eq_false c4
    clear c4
    have H':=Aside0.mk H
    clear H
    obtain ⟨Ao18,co18,eo18⟩:=Kd.R_slice HO_3.out
    subst eo18
    go_wp2
    go_loopg [7,41] k1 (fun kq v7 v41 w' => ∃ (x7_2 : List Int) (x41_2 : Int),v41 = .int .i64 x41_2 ∧ Aside0 (spec_l6Reach.l2 kq x7_2 x3_1 (x3_1.length : Int) x41_2 = some r) ∧ Aside0 (kq ≤ k1) ∧ Aside0 (Kd.R (Kd.int .i64) 3 w' w.heap.size (fun k_ => some k_ ≠ ((.slice Ao18 x3_1.length co18) : Value).ownBlock) v7 x7_2) ∧ Aside0 (Kd.R (Kd.int .i64) 3 w' w.heap.size (fun k_ => some k_ ≠ (v7 : Value).ownBlock) (.slice Ao18 x3_1.length co18) x3_1) ∧ Aside0 (Below w.heap.size w w'))
    case atStart => exact ⟨(([] : List Int)),(0),(by first | rfl | (simp;done) | (simp [*];done)),H',⟨Nat.le_refl _⟩,⟨by first | exact Kd.R_nil _ _ _ _ _ | exact Kd.N_nil _ _ _ _ _ | exact Kd.V_nil _ _ _ _ _ | exact Kd.Q_nil _ _ _ _ _ | exact Kd.S_nil _ _ _ _ _⟩,⟨by (with_reducible repeat (first | apply Kd.R_alloc | apply Kd.R_drewN | apply Kd.R_drew));exact Kd.R_mono HO_3.out (fun _ hk => (by simp [Value.ownBlock]))⟩,⟨by repeat (with_reducible first | exact HB.out | apply below_alloc | apply pw_below_drewN | apply below_drew1)⟩⟩
    case round =>
     clear H'
     try clear c1
     try clear c2
     try clear p2
     try clear q2
     try clear hx2
     try clear c4
     try clear c4b0
     try clear c5
     try clear c5b0
     try clear c6
     try clear c6b0
     try clear p6
     try clear c7
     try clear c7b0
     try clear c9
     try clear c9b0
     try clear c10
     try clear c10b0
     try clear c11
     try clear c11b0
     try clear c13
     try clear c15
     try clear hx247_0
     try clear hx248_0
     try clear hx248_1
     try clear hx248_2
     try clear hx248_3
     try clear hx249_0
     try clear p2
     try clear p247
     try clear p248
     try clear p249
     try clear q2
     try clear q247
     try clear q248
     try clear q249
     obtain ⟨x7_2,x41_2,rfl,HA,HK2,HO_7,HO_39,HB⟩:=hrel
     cases gk with
     | zero => exact absurd HA.out (by simp [spec_l6Reach.l2])
     | succ k2 =>
      have H:=HA.out
      clear HA
      simp only [spec_l6Reach.l2] at H
      by_cases c19 : x41_2 < (x3_1.length : Int)
      rotate_left
      ·rw [if_neg c19] at H
       have c19b0 : decide (x41_2 < (x3_1.length : Int)) = false:=decide_eq_false c19
       clear c19
       obtain rfl:=Option.some.inj H
       go_wp2
       go_ret
       exact ⟨_,by first | rfl | (simp [*,errW_none,errW_some] <;> rfl),by (with_reducible repeat (first | apply Kd.R_alloc | apply Kd.R_drewN | apply Kd.R_drew));exact Kd.R_mono HO_7.out (fun _ hk => trivial),by repeat (with_reducible first | exact HB.out | apply below_alloc | apply pw_below_drewN | apply below_drew1)⟩
      rw [if_pos c19] at H
      have c19b0 : decide (x41_2 < (x3_1.length : Int)) = true:=decide_eq_true c19
      clear c19
      by_cases c20 : 0 ≤ x41_2
      rotate_left
      ·rw [if_neg c20] at H
       exact absurd H (by simp)
      rw [if_pos c20] at H
      have c20b0 : decide (0 ≤ x41_2) = true:=decide_eq_true c20
      clear c20
      by_cases c21 : x41_2 < (x3_1.length : Int)
      rotate_left
      ·rw [if_neg c21] at H
       exact absurd H (by simp)
      rw [if_pos c21] at H
      have c21b0 : decide (x41_2 < (x3_1.length : Int)) = true:=decide_eq_true c21
      clear c21
      replace H:=Option.bind_eq_some_iff.mp H
      obtain ⟨t255,A220,H⟩:=H
      replace H : (spec_l6Reach.l2 k2 t255 x3_1 (x3_1.length : Int) (wrap64 (x41_2 + 1))) = some r:=H
      have A22:=Aside0.mk A220
      clear A220
      have H':=Aside0.mk H
      clear H
      have p254 : 0 ≤ (x41_2 : Int):=of_decide_eq_true (by assumption)
      have q254 : x41_2 < (x3_1.length : Int):=of_decide_eq_true (by assumption)
      obtain ⟨ad254,e254,hx254_0⟩:=Kd.at_int (Kd.R_reads' HO_39.out).2.2 x41_2 p254 q254
      cases e254
      replace p254:=eq_true p254
      replace q254:=eq_true q254
      obtain ⟨Ao23,co23,eo23⟩:=Kd.R_slice HO_7.out
      subst eo23
      go_wp2_with (first | ((with_reducible refine gate_callee (f:=74) rfl ?_);refine goesL_ (some 47) rfl rfl Try.func74 (by kernel_rfl) rfl #[.slice Ao23 x7_2.length co23,.int .i64 (rd x3_1 x41_2)] rfl (by (try simp only [List.map_toArray,List.map_cons,List.map_nil]);first | done | rfl | (simp only [List.length_drop,List.length_take];rfl)) ?_;(with_reducible refine (spec_l1Put.calls k2 (fun k_ => some k_ = (.slice Ao23 x7_2.length co23 : Value).ownBlock) (.slice Ao23 x7_2.length co23) x7_2 (rd x3_1 x41_2) t255 w _ ?side1 ?side2 A22.out).mono ?_);(case side1 => repeat (with_reducible first | exact HB.out | apply below_alloc | apply pw_below_drewN | apply below_drew1));(case side2 => exact Kd.R_tight rfl HO_7.out);rintro e w24 ⟨v256,rfl,ho0,hb,hkp⟩;refine ⟨_,rfl,?_⟩;have n0_:=Aside0.mk (Kd.R_mono (ok':=fun k_ => some k_ ≠ (v256 : Value).ownBlock) (Kd.R_keptB (HO_39.out) hkp (fun k_ hk_ hs_ => (hk_) hs_)) (fun k_ hk_ => fun e_ => Or.elim (ho0.1 k_ e_.symm) (fun hs_ => hk_.2.1 hs_) (fun hn_ => Nat.not_le.2 hk_.2.2 hn_)));have n1_:=Aside0.mk (Kd.R_mono (ok':=fun k_ => some k_ ≠ (.slice (some ad254) x3_1.length co18 : Value).ownBlock) ho0 (fun k_ hk_ => Or.elim hk_ (fun hs_ => fun e_ => (((HO_39.out).1 k_ e_.symm)) hs_) (fun hn_ => (Kd.fresh' (Kd.R_lt (by (with_reducible repeat (first | apply Kd.R_alloc | apply Kd.R_drewN | apply Kd.R_drew));exact HO_39.out)) k_ hn_))));have n2_:=Aside0.mk (hb);clear HO_39;clear HB;clear HO_7;have HO_39:=n0_;have HO257:=n1_;have HB:=n2_;clear n0_ n1_ n2_;(try clear hb);(try clear hkp);(try clear ho0)))
      go_roundg k2
      case measure => have:=HK1.out;have:=HK2.out;omega
      case rel => exact ⟨(t255),(wrap64 (x41_2 + 1)),(by first | rfl | (simp;done) | (simp [*];done)),H',⟨by have:=HK1.out;have:=HK2.out;omega⟩,⟨by (with_reducible repeat (first | apply Kd.R_alloc | apply Kd.R_drewN | apply Kd.R_drew));exact HO257.out⟩,⟨by (with_reducible repeat (first | apply Kd.R_alloc | apply Kd.R_drewN | apply Kd.R_drew));exact HO_39.out⟩,⟨by repeat (with_reducible first | exact HB.out | apply below_alloc | apply pw_below_drewN | apply below_drew1)⟩⟩
   rw [if_pos c4] at H
   have c4b0 : decide (x4_1 < (x3_1.length : Int)) = true:=decide_eq_true c4
   clear c4
   by_cases c5 : 0 ≤ x4_1
   rotate_left
   ·rw [if_neg c5] at H
    exact absurd H (by simp)
   rw [if_pos c5] at H
   have c5b0 : decide (0 ≤ x4_1) = true:=decide_eq_true c5
   clear c5
   by_cases c6 : 0 ≤ (rd x3_1 x4_1)
   rotate_left
   ·rw [if_neg c6] at H
    exact absurd H (by simp)
   rw [if_pos c6] at H
   have c6b0 : decide (0 ≤ (rd x3_1 x4_1)) = true:=decide_eq_true c6
   clear c6
   by_cases c7 : (rd x3_1 x4_1) < (l0.length : Int)
   rotate_left
   ·rw [if_neg c7] at H
    exact absurd H (by simp)
   rw [if_pos c7] at H
   have c7b0 : decide ((rd x3_1 x4_1) < (l0.length : Int)) = true:=decide_eq_true c7
   clear c7
   have H':=Aside0.mk H
   clear H
   obtain ⟨Ao8,co8,eo8⟩:=Kd.R_slice HO_3.out
   subst eo8
   have p247 : 0 ≤ (x4_1 : Int):=of_decide_eq_true (by assumption)
   have q247 : x4_1 < (x3_1.length : Int):=of_decide_eq_true (by assumption)
   obtain ⟨ad247,e247,hx247_0⟩:=Kd.at_int (Kd.R_reads' HO_3.out).2.2 x4_1 p247 q247
   cases e247
   replace p247:=eq_true p247
   replace q247:=eq_true q247
   have p248 : 0 ≤ ((rd x3_1 x4_1) : Int):=of_decide_eq_true (by assumption)
   have q248 : (rd x3_1 x4_1) < (l0.length : Int):=of_decide_eq_true (by assumption)
   obtain ⟨ad248,A248_0,c248_0,A248_3,c248_3,e248,hx248_0,hx248_1,hx248_2,hx248_3,hl248_0,hi248_0,hl248_3,hi248_3⟩:=at_T56 HR0.out (rd x3_1 x4_1) p248 q248
   cases e248
   replace hx248_0:=(HB.out.cell (World.block_lt_of_cell? w _ hx248_0)).trans hx248_0
   replace hx248_1:=(HB.out.cell (World.block_lt_of_cell? w _ hx248_1)).trans hx248_1
   replace hx248_2:=(HB.out.cell (World.block_lt_of_cell? w _ hx248_2)).trans hx248_2
   replace hx248_3:=(HB.out.cell (World.block_lt_of_cell? w _ hx248_3)).trans hx248_3
   have HR248_0:=Aside0.mk hi248_0
   have HC248_0:=Aside0.mk hl248_0
   clear hi248_0 hl248_0
   have HR248_3:=Aside0.mk hi248_3
   have HC248_3:=Aside0.mk hl248_3
   clear hi248_3 hl248_3
   replace p248:=eq_true p248
   replace q248:=eq_true q248
   go_wp2
   go_loopg [3,26] k1 (fun kq v3 v26 w' => ∃ (x3_2 : List Int) (x26_2 : Int),v26 = .int .i64 x26_2 ∧ Aside0 (spec_l6Reach.l1 kq l0 x3_2 x4_1 ((rd_T56 l0 (rd x3_1 x4_1)).f3) (((rd_T56 l0 (rd x3_1 x4_1)).f3).length : Int) x26_2 = some r) ∧ Aside0 (kq ≤ k1) ∧ Aside0 (Kd.R (Kd.int .i64) 3 w' w.heap.size (fun _ => True) v3 x3_2) ∧ Aside0 (Below w.heap.size w w'))
   case atStart => exact ⟨(x3_1),(0),(by first | rfl | (simp;done) | (simp [*];done)),H',⟨Nat.le_refl _⟩,⟨by (with_reducible repeat (first | apply Kd.R_alloc | apply Kd.R_drewN | apply Kd.R_drew));exact HO_3.out⟩,⟨by repeat (with_reducible first | exact HB.out | apply below_alloc | apply pw_below_drewN | apply below_drew1)⟩⟩
   case round =>
    clear H'
    try clear c2
    try clear p2
    try clear q2
    try clear hx2
    try clear c4
    try clear c4b0
    try clear c5
    try clear c5b0
    try clear c6
    try clear c6b0
    try clear c7
    try clear c7b0
    try clear hx247_0
    try clear hx248_0
    try clear hx248_1
    try clear hx248_2
    try clear hx248_3
    try clear p2
    try clear p247
    try clear p248
    try clear q247
    try clear q248
    obtain ⟨x3_2,x26_2,rfl,HA,HK2,HO_3,HB⟩:=hrel
    cases gk with
    | zero => exact absurd HA.out (by simp [spec_l6Reach.l1])
    | succ k2 =>
     have H:=HA.out
     clear HA
     simp only [spec_l6Reach.l1] at H
     by_cases c9 : x26_2 < (((rd_T56 l0 (rd x3_1 x4_1)).f3).length : Int)
     rotate_left
     ·rw [if_neg c9] at H
      have c9b0 : decide (x26_2 < (((rd_T56 l0 (rd x3_1 x4_1)).f3).length : Int)) = false:=decide_eq_false c9
      clear c9
      have H':=Aside0.mk H
      clear H
      go_wp2
      go_roundg k2
      case measure => have:=HK1.out;have:=HK2.out;omega
      case rel => exact ⟨(x3_2),(wrap64 (x4_1 + 1)),(by first | rfl | (simp;done) | (simp [*];done)),H',⟨by have:=HK1.out;have:=HK2.out;omega⟩,⟨by (with_reducible repeat (first | apply Kd.R_alloc | apply Kd.R_drewN | apply Kd.R_drew));exact HO_3.out⟩,⟨by repeat (with_reducible first | exact HB.out | apply below_alloc | apply pw_below_drewN | apply below_drew1)⟩⟩
     rw [if_pos c9] at H
     have c9b0 : decide (x26_2 < (((rd_T56 l0 (rd x3_1 x4_1)).f3).length : Int)) = true:=decide_eq_true c9
     clear c9
     by_cases c10 : 0 ≤ x26_2
     rotate_left
     ·rw [if_neg c10] at H
      exact absurd H (by simp)
     rw [if_pos c10] at H
     have c10b0 : decide (0 ≤ x26_2) = true:=decide_eq_true c10
     clear c10
     by_cases c11 : x26_2 < (((rd_T56 l0 (rd x3_1 x4_1)).f3).length : Int)
     rotate_left
     ·rw [if_neg c11] at H
      exact absurd H (by simp)
     rw [if_pos c11] at H
     have c11b0 : decide (x26_2 < (((rd_T56 l0 (rd x3_1 x4_1)).f3).length : Int)) = true:=decide_eq_true c11
     clear c11
     replace H:=Option.bind_eq_some_iff.mp H
     obtain ⟨t250,A120,H⟩:=H
     replace H : (if t250 = true then (spec_l6Reach.l1 k2 l0 x3_2 x4_1 ((rd_T56 l0 (rd x3_1 x4_1)).f3) (((rd_T56 l0 (rd x3_1 x4_1)).f3).length : Int) (wrap64 (x26_2 + 1))) else (if x3_2.length < 17592186044416 then (spec_l6Reach.l1 k2 l0 (x3_2 ++ [rd ((rd_T56 l0 (rd x3_1 x4_1)).f3) x26_2]) x4_1 ((rd_T56 l0 (rd x3_1 x4_1)).f3) (((rd_T56 l0 (rd x3_1 x4_1)).f3).length : Int) (wrap64 (x26_2 + 1))) else (none))) = some r:=H
     have A12:=Aside0.mk A120
     clear A120
     by_cases c13 : t250 = true
     ·subst c13
      have H1 : (spec_l6Reach.l1 k2 l0 x3_2 x4_1 ((rd_T56 l0 (rd x3_1 x4_1)).f3) (((rd_T56 l0 (rd x3_1 x4_1)).f3).length : Int) (wrap64 (x26_2 + 1))) = some r:=by rw [if_pos rfl] at H;exact H
      clear H
      have H:=H1
      clear H1
      have H':=Aside0.mk H
      clear H
      have p249 : 0 ≤ (x26_2 : Int):=of_decide_eq_true (by assumption)
      have q249 : x26_2 < (((rd_T56 l0 (rd x3_1 x4_1)).f3).length : Int):=of_decide_eq_true (by assumption)
      obtain ⟨ad249,e249,hx249_0⟩:=Kd.at_int HR248_3.out x26_2 p249 q249
      cases e249
      replace hx249_0:=(HB.out.cell (World.block_lt_of_cell? w _ hx249_0)).trans hx249_0
      replace p249:=eq_true p249
      replace q249:=eq_true q249
      obtain ⟨Ao14,co14,eo14⟩:=Kd.R_slice HO_3.out
      subst eo14
      go_wp2_with (first | ((with_reducible refine gate_callee (f:=78) rfl ?_);refine goesL_ (some 32) rfl rfl Try.func78 (by kernel_rfl) rfl #[.slice Ao14 x3_2.length co14,.int .i64 (rd ((rd_T56 l0 (rd x3_1 x4_1)).f3) x26_2)] rfl (by (try simp only [List.map_toArray,List.map_cons,List.map_nil]);first | done | rfl | (simp only [List.length_drop,List.length_take];rfl)) ?_;(with_reducible refine (spec_l1Has.calls k2 _ _ x3_2 (rd ((rd_T56 l0 (rd x3_1 x4_1)).f3) x26_2) true _ ?side1 ?side2 A12.out).mono ?_);(case side1 => repeat (first | exact (Kd.R_reads' HO_3.out).2.2 | (with_reducible refine Kd.C_alloc ?_ _) | (with_reducible refine Kd.C_drewN ?_ _) | (with_reducible refine Kd.C_drew ?_)));(case side2 => exact (Kd.R_reads' HO_3.out).2.1);rintro e w' ⟨rfl,⟨nd,rfl⟩⟩;refine ⟨_,rfl,?_⟩))
      go_roundg k2
      case measure => have:=HK1.out;have:=HK2.out;omega
      case rel => exact ⟨(x3_2),(wrap64 (x26_2 + 1)),(by first | rfl | (simp;done) | (simp [*];done)),H',⟨by have:=HK1.out;have:=HK2.out;omega⟩,⟨by (with_reducible repeat (first | apply Kd.R_alloc | apply Kd.R_drewN | apply Kd.R_drew));exact HO_3.out⟩,⟨by repeat (with_reducible first | exact HB.out | apply below_alloc | apply pw_below_drewN | apply below_drew1)⟩⟩
     replace c13:=Bool.eq_false_iff.mpr c13
     subst c13
     have H1 : (if x3_2.length < 17592186044416 then (spec_l6Reach.l1 k2 l0 (x3_2 ++ [rd ((rd_T56 l0 (rd x3_1 x4_1)).f3) x26_2]) x4_1 ((rd_T56 l0 (rd x3_1 x4_1)).f3) (((rd_T56 l0 (rd x3_1 x4_1)).f3).length : Int) (wrap64 (x26_2 + 1))) else (none)) = some r:=by rw [if_neg (show ¬ (false = true) by decide)] at H;exact H
     clear H
     have H:=H1
     clear H1
     by_cases c15 : x3_2.length < 17592186044416
     rotate_left
     ·rw [if_neg c15] at H
      exact absurd H (by simp)
     rw [if_pos c15] at H
     have LMc15:=Aside0.mk c15
     clear c15
     obtain ⟨y251,hy251⟩ : ∃ y_ : List Int,y_ = (x3_2 ++ [rd ((rd_T56 l0 (rd x3_1 x4_1)).f3) x26_2]):=⟨_,rfl⟩
     replace H : (spec_l6Reach.l1 k2 l0 y251 x4_1 ((rd_T56 l0 (rd x3_1 x4_1)).f3) (((rd_T56 l0 (rd x3_1 x4_1)).f3).length : Int) (wrap64 (x26_2 + 1))) = some r:=by first | (rw [hy251];with_reducible exact H) | (have H2_:=(Option.bind_some _ _).symm.trans H;rw [hy251];with_reducible exact H2_) | (have H2_:=(Option.bind_some _ _).symm.trans H;with_reducible exact H2_) | with_reducible exact H | (rw [hy251];exact H) | exact H
     have Ny251:=Aside0.mk hy251
     clear hy251
     have H':=Aside0.mk H
     clear H
     have p249 : 0 ≤ (x26_2 : Int):=of_decide_eq_true (by assumption)
     have q249 : x26_2 < (((rd_T56 l0 (rd x3_1 x4_1)).f3).length : Int):=of_decide_eq_true (by assumption)
     obtain ⟨ad249,e249,hx249_0⟩:=Kd.at_int HR248_3.out x26_2 p249 q249
     cases e249
     replace hx249_0:=(HB.out.cell (World.block_lt_of_cell? w _ hx249_0)).trans hx249_0
     replace p249:=eq_true p249
     replace q249:=eq_true q249
     obtain ⟨Ao16,co16,eo16⟩:=Kd.R_slice HO_3.out
     subst eo16
     go_wp2_with (first | ((with_reducible refine gate_callee (f:=78) rfl ?_);refine goesL_ (some 32) rfl rfl Try.func78 (by kernel_rfl) rfl #[.slice Ao16 x3_2.length co16,.int .i64 (rd ((rd_T56 l0 (rd x3_1 x4_1)).f3) x26_2)] rfl (by (try simp only [List.map_toArray,List.map_cons,List.map_nil]);first | done | rfl | (simp only [List.length_drop,List.length_take];rfl)) ?_;(with_reducible refine (spec_l1Has.calls k2 _ _ x3_2 (rd ((rd_T56 l0 (rd x3_1 x4_1)).f3) x26_2) false _ ?side1 ?side2 A12.out).mono ?_);(case side1 => repeat (first | exact (Kd.R_reads' HO_3.out).2.2 | (with_reducible refine Kd.C_alloc ?_ _) | (with_reducible refine Kd.C_drewN ?_ _) | (with_reducible refine Kd.C_drew ?_)));(case side2 => exact (Kd.R_reads' HO_3.out).2.1);rintro e w' ⟨rfl,⟨nd,rfl⟩⟩;refine ⟨_,rfl,?_⟩) | ((with_reducible refine gate_builtin (b:=.append) (xs:=#[.tmp 34,.tmp 36]) rfl ?_);at_builtin;refine Kd.R_append (Kd.int .i64) (w0:=w) w.heap.size rfl (.tmp 34) (.tmp 36) 37 3 (.int .i64 0) 8 rfl Try.underlying37 info3 rfl (by decide) (by omega) (.slice Ao16 x3_2.length co16) x3_2 (rd ((rd_T56 l0 (rd x3_1 x4_1)).f3) x26_2) [.int .i64 (rd ((rd_T56 l0 (rd x3_1 x4_1)).f3) x26_2)] (fun _ => True) (fun _ => False) rfl rfl ?aP (fun _ hk => hk.elim) ?aF ?aO ?aB ?aS ?aL ?_;(case aP => exact rfl);(case aB => exact (by repeat (with_reducible first | exact HB.out | apply below_alloc | apply pw_below_drewN | apply below_drew1)));(case aF => exact (fun _ _ => trivial));(case aO => exact (by (with_reducible repeat (first | apply Kd.R_alloc | apply Kd.R_drewN | apply Kd.R_drew));exact HO_3.out));(case aS => exact (below_size (by repeat (with_reducible first | exact HB.out | apply below_alloc | apply pw_below_drewN | apply below_drew1))));(case aL => have:=LMc15.out;omega);intro v252 w17 ho hb hg hat;rw [← Ny251.out] at ho;have n0_:=Aside0.mk (hb);have n1_:=Aside0.mk (ho);clear HB;clear HO_3;have HB:=n0_;have HO253:=n1_;clear n0_ n1_;clear ho hb hg hat))
     go_roundg k2
     case measure => have:=HK1.out;have:=HK2.out;omega
     case rel => exact ⟨(y251),(wrap64 (x26_2 + 1)),(by first | rfl | (simp;done) | (simp [*];done)),H',⟨by have:=HK1.out;have:=HK2.out;omega⟩,⟨by (with_reducible repeat (first | apply Kd.R_alloc | apply Kd.R_drewN | apply Kd.R_drew));exact HO253.out⟩,⟨by repeat (with_reducible first | exact HB.out | apply below_alloc | apply pw_below_drewN | apply below_drew1)⟩⟩

end Go.Proofs.Ythgkhfhfahifmaa.Q
