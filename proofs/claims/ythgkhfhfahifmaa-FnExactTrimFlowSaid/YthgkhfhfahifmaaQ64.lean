-- WRITTEN BY A PROGRAM OF THIS SESSION
import Derived.Test.YthgkhfhfahifmaaWMi3
import Derived.Test.YthgkhfhfahifmaaQ0
import Derived.Test.YthgkhfhfahifmaaQ63
namespace Go.Proofs.Ythgkhfhfahifmaa.Q
open Go.RowKit Go.Proofs.YthgkhfhfahifmaaW.PrintWords Go.Proofs.YthgkhfhfahifmaaW.PrintLast Go.Proofs.YthgkhfhfahifmaaW.PrintMore
attribute [local go_sem] max2_int min2_int max_two min_two max_three min_three max_four min_four   -- for this text's walks alone
set_option linter.unusedVariables false
set_option linter.unusedSimpArgs false

/-! ### impl_reach: function 51 -/
mutual
def impl_reach.l0 : Nat → List (List Int) → List Int → List Bool → List Int → Option (List Bool)
 | 0,_,_,_,_ => none
 | k + 1,x0,x2,x7,x8 => if (x8.length : Int) > 0 then (if 0 < (x8.length : Int) then (if 0 ≤ (rd x8 0) then (if (rd x8 0) < (x0.length : Int) then (impl_reach.l1 k x0 x2 x7 x8 (rd_L3 x0 (rd x8 0)) ((rd_L3 x0 (rd x8 0)).length : Int) 0) else (none)) else (none)) else (none)) else (some x7)
def impl_reach.l1 : Nat → List (List Int) → List Int → List Bool → List Int → List Int → Int → Int → Option (List Bool)
 | 0,_,_,_,_,_,_,_ => none
 | k + 1,x0,x2,x7,x8,x33,x34,x35 => if x35 < x34 then (if 0 ≤ x35 then (if x35 < (x33.length : Int) then (if 0 ≤ (rd x33 x35) then (if (rd x33 x35) < (x7.length : Int) then (if (rdOf false x7 (rd x33 x35) = true) then (impl_reach.l1 k x0 x2 x7 x8 x33 x34 (wrap64 (x35 + 1))) else ((slices_Contains_int_int.f k x2 (rd x33 x35)).bind fun t306 => (if t306 = true then (impl_reach.l1 k x0 x2 x7 x8 x33 x34 (wrap64 (x35 + 1))) else (if x8.length < 17592186044416 then (impl_reach.l1 k x0 x2 (x7.set ((rd x33 x35) : Int).toNat true) (x8 ++ [rd x33 x35]) x33 x34 (wrap64 (x35 + 1))) else (none))))) else (none)) else (none)) else (none)) else (none)) else (if 1 ≤ (x8.length : Int) then (impl_reach.l0 k x0 x2 x7 (x8.drop (1 : Int).toNat)) else (none))
end
def impl_reach.f (k : Nat) (l0 : List (List Int)) (a1 : Int) (l2 : List Int) : Option (List Bool):=if 0 ≤ (l0.length : Int) then (if ((l0.length : Int) : Int).toNat ≤ 281474976710656 then ((some (List.replicate ((l0.length : Int) : Int).toNat false : List Bool)).bind fun y294 => ((slices_Contains_int_int.f k l2 a1).bind fun t297 => (if t297 = true then (some y294) else (if 0 ≤ a1 then (if a1 < (y294.length : Int) then (impl_reach.l0 k l0 l2 (y294.set (a1 : Int).toNat true) (([a1] : List Int))) else (none)) else (none))))) else (none)) else (none)
theorem impl_reach.mono_l : ∀ k,(∀ y0 y1 y2 y3,LeO (impl_reach.l0 k y0 y1 y2 y3) (impl_reach.l0 (k + 1) y0 y1 y2 y3)) ∧ (∀ y0 y1 y2 y3 y4 y5 y6,LeO (impl_reach.l1 k y0 y1 y2 y3 y4 y5 y6) (impl_reach.l1 (k + 1) y0 y1 y2 y3 y4 y5 y6))
 | 0 => ⟨fun _ _ _ _ r h => by simp [impl_reach.l0] at h,fun _ _ _ _ _ _ _ r h => by simp [impl_reach.l1] at h⟩
 | k + 1 => by
  obtain ⟨ih0,ih1⟩:=impl_reach.mono_l k
  refine ⟨?_,?_⟩
  ·intro y0 y1 y2 y3
   unfold impl_reach.l0
   repeat' first
   | (with_reducible exact ih0 _ _ _ _)
   | (with_reducible exact ih1 _ _ _ _ _ _ _)
   | (with_reducible exact slices_Contains_int_int.mono _ _ _)
   | (with_reducible exact LeO.refl _)
   | (with_reducible exact LeO.none _)
   | (with_reducible refine LeO.ite ?_ ?_)
   | (with_reducible refine LeO.bind ?_ (fun _ => ?_))
   | exact ih0 _ _ _ _
   | exact ih1 _ _ _ _ _ _ _
   | exact slices_Contains_int_int.mono _ _ _
   | exact LeO.none _
   | refine LeO.ite ?_ ?_
   | refine LeO.bind ?_ (fun _ => ?_)
  ·intro y0 y1 y2 y3 y4 y5 y6
   unfold impl_reach.l1
   repeat' first
   | (with_reducible exact ih0 _ _ _ _)
   | (with_reducible exact ih1 _ _ _ _ _ _ _)
   | (with_reducible exact slices_Contains_int_int.mono _ _ _)
   | (with_reducible exact LeO.refl _)
   | (with_reducible exact LeO.none _)
   | (with_reducible refine LeO.ite ?_ ?_)
   | (with_reducible refine LeO.bind ?_ (fun _ => ?_))
   | exact ih0 _ _ _ _
   | exact ih1 _ _ _ _ _ _ _
   | exact slices_Contains_int_int.mono _ _ _
   | exact LeO.none _
   | refine LeO.ite ?_ ?_
   | refine LeO.bind ?_ (fun _ => ?_)
theorem impl_reach.mono : ∀ a0 a1 a2 k,LeO (impl_reach.f k a0 a1 a2) (impl_reach.f (k + 1) a0 a1 a2):=by
 intro a0 a1 a2 k
 obtain ⟨ih0,ih1⟩:=impl_reach.mono_l k
 unfold impl_reach.f
 repeat' first
   | (with_reducible exact ih0 _ _ _ _)
   | (with_reducible exact ih1 _ _ _ _ _ _ _)
   | (with_reducible exact slices_Contains_int_int.mono _ _ _)
   | (with_reducible exact LeO.refl _)
   | (with_reducible exact LeO.none _)
   | (with_reducible refine LeO.ite ?_ ?_)
   | (with_reducible refine LeO.bind ?_ (fun _ => ?_))
   | exact ih0 _ _ _ _
   | exact ih1 _ _ _ _ _ _ _
   | exact slices_Contains_int_int.mono _ _ _
   | exact LeO.none _
   | refine LeO.ite ?_ ?_
   | refine LeO.bind ?_ (fun _ => ?_)
set_option maxHeartbeats 8000000 in
set_option maxRecDepth 100000 in
theorem impl_reach.calls (k : Nat) (A0 : Option Addr) (c0 : Nat) (l0 : List (List Int)) (a1 : Int) (A2 : Option Addr) (c2 : Nat) (l2 : List Int) (r : List Bool) (w : World) (hr0 : Kd.C (Kd.slice 3 (Kd.int .i64)) w A0 l0.length l0) (hc0 : l0.length ≤ c0) (hr2 : Kd.C (Kd.int .i64) w A2 l2.length l2) (hc2 : l2.length ≤ c2) (h : impl_reach.f k l0 a1 l2 = some r) :
  Calls Try.prog 51 #[.slice A0 l0.length c0,.int .i64 a1,.slice A2 l2.length c2] w fun e w' => ∃ v0_ : Value,e = .returned (v0_) ∧ Kd.R Kd.bool 4 w' w.heap.size (fun _ => True) v0_ r ∧ Below w.heap.size w w':=by
 have HR0:=Aside0.mk hr0
 have HC0:=Aside0.mk hc0
 clear hr0 hc0
 have HR2:=Aside0.mk hr2
 have HC2:=Aside0.mk hc2
 clear hr2 hc2
 have HB:=Aside0.mk (Below.refl w.heap.size w)
 have H : (if 0 ≤ (l0.length : Int) then (if ((l0.length : Int) : Int).toNat ≤ 281474976710656 then ((some (List.replicate ((l0.length : Int) : Int).toNat false : List Bool)).bind fun y294 => ((slices_Contains_int_int.f k l2 a1).bind fun t297 => (if t297 = true then (some y294) else (if 0 ≤ a1 then (if a1 < (y294.length : Int) then (impl_reach.l0 k l0 l2 (y294.set (a1 : Int).toNat true) (([a1] : List Int))) else (none)) else (none))))) else (none)) else (none)) = some r:=h
 clear h
 by_cases c4 : 0 ≤ (l0.length : Int)
 ·rw [if_pos c4] at H
  have c4b0:=eq_true c4
  have c4b1 : decide (0 ≤ (l0.length : Int)) = true:=decide_eq_true c4
  clear c4
  by_cases c5 : ((l0.length : Int) : Int).toNat ≤ 281474976710656
  ·rw [if_pos c5] at H
   have c5b0:=eq_true c5
   have c5b1 : decide (((l0.length : Int) : Int).toNat ≤ 281474976710656) = true:=decide_eq_true c5
   clear c5
   obtain ⟨y294,hy294⟩ : ∃ y_ : List Bool,y_ = (List.replicate ((l0.length : Int) : Int).toNat false):=⟨_,rfl⟩
   replace H : ((slices_Contains_int_int.f k l2 a1).bind fun t297 => (if t297 = true then (some y294) else (if 0 ≤ a1 then (if a1 < (y294.length : Int) then (impl_reach.l0 k l0 l2 (y294.set (a1 : Int).toNat true) (([a1] : List Int))) else (none)) else (none)))) = some r:=by first | (rw [hy294];with_reducible exact H) | (have H2_:=(Option.bind_some _ _).symm.trans H;rw [hy294];with_reducible exact H2_) | (have H2_:=(Option.bind_some _ _).symm.trans H;with_reducible exact H2_) | with_reducible exact H | (rw [hy294];exact H) | exact H
   have Ny294:=Aside0.mk hy294
   clear hy294
   replace H:=Option.bind_eq_some_iff.mp H
   obtain ⟨t297,A60,H⟩:=H
   replace H : (if t297 = true then (some y294) else (if 0 ≤ a1 then (if a1 < (y294.length : Int) then (impl_reach.l0 k l0 l2 (y294.set (a1 : Int).toNat true) (([a1] : List Int))) else (none)) else (none))) = some r:=H
   have A6:=Aside0.mk A60
   clear A60
   by_cases c7 : t297 = true
   ·subst c7
    have H1 : (some y294) = some r:=by rw [if_pos rfl] at H;exact H
    clear H
    have H:=H1
    clear H1
    obtain rfl:=Option.some.inj H
    go_enter Try.func51,Try.ntmps51
    go_wp2_with (first | ((with_reducible refine gate_dst (N:=13) rfl ?_);refine Kd.R_make Kd.bool _ 4 rfl (N:=13) rfl 71 _ _ rfl (l0.length : Int) rfl rfl Try.underlying71 (.bool false) 1 info4 rfl (by decide) (by omega) false (ok:=fun _ => True) (okp:=fun _ => True) rfl (fun _ hk => hk) trivial (of_decide_eq_true (by first | (with_reducible assumption) | assumption)) (Nat.le_trans (Nat.mul_le_mul_right _ (of_decide_eq_true (by first | (with_reducible assumption) | assumption) : (l0.length : Int).toNat ≤ 281474976710656)) (by omega)) (Below.refl _ _) (Nat.le_refl _) ?_;intro v295 w8 ho9 hb hg_ hnew_;clear hg_ hnew_;(first | rw [← Ny294.out] at ho9 | (simp only [Int.reduceToNat] at ho9;rw [← Ny294.out] at ho9));have n0_:=Aside0.mk (Kd.R_lower ho9 (below_size (by repeat (first | (with_reducible first | exact HB.out | apply below_alloc | apply pw_below_drewN | apply below_drew1) | exact HB.out))));have n1_:=Aside0.mk (below_step (by repeat (first | (with_reducible first | exact HB.out | apply below_alloc | apply pw_below_drewN | apply below_drew1) | exact HB.out)) hb);clear HB;have HO296:=n0_;have HB:=n1_;clear n0_ n1_;clear hb ho9) | ((with_reducible refine gate_callee (f:=79) rfl ?_);refine goesL_ (some 16) rfl rfl Try.func79 (by kernel_rfl) rfl #[.slice A2 l2.length c2,.int .i64 a1] rfl (by (try simp only [List.map_toArray,List.map_cons,List.map_nil]);first | done | rfl | (simp only [List.length_drop,List.length_take];rfl)) ?_;(with_reducible refine (slices_Contains_int_int.calls k _ _ l2 a1 true _ ?side1 ?side2 A6.out).mono ?_);(case side1 => repeat (first | exact (Kd.C_below HR2.out HB.out) | (with_reducible refine Kd.C_alloc ?_ _) | (with_reducible refine Kd.C_drewN ?_ _) | (with_reducible refine Kd.C_drew ?_)));(case side2 => exact HC2.out);rintro e w' ⟨rfl,⟨nd,rfl⟩⟩;refine ⟨_,rfl,?_⟩))
    go_ret
    exact ⟨_,by first | rfl | (simp [errW_none,errW_some] <;> rfl) | (simp [*,errW_none,errW_some] <;> rfl),by (with_reducible repeat (first | apply Kd.R_alloc | apply Kd.R_drewN | apply Kd.R_drew));exact HO296.out,by repeat (first | (with_reducible first | exact HB.out | apply below_alloc | apply pw_below_drewN | apply below_drew1) | exact HB.out)⟩
   ·replace c7:=Bool.eq_false_iff.mpr c7
    subst c7
    have H1 : (if 0 ≤ a1 then (if a1 < (y294.length : Int) then (impl_reach.l0 k l0 l2 (y294.set (a1 : Int).toNat true) (([a1] : List Int))) else (none)) else (none)) = some r:=by rw [if_neg (show ¬ (false = true) by decide)] at H;exact H
    clear H
    have H:=H1
    clear H1
    by_cases c10 : 0 ≤ a1
    ·rw [if_pos c10] at H
     have c10b0 : decide (0 ≤ a1) = true:=decide_eq_true c10
     clear c10
     by_cases c11 : a1 < (y294.length : Int)
     ·rw [if_pos c11] at H
      have c11b0 : decide (a1 < (y294.length : Int)) = true:=decide_eq_true c11
      clear c11
      obtain ⟨y298,hy298⟩ : ∃ y_ : List Bool,y_ = (y294.set (a1 : Int).toNat true):=⟨_,rfl⟩
      replace H : (impl_reach.l0 k l0 l2 y298 (([a1] : List Int))) = some r:=by first | (rw [hy298];with_reducible exact H) | (have H2_:=(Option.bind_some _ _).symm.trans H;rw [hy298];with_reducible exact H2_) | (have H2_:=(Option.bind_some _ _).symm.trans H;with_reducible exact H2_) | with_reducible exact H | (rw [hy298];exact H) | exact H
      have Ny298:=Aside0.mk hy298
      clear hy298
      obtain ⟨y299,hy299⟩ : ∃ y_ : List Int,y_ = (([a1] : List Int)):=⟨_,rfl⟩
      replace H : (impl_reach.l0 k l0 l2 y298 y299) = some r:=by first | (rw [hy299];with_reducible exact H) | (have H2_:=(Option.bind_some _ _).symm.trans H;rw [hy299];with_reducible exact H2_) | (have H2_:=(Option.bind_some _ _).symm.trans H;with_reducible exact H2_) | with_reducible exact H | (rw [hy299];exact H) | exact H
      have Ny299:=Aside0.mk hy299
      clear hy299
      have H':=Aside0.mk H
      clear H
      go_enter Try.func51,Try.ntmps51
      go_wp2_with (first | ((with_reducible refine gate_dst (N:=13) rfl ?_);refine Kd.R_make Kd.bool _ 4 rfl (N:=13) rfl 71 _ _ rfl (l0.length : Int) rfl rfl Try.underlying71 (.bool false) 1 info4 rfl (by decide) (by omega) false (ok:=fun _ => True) (okp:=fun _ => True) rfl (fun _ hk => hk) trivial (of_decide_eq_true (by first | (with_reducible assumption) | assumption)) (Nat.le_trans (Nat.mul_le_mul_right _ (of_decide_eq_true (by first | (with_reducible assumption) | assumption) : (l0.length : Int).toNat ≤ 281474976710656)) (by omega)) (Below.refl _ _) (Nat.le_refl _) ?_;intro v295 w13 ho14 hb hg_ hnew_;clear hg_ hnew_;(first | rw [← Ny294.out] at ho14 | (simp only [Int.reduceToNat] at ho14;rw [← Ny294.out] at ho14));have n0_:=Aside0.mk (Kd.R_lower ho14 (below_size (by repeat (first | (with_reducible first | exact HB.out | apply below_alloc | apply pw_below_drewN | apply below_drew1) | exact HB.out))));have n1_:=Aside0.mk (below_step (by repeat (first | (with_reducible first | exact HB.out | apply below_alloc | apply pw_below_drewN | apply below_drew1) | exact HB.out)) hb);clear HB;have HO296:=n0_;have HB:=n1_;clear n0_ n1_;clear hb ho14) | ((with_reducible refine gate_callee (f:=79) rfl ?_);refine goesL_ (some 16) rfl rfl Try.func79 (by kernel_rfl) rfl #[.slice A2 l2.length c2,.int .i64 a1] rfl (by (try simp only [List.map_toArray,List.map_cons,List.map_nil]);first | done | rfl | (simp only [List.length_drop,List.length_take];rfl)) ?_;(with_reducible refine (slices_Contains_int_int.calls k _ _ l2 a1 false _ ?side1 ?side2 A6.out).mono ?_);(case side1 => repeat (first | exact (Kd.C_below HR2.out HB.out) | (with_reducible refine Kd.C_alloc ?_ _) | (with_reducible refine Kd.C_drewN ?_ _) | (with_reducible refine Kd.C_drew ?_)));(case side2 => exact HC2.out);rintro e w' ⟨rfl,⟨nd,rfl⟩⟩;refine ⟨_,rfl,?_⟩;(try (rw [drewN_self w13];generalize hq_ : World.drewN w13 _ = w13;have n0_ : Aside0 (Kd.R Kd.bool 4 w13 w.heap.size (fun _ => True) v295 y294):=⟨by rw [← hq_];exact (by (with_reducible repeat (first | apply Kd.R_alloc | apply Kd.R_drewN | apply Kd.R_drew));exact HO296.out)⟩;have n1_ : Aside0 (Below w.heap.size w w13):=⟨by rw [← hq_];exact (by repeat (first | (with_reducible first | exact HB.out | apply below_alloc | apply pw_below_drewN | apply below_drew1) | exact HB.out))⟩;clear HO296 HB hq_;have HO296:=n0_;have HB:=n1_;clear n0_ n1_));have p12 : 0 ≤ (a1 : Int):=of_decide_eq_true (by first | (with_reducible assumption) | assumption);have q12 : (a1 : Int) < ((y294.length : Int) : Int):=of_decide_eq_true (by first | (with_reducible assumption) | assumption);obtain ⟨go12,co12,eo12,gb12,gl12,cl12,HG12⟩:=Kd.R_form HO296.out (by omega);(first | cases eo12 | (injection eo12 with ea_ en_ ec_;(first | subst ea_ | (injection ea_ with ea_;subst ea_));subst ec_;clear en_));have GB12:=Aside0.mk gb12;have GG12:=Aside0.mk HG12;clear gb12 gl12 HG12;obtain ⟨hx12_0,hf12_0⟩:=Kd.R_celln false HO296.out (a1 : Int) p12 q12;replace p12:=eq_true p12;replace q12:=eq_true q12;obtain ⟨hy15_,hz15_⟩:=Kd.R_celln false HO296.out (a1 : Int) (of_decide_eq_true (by first | (with_reducible assumption) | assumption)) (of_decide_eq_true (by first | (with_reducible assumption) | assumption));have HP15:=Kd.R_putg HO296.out (a1 : Int) true) | ((with_reducible refine gate_store (t:=4) (p:=20) rfl ?_);refine store_event (t:=4) (p:=20) (v:=?vo_w16) (w1:=(w13.setCell ⟨go12,(a1 : Int).toNat,none⟩ (.bool true))) ?hg ?ho ?hn ?hr ?_;(case ho => rfl);(case hg => rfl);(case hn => rfl);(case hr => first | (go_simp;done) | (go_simp;rfl));intro w16 hw;have hg : w13.grownBy w16 (some go12):=(by rw [hw];exact HP15.2);have hp_ : Kd.R Kd.bool 4 w16 w.heap.size (fun _ => True) (.slice (some ⟨go12,0,none⟩) y294.length co12) y298:=(by rw [hw,Ny298.out];exact HP15.1);clear HP15;have n0_:=Aside0.mk (hp_);have n1_:=Aside0.mk ((by rw [hw];exact below_set (HB.out) GB12.out : Below w.heap.size w w16));clear HO296;clear HB;have HO296:=n0_;have HB:=n1_;clear n0_ n1_;clear hg hw hp_) | ((with_reducible refine gate_dst (N:=22) rfl ?_);refine Kd.R_lit (Kd.int .i64) _ 3 ?hg (N:=22) ?hd (xs:=([a1] : List Int)) (inner:=[.int .i64 a1]) (ok:=fun _ => True) (okp:=fun _ => True) ?hr ?hp (fun _ hk => hk) trivial (Below.refl _ _) (Nat.le_refl _) (by simp) ?_;(case hd => rfl);(case hg => rfl);(case hr => first | (go_simp;done) | (go_simp;rfl));(case hp => exact (Reps.one (show Kd.M (Kd.int .i64) _ _ _ a1 [.int .i64 a1] from rfl) (Reps.none _ _)));intro v300 w17 ho18 hb hg_ hnew_;clear hg_ hnew_;(first | rw [← Ny299.out] at ho18 | (simp only [Int.reduceToNat] at ho18;rw [← Ny299.out] at ho18));have n0_:=Aside0.mk (Kd.R_below (by (with_reducible repeat (first | apply Kd.R_alloc | apply Kd.R_drewN | apply Kd.R_drew));exact HO296.out) hb);have n1_:=Aside0.mk (Kd.R_lower ho18 (below_size (by repeat (first | (with_reducible first | exact HB.out | apply below_alloc | apply pw_below_drewN | apply below_drew1) | exact HB.out))));have n2_:=Aside0.mk (below_step (by repeat (first | (with_reducible first | exact HB.out | apply below_alloc | apply pw_below_drewN | apply below_drew1) | exact HB.out)) hb);clear HO296;clear HB;have HO296:=n0_;have HO301:=n1_;have HB:=n2_;clear n0_ n1_ n2_;clear hb ho18))
      go_loopg [8] k (fun kq v8 w' => ∃ (x7_1 : List Bool) (x8_1 : List Int),Aside0 (impl_reach.l0 kq l0 l2 x7_1 x8_1 = some r) ∧ Aside0 (kq ≤ k) ∧ Aside0 (Kd.R Kd.bool 4 w' w.heap.size (fun _ => True) (.slice (some ⟨go12,0,none⟩) y294.length co12) x7_1) ∧ Aside0 (Kd.Q (Kd.int .i64) 3 w' w.heap.size (fun _ => True) v8 x8_1) ∧ Aside0 (Below w.heap.size w w'))
      case atStart => exact ⟨(y298),(y299),H',⟨Nat.le_refl _⟩,⟨by (with_reducible repeat (first | apply Kd.R_alloc | apply Kd.R_drewN | apply Kd.R_drew));exact HO296.out⟩,⟨Kd.Q_of_R (by (with_reducible repeat (first | apply Kd.R_alloc | apply Kd.R_drewN | apply Kd.R_drew));exact HO301.out)⟩,⟨by repeat (first | (with_reducible first | exact HB.out | apply below_alloc | apply pw_below_drewN | apply below_drew1) | exact HB.out)⟩⟩
      case round =>
       clear H'
       try clear c1
       try clear p1
       try clear q1
       try clear hx1
       try clear c2
       try clear p2
       try clear c4
       try clear c4b0
       try clear c4b1
       try clear c5
       try clear c5b0
       try clear c5b1
       try clear c7
       try clear c10
       try clear c10b0
       try clear c11
       try clear c11b0
       try clear p12
       try clear q12
       try clear hx12
       try clear hf12
       try clear hx12_0
       try clear p12
       try clear q12
       obtain ⟨x7_1,x8_1,HA,HK1,HO_7,HO_8,HB⟩:=hrel
       have hl7_1:=(Kd.R_reads' HO_7.out).1
       rw [hl7_1] at HO_7
       (try simp only [hl7_1])
       (try simp only [hl7_1] at HO_8)
       cases gk with
       | zero => exact absurd HA.out (by simp [impl_reach.l0])
       | succ k1 =>
        have H:=HA.out
        clear HA
        simp only [impl_reach.l0] at H
        by_cases c19 : (x8_1.length : Int) > 0
        ·rw [if_pos c19] at H
         have c19b0 : decide (0 < (x8_1.length : Int)) = true:=decide_eq_true c19
         (try (have c19b0_h:=c19b0;rw [hl7_1] at c19b0_h))
         have c19b1 : decide (0 < x8_1.length) = true:=decide_eq_true (by omega)
         (try (have c19b1_h:=c19b1;rw [hl7_1] at c19b1_h))
         clear c19
         by_cases c20 : 0 < (x8_1.length : Int)
         ·rw [if_pos c20] at H
          have c20b0 : decide (0 < (x8_1.length : Int)) = true:=decide_eq_true c20
          (try (have c20b0_h:=c20b0;rw [hl7_1] at c20b0_h))
          have c20b1 : decide (0 < x8_1.length) = true:=decide_eq_true (by omega)
          (try (have c20b1_h:=c20b1;rw [hl7_1] at c20b1_h))
          clear c20
          by_cases c21 : 0 ≤ (rd x8_1 0)
          ·rw [if_pos c21] at H
           have c21b0 : decide (0 ≤ (rd x8_1 0)) = true:=decide_eq_true c21
           clear c21
           by_cases c22 : (rd x8_1 0) < (l0.length : Int)
           ·rw [if_pos c22] at H
            have c22b0 : decide ((rd x8_1 0) < (l0.length : Int)) = true:=decide_eq_true c22
            (try (have c22b0_h:=c22b0;rw [hl7_1] at c22b0_h))
            clear c22
            have H':=Aside0.mk H
            clear H
            obtain ⟨Ao23,co23,eo23,_⟩:=Kd.Q_slice HO_8.out
            subst eo23
            have p302 : 0 ≤ (0 : Int):=(by omega)
            have q302 : 0 < (x8_1.length : Int):=of_decide_eq_true (by first | (with_reducible assumption) | assumption)
            obtain ⟨ad302,e302,hx302_0⟩:=Kd.at_int (Kd.Q_reads' HO_8.out).2.2 0 p302 q302
            cases e302
            have qi302 : (0 < x8_1.length) = True:=eq_true (by omega)
            (try rw [show ((0 : Int)).toNat = 0 from rfl] at hx302_0)
            (try rw [Addr.add_zero'] at hx302_0)
            replace p302:=eq_true p302
            replace q302:=eq_true q302
            have p303 : 0 ≤ ((rd x8_1 0) : Int):=of_decide_eq_true (by first | (with_reducible assumption) | assumption)
            have q303 : (rd x8_1 0) < (l0.length : Int):=of_decide_eq_true (by first | (with_reducible assumption) | assumption)
            obtain ⟨ad303,A303_0,c303_0,e303,hx303_0,hl303_0,hi303_0⟩:=at_L3 HR0.out (rd x8_1 0) p303 q303
            cases e303
            replace hx303_0:=(HB.out.cell (World.block_lt_of_cell? w _ hx303_0)).trans hx303_0
            have HR303_0:=Aside0.mk hi303_0
            have HC303_0:=Aside0.mk hl303_0
            clear hi303_0 hl303_0
            replace p303:=eq_true p303
            replace q303:=eq_true q303
            go_wp2
            go_loopg [8,35] k1 (fun kq v8 v35 w' => ∃ (x7_2 : List Bool) (x8_2 : List Int) (x35_2 : Int),v35 = .int .i64 x35_2 ∧ Aside0 (impl_reach.l1 kq l0 l2 x7_2 x8_2 (rd_L3 l0 (rd x8_1 0)) ((rd_L3 l0 (rd x8_1 0)).length : Int) x35_2 = some r) ∧ Aside0 (kq ≤ k1) ∧ Aside0 (Kd.R Kd.bool 4 w' w.heap.size (fun _ => True) (.slice (some ⟨go12,0,none⟩) x7_1.length co12) x7_2) ∧ Aside0 (Kd.Q (Kd.int .i64) 3 w' w.heap.size (fun _ => True) v8 x8_2) ∧ Aside0 (Below w.heap.size w w'))
            case atStart => exact ⟨(x7_1),(x8_1),(0),(by first | rfl | (simp;done) | (simp [*];done)),H',⟨Nat.le_refl _⟩,⟨by (try simp only [hl7_1]);(with_reducible repeat (first | apply Kd.R_alloc | apply Kd.R_drewN | apply Kd.R_drew));exact HO_7.out⟩,⟨by (try simp only [hl7_1]);(with_reducible repeat (first | apply Kd.Q_alloc | apply Kd.Q_drewN | apply Kd.Q_drew));exact HO_8.out⟩,⟨by repeat (first | (with_reducible first | exact HB.out | apply below_alloc | apply pw_below_drewN | apply below_drew1) | exact HB.out)⟩⟩
            case round =>
             clear H'
             try clear c1
             try clear p1
             try clear q1
             try clear hx1
             try clear c2
             try clear p2
             try clear c3
             try clear p3
             try clear q3
             try clear hx3
             try clear qi3
             try clear c4
             try clear c4b0
             try clear c4b1
             try clear c5
             try clear c5b0
             try clear c5b1
             try clear c7
             try clear c10
             try clear c10b0
             try clear c11
             try clear c11b0
             try clear p12
             try clear q12
             try clear hx12
             try clear hf12
             try clear c19
             try clear c19b0
             try clear c19b1
             try clear c20
             try clear c20b0
             try clear c20b1
             try clear c21
             try clear c21b0
             try clear c22
             try clear c22b0
             try clear hx12_0
             try clear hx302_0
             try clear hx303_0
             try clear p1
             try clear p12
             try clear p2
             try clear p302
             try clear p303
             try clear q1
             try clear q12
             try clear q302
             try clear q303
             obtain ⟨x7_2,x8_2,x35_2,rfl,HA,HK2,HO_7,HO_8,HB⟩:=hrel
             have hl7_2:=(Kd.R_reads' HO_7.out).1
             rw [hl7_2] at HO_7
             (try simp only [hl7_2])
             (try simp only [hl7_2] at HO_8)
             cases gk with
             | zero => exact absurd HA.out (by simp [impl_reach.l1])
             | succ k2 =>
              have H:=HA.out
              clear HA
              simp only [impl_reach.l1] at H
              by_cases c24 : x35_2 < ((rd_L3 l0 (rd x8_1 0)).length : Int)
              ·rw [if_pos c24] at H
               have c24b0 : decide (x35_2 < ((rd_L3 l0 (rd x8_1 0)).length : Int)) = true:=decide_eq_true c24
               (try (have c24b0_h:=c24b0;rw [hl7_2] at c24b0_h))
               clear c24
               by_cases c25 : 0 ≤ x35_2
               ·rw [if_pos c25] at H
                have c25b0 : decide (0 ≤ x35_2) = true:=decide_eq_true c25
                clear c25
                by_cases c26 : x35_2 < ((rd_L3 l0 (rd x8_1 0)).length : Int)
                ·rw [if_pos c26] at H
                 have c26b0 : decide (x35_2 < ((rd_L3 l0 (rd x8_1 0)).length : Int)) = true:=decide_eq_true c26
                 (try (have c26b0_h:=c26b0;rw [hl7_2] at c26b0_h))
                 clear c26
                 by_cases c27 : 0 ≤ (rd (rd_L3 l0 (rd x8_1 0)) x35_2)
                 ·rw [if_pos c27] at H
                  have c27b0 : decide (0 ≤ (rd (rd_L3 l0 (rd x8_1 0)) x35_2)) = true:=decide_eq_true c27
                  clear c27
                  by_cases c28 : (rd (rd_L3 l0 (rd x8_1 0)) x35_2) < (x7_2.length : Int)
                  ·rw [if_pos c28] at H
                   have c28b0 : decide ((rd (rd_L3 l0 (rd x8_1 0)) x35_2) < (x7_2.length : Int)) = true:=decide_eq_true c28
                   (try (have c28b0_h:=c28b0;rw [hl7_2] at c28b0_h))
                   clear c28
                   obtain ⟨bq29,hbq29⟩ : ∃ b_ : Bool,b_ = (rdOf false x7_2 (rd (rd_L3 l0 (rd x8_1 0)) x35_2)):=⟨_,rfl⟩
                   replace H : (if (bq29 = true) then (impl_reach.l1 k2 l0 l2 x7_2 x8_2 (rd_L3 l0 (rd x8_1 0)) ((rd_L3 l0 (rd x8_1 0)).length : Int) (wrap64 (x35_2 + 1))) else ((slices_Contains_int_int.f k2 l2 (rd (rd_L3 l0 (rd x8_1 0)) x35_2)).bind fun t306 => (if t306 = true then (impl_reach.l1 k2 l0 l2 x7_2 x8_2 (rd_L3 l0 (rd x8_1 0)) ((rd_L3 l0 (rd x8_1 0)).length : Int) (wrap64 (x35_2 + 1))) else (if x8_2.length < 17592186044416 then (impl_reach.l1 k2 l0 l2 (x7_2.set ((rd (rd_L3 l0 (rd x8_1 0)) x35_2) : Int).toNat true) (x8_2 ++ [rd (rd_L3 l0 (rd x8_1 0)) x35_2]) (rd_L3 l0 (rd x8_1 0)) ((rd_L3 l0 (rd x8_1 0)).length : Int) (wrap64 (x35_2 + 1))) else (none))))) = some r:=by rw [← hbq29] at H;exact H
                   have Nbq29:=Aside0.mk hbq29
                   clear hbq29
                   by_cases c30 : (bq29 = true)
                   ·subst c30
                    have H1 : (impl_reach.l1 k2 l0 l2 x7_2 x8_2 (rd_L3 l0 (rd x8_1 0)) ((rd_L3 l0 (rd x8_1 0)).length : Int) (wrap64 (x35_2 + 1))) = some r:=by rw [if_pos rfl] at H;exact H
                    clear H
                    have H:=H1
                    clear H1
                    have H':=Aside0.mk H
                    clear H
                    have p304 : 0 ≤ (x35_2 : Int):=of_decide_eq_true (by first | (with_reducible assumption) | assumption)
                    have q304 : x35_2 < ((rd_L3 l0 (rd x8_1 0)).length : Int):=of_decide_eq_true (by first | (with_reducible assumption) | assumption)
                    obtain ⟨ad304,e304,hx304_0⟩:=Kd.at_int HR303_0.out x35_2 p304 q304
                    cases e304
                    replace hx304_0:=(HB.out.cell (World.block_lt_of_cell? w _ hx304_0)).trans hx304_0
                    replace p304:=eq_true p304
                    replace q304:=eq_true q304
                    have p305 : 0 ≤ ((rd (rd_L3 l0 (rd x8_1 0)) x35_2) : Int):=of_decide_eq_true (by first | (with_reducible assumption) | assumption)
                    have q305 : (rd (rd_L3 l0 (rd x8_1 0)) x35_2) < (x7_2.length : Int):=of_decide_eq_true (by first | (with_reducible assumption) | assumption)
                    obtain ⟨ad305,e305,hx305_0⟩:=Kd.at_bool (Kd.R_reads' HO_7.out).2.2 (rd (rd_L3 l0 (rd x8_1 0)) x35_2) p305 q305
                    (try rw [← Nbq29.out] at hx305_0)
                    obtain rfl : (⟨go12,0,none⟩ : Addr) = ad305:=(by injection e305)
                    (first | simp only [add_plain] at hx305_0 | simp only [add_at] at hx305_0 | simp only [Addr.add,Nat.zero_add] at hx305_0 | skip)
                    replace p305:=eq_true p305
                    replace q305:=eq_true q305
                    go_wp2
                    (try simp only [← hl7_2])
                    go_roundg k2
                    case measure => have:=HK1.out;have:=HK2.out;omega
                    case rel => exact ⟨(x7_2),(x8_2),(wrap64 (x35_2 + 1)),(by first | rfl | (simp;done) | (simp [*];done)),H',⟨by have:=HK1.out;have:=HK2.out;omega⟩,⟨by (try simp only [hl7_1]);(try simp only [hl7_2]);(with_reducible repeat (first | apply Kd.R_alloc | apply Kd.R_drewN | apply Kd.R_drew));exact HO_7.out⟩,⟨by (try simp only [hl7_1]);(try simp only [hl7_2]);(with_reducible repeat (first | apply Kd.Q_alloc | apply Kd.Q_drewN | apply Kd.Q_drew));exact HO_8.out⟩,⟨by repeat (first | (with_reducible first | exact HB.out | apply below_alloc | apply pw_below_drewN | apply below_drew1) | exact HB.out)⟩⟩
                   ·replace c30:=Bool.eq_false_iff.mpr c30
                    subst c30
                    have H1 : ((slices_Contains_int_int.f k2 l2 (rd (rd_L3 l0 (rd x8_1 0)) x35_2)).bind fun t306 => (if t306 = true then (impl_reach.l1 k2 l0 l2 x7_2 x8_2 (rd_L3 l0 (rd x8_1 0)) ((rd_L3 l0 (rd x8_1 0)).length : Int) (wrap64 (x35_2 + 1))) else (if x8_2.length < 17592186044416 then (impl_reach.l1 k2 l0 l2 (x7_2.set ((rd (rd_L3 l0 (rd x8_1 0)) x35_2) : Int).toNat true) (x8_2 ++ [rd (rd_L3 l0 (rd x8_1 0)) x35_2]) (rd_L3 l0 (rd x8_1 0)) ((rd_L3 l0 (rd x8_1 0)).length : Int) (wrap64 (x35_2 + 1))) else (none)))) = some r:=by rw [if_neg (show ¬ (false = true) by decide)] at H;exact H
                    clear H
                    have H:=H1
                    clear H1
                    replace H:=Option.bind_eq_some_iff.mp H
                    obtain ⟨t306,A310,H⟩:=H
                    replace H : (if t306 = true then (impl_reach.l1 k2 l0 l2 x7_2 x8_2 (rd_L3 l0 (rd x8_1 0)) ((rd_L3 l0 (rd x8_1 0)).length : Int) (wrap64 (x35_2 + 1))) else (if x8_2.length < 17592186044416 then (impl_reach.l1 k2 l0 l2 (x7_2.set ((rd (rd_L3 l0 (rd x8_1 0)) x35_2) : Int).toNat true) (x8_2 ++ [rd (rd_L3 l0 (rd x8_1 0)) x35_2]) (rd_L3 l0 (rd x8_1 0)) ((rd_L3 l0 (rd x8_1 0)).length : Int) (wrap64 (x35_2 + 1))) else (none))) = some r:=H
                    have A31:=Aside0.mk A310
                    clear A310
                    by_cases c32 : t306 = true
                    ·subst c32
                     have H1 : (impl_reach.l1 k2 l0 l2 x7_2 x8_2 (rd_L3 l0 (rd x8_1 0)) ((rd_L3 l0 (rd x8_1 0)).length : Int) (wrap64 (x35_2 + 1))) = some r:=by rw [if_pos rfl] at H;exact H
                     clear H
                     have H:=H1
                     clear H1
                     have H':=Aside0.mk H
                     clear H
                     have p304 : 0 ≤ (x35_2 : Int):=of_decide_eq_true (by first | (with_reducible assumption) | assumption)
                     have q304 : x35_2 < ((rd_L3 l0 (rd x8_1 0)).length : Int):=of_decide_eq_true (by first | (with_reducible assumption) | assumption)
                     obtain ⟨ad304,e304,hx304_0⟩:=Kd.at_int HR303_0.out x35_2 p304 q304
                     cases e304
                     replace hx304_0:=(HB.out.cell (World.block_lt_of_cell? w _ hx304_0)).trans hx304_0
                     replace p304:=eq_true p304
                     replace q304:=eq_true q304
                     have p305 : 0 ≤ ((rd (rd_L3 l0 (rd x8_1 0)) x35_2) : Int):=of_decide_eq_true (by first | (with_reducible assumption) | assumption)
                     have q305 : (rd (rd_L3 l0 (rd x8_1 0)) x35_2) < (x7_2.length : Int):=of_decide_eq_true (by first | (with_reducible assumption) | assumption)
                     obtain ⟨ad305,e305,hx305_0⟩:=Kd.at_bool (Kd.R_reads' HO_7.out).2.2 (rd (rd_L3 l0 (rd x8_1 0)) x35_2) p305 q305
                     (try rw [← Nbq29.out] at hx305_0)
                     obtain rfl : (⟨go12,0,none⟩ : Addr) = ad305:=(by injection e305)
                     (first | simp only [add_plain] at hx305_0 | simp only [add_at] at hx305_0 | simp only [Addr.add,Nat.zero_add] at hx305_0 | skip)
                     replace p305:=eq_true p305
                     replace q305:=eq_true q305
                     go_wp2_with (first | (go_at_call 79;(with_reducible refine (slices_Contains_int_int.calls k2 _ _ l2 (rd (rd_L3 l0 (rd x8_1 0)) x35_2) true _ ?side1 ?side2 A31.out).mono ?_);(case side1 => repeat (first | exact (Kd.C_below HR2.out HB.out) | (with_reducible refine Kd.C_alloc ?_ _) | (with_reducible refine Kd.C_drewN ?_ _) | (with_reducible refine Kd.C_drew ?_)));(case side2 => exact HC2.out);rintro e w' ⟨rfl,⟨nd,rfl⟩⟩))
                     (try simp only [← hl7_2])
                     go_roundg k2
                     case measure => have:=HK1.out;have:=HK2.out;omega
                     case rel => exact ⟨(x7_2),(x8_2),(wrap64 (x35_2 + 1)),(by first | rfl | (simp;done) | (simp [*];done)),H',⟨by have:=HK1.out;have:=HK2.out;omega⟩,⟨by (try simp only [hl7_1]);(try simp only [hl7_2]);(with_reducible repeat (first | apply Kd.R_alloc | apply Kd.R_drewN | apply Kd.R_drew));exact HO_7.out⟩,⟨by (try simp only [hl7_1]);(try simp only [hl7_2]);(with_reducible repeat (first | apply Kd.Q_alloc | apply Kd.Q_drewN | apply Kd.Q_drew));exact HO_8.out⟩,⟨by repeat (first | (with_reducible first | exact HB.out | apply below_alloc | apply pw_below_drewN | apply below_drew1) | exact HB.out)⟩⟩
                    ·replace c32:=Bool.eq_false_iff.mpr c32
                     subst c32
                     have H1 : (if x8_2.length < 17592186044416 then (impl_reach.l1 k2 l0 l2 (x7_2.set ((rd (rd_L3 l0 (rd x8_1 0)) x35_2) : Int).toNat true) (x8_2 ++ [rd (rd_L3 l0 (rd x8_1 0)) x35_2]) (rd_L3 l0 (rd x8_1 0)) ((rd_L3 l0 (rd x8_1 0)).length : Int) (wrap64 (x35_2 + 1))) else (none)) = some r:=by rw [if_neg (show ¬ (false = true) by decide)] at H;exact H
                     clear H
                     have H:=H1
                     clear H1
                     obtain ⟨y307,hy307⟩ : ∃ y_ : List Bool,y_ = (x7_2.set ((rd (rd_L3 l0 (rd x8_1 0)) x35_2) : Int).toNat true):=⟨_,rfl⟩
                     replace H : (if x8_2.length < 17592186044416 then (impl_reach.l1 k2 l0 l2 y307 (x8_2 ++ [rd (rd_L3 l0 (rd x8_1 0)) x35_2]) (rd_L3 l0 (rd x8_1 0)) ((rd_L3 l0 (rd x8_1 0)).length : Int) (wrap64 (x35_2 + 1))) else (none)) = some r:=by first | (rw [hy307];with_reducible exact H) | (have H2_:=(Option.bind_some _ _).symm.trans H;rw [hy307];with_reducible exact H2_) | (have H2_:=(Option.bind_some _ _).symm.trans H;with_reducible exact H2_) | with_reducible exact H | (rw [hy307];exact H) | exact H
                     have Ny307:=Aside0.mk hy307
                     clear hy307
                     by_cases c34 : x8_2.length < 17592186044416
                     ·rw [if_pos c34] at H
                      have LMc34:=Aside0.mk c34
                      clear c34
                      obtain ⟨y308,hy308⟩ : ∃ y_ : List Int,y_ = (x8_2 ++ [rd (rd_L3 l0 (rd x8_1 0)) x35_2]):=⟨_,rfl⟩
                      replace H : (impl_reach.l1 k2 l0 l2 y307 y308 (rd_L3 l0 (rd x8_1 0)) ((rd_L3 l0 (rd x8_1 0)).length : Int) (wrap64 (x35_2 + 1))) = some r:=by first | (rw [hy308];with_reducible exact H) | (have H2_:=(Option.bind_some _ _).symm.trans H;rw [hy308];with_reducible exact H2_) | (have H2_:=(Option.bind_some _ _).symm.trans H;with_reducible exact H2_) | with_reducible exact H | (rw [hy308];exact H) | exact H
                      have Ny308:=Aside0.mk hy308
                      clear hy308
                      have H':=Aside0.mk H
                      clear H
                      have p304 : 0 ≤ (x35_2 : Int):=of_decide_eq_true (by first | (with_reducible assumption) | assumption)
                      have q304 : x35_2 < ((rd_L3 l0 (rd x8_1 0)).length : Int):=of_decide_eq_true (by first | (with_reducible assumption) | assumption)
                      obtain ⟨ad304,e304,hx304_0⟩:=Kd.at_int HR303_0.out x35_2 p304 q304
                      cases e304
                      replace hx304_0:=(HB.out.cell (World.block_lt_of_cell? w _ hx304_0)).trans hx304_0
                      replace p304:=eq_true p304
                      replace q304:=eq_true q304
                      have p305 : 0 ≤ ((rd (rd_L3 l0 (rd x8_1 0)) x35_2) : Int):=of_decide_eq_true (by first | (with_reducible assumption) | assumption)
                      have q305 : (rd (rd_L3 l0 (rd x8_1 0)) x35_2) < (x7_2.length : Int):=of_decide_eq_true (by first | (with_reducible assumption) | assumption)
                      obtain ⟨ad305,e305,hx305_0⟩:=Kd.at_bool (Kd.R_reads' HO_7.out).2.2 (rd (rd_L3 l0 (rd x8_1 0)) x35_2) p305 q305
                      (try rw [← Nbq29.out] at hx305_0)
                      obtain rfl : (⟨go12,0,none⟩ : Addr) = ad305:=(by injection e305)
                      (first | simp only [add_plain] at hx305_0 | simp only [add_at] at hx305_0 | simp only [Addr.add,Nat.zero_add] at hx305_0 | skip)
                      replace p305:=eq_true p305
                      replace q305:=eq_true q305
                      go_wp2_with (first | (go_at_call 79;(with_reducible refine (slices_Contains_int_int.calls k2 _ _ l2 (rd (rd_L3 l0 (rd x8_1 0)) x35_2) false _ ?side1 ?side2 A31.out).mono ?_);(case side1 => repeat (first | exact (Kd.C_below HR2.out HB.out) | (with_reducible refine Kd.C_alloc ?_ _) | (with_reducible refine Kd.C_drewN ?_ _) | (with_reducible refine Kd.C_drew ?_)));(case side2 => exact HC2.out);rintro e w' ⟨rfl,⟨nd,rfl⟩⟩;(try (rw [drewN_self wr];generalize hq_ : World.drewN wr _ = wr;have n0_ : Aside0 (Kd.R Kd.bool 4 wr w.heap.size (fun _ => True) (.slice (some ⟨go12,0,none⟩) x7_2.length co12) x7_2):=⟨by rw [← hq_];exact (by (with_reducible repeat (first | apply Kd.R_alloc | apply Kd.R_drewN | apply Kd.R_drew));exact HO_7.out)⟩;have n1_ : Aside0 (Kd.Q (Kd.int .i64) 3 wr w.heap.size (fun _ => True) u8 x8_2):=⟨by rw [← hq_];exact (by (with_reducible repeat (first | apply Kd.Q_alloc | apply Kd.Q_drewN | apply Kd.Q_drew));exact HO_8.out)⟩;have n2_ : Aside0 (Below w.heap.size w wr):=⟨by rw [← hq_];exact (by repeat (first | (with_reducible first | exact HB.out | apply below_alloc | apply pw_below_drewN | apply below_drew1) | exact HB.out))⟩;clear HO_7 HO_8 HB hq_;have HO_7:=n0_;have HO_8:=n1_;have HB:=n2_;clear n0_ n1_ n2_));have p33 : 0 ≤ ((rd (rd_L3 l0 (rd x8_1 0)) x35_2) : Int):=of_decide_eq_true (by first | (with_reducible assumption) | assumption);have q33 : ((rd (rd_L3 l0 (rd x8_1 0)) x35_2) : Int) < ((x7_2.length : Int) : Int):=of_decide_eq_true (by first | (with_reducible assumption) | assumption);obtain ⟨hx33_0,hf33_0⟩:=Kd.R_celln false HO_7.out ((rd (rd_L3 l0 (rd x8_1 0)) x35_2) : Int) p33 q33;replace p33:=eq_true p33;replace q33:=eq_true q33;obtain ⟨hy35_,hz35_⟩:=Kd.R_celln false HO_7.out ((rd (rd_L3 l0 (rd x8_1 0)) x35_2) : Int) (of_decide_eq_true (by first | (with_reducible assumption) | assumption)) (of_decide_eq_true (by first | (with_reducible assumption) | assumption));have HP35:=Kd.R_putg HO_7.out ((rd (rd_L3 l0 (rd x8_1 0)) x35_2) : Int) true) | ((with_reducible refine gate_store (t:=4) (p:=52) rfl ?_);refine store_event (t:=4) (p:=52) (v:=?vo_w36) (w1:=(wr.setCell ⟨go12,((rd (rd_L3 l0 (rd x8_1 0)) x35_2) : Int).toNat,none⟩ (.bool true))) ?hg ?ho ?hn ?hr ?_;(case ho => rfl);(case hg => rfl);(case hn => rfl);(case hr => first | (go_simp;done) | (go_simp;rfl));intro w36 hw;have hg : wr.grownBy w36 (some go12):=(by rw [hw];exact HP35.2);have hp_ : Kd.R Kd.bool 4 w36 w.heap.size (fun _ => True) (.slice (some ⟨go12,0,none⟩) x7_2.length co12) y307:=(by rw [hw,Ny307.out];exact HP35.1);clear HP35;have n0_:=Aside0.mk (hp_);have n1_:=Aside0.mk (Kd.Q_over' (v:=(.slice (some ⟨go12,0,none⟩) x7_2.length co12)) (by (with_reducible repeat (first | apply Kd.Q_alloc | apply Kd.Q_drewN | apply Kd.Q_drew));exact HO_8.out) (Kd.R_typed HO_7.out) (by decide) hg);have n2_:=Aside0.mk ((by rw [hw];exact below_set (HB.out) GB12.out : Below w.heap.size w w36));clear HO_7;clear HO_8;clear HB;have HO_7:=n0_;have HO_8:=n1_;have HB:=n2_;clear n0_ n1_ n2_;clear hg hw hp_) | ((with_reducible refine gate_builtin (b:=.append) (xs:=#[.tmp 53,.tmp 55]) rfl ?_);at_builtin;refine Kd.Q_append (Kd.int .i64) (w0:=w) w.heap.size rfl (.tmp 53) (.tmp 55) 37 3 (.int .i64 0) 8 rfl Try.underlying37 info3 rfl (by decide) (by omega) u8 x8_2 (rd (rd_L3 l0 (rd x8_1 0)) x35_2) [.int .i64 (rd (rd_L3 l0 (rd x8_1 0)) x35_2)] (fun _ => True) (fun _ => False) rfl rfl ?aP (fun _ hk => hk.elim) ?aF ?aO ?aB ?aS ?aL ?_;(case aP => exact rfl);(case aB => exact (by repeat (first | (with_reducible first | exact HB.out | apply below_alloc | apply pw_below_drewN | apply below_drew1) | exact HB.out)));(case aF => exact (fun _ _ => trivial));(case aO => exact (by (with_reducible repeat (first | apply Kd.Q_alloc | apply Kd.Q_drewN | apply Kd.Q_drew));exact HO_8.out));(case aS => exact (below_size (by repeat (first | (with_reducible first | exact HB.out | apply below_alloc | apply pw_below_drewN | apply below_drew1) | exact HB.out))));(case aL => have:=LMc34.out;omega);intro v309 w37 ho hb hg hat;rw [← Ny308.out] at ho;have n0_:=Aside0.mk (Kd.R_over' (by (with_reducible repeat (first | apply Kd.R_alloc | apply Kd.R_drewN | apply Kd.R_drew));exact HO_7.out) (Kd.Q_typed (by (with_reducible repeat (first | apply Kd.Q_alloc | apply Kd.Q_drewN | apply Kd.Q_drew));exact HO_8.out)) (by decide) hg);have n1_:=Aside0.mk (hb);have n2_:=Aside0.mk (ho);clear HO_7;clear HB;clear HO_8;have HO_7:=n0_;have HB:=n1_;have HO310:=n2_;clear n0_ n1_ n2_;clear ho hb hg hat))
                      (try simp only [← hl7_2])
                      go_roundg k2
                      case measure => have:=HK1.out;have:=HK2.out;omega
                      case rel => exact ⟨(y307),(y308),(wrap64 (x35_2 + 1)),(by first | rfl | (simp;done) | (simp [*];done)),H',⟨by have:=HK1.out;have:=HK2.out;omega⟩,⟨by (try simp only [hl7_1]);(try simp only [hl7_2]);(with_reducible repeat (first | apply Kd.R_alloc | apply Kd.R_drewN | apply Kd.R_drew));exact HO_7.out⟩,⟨by (try simp only [hl7_1]);(try simp only [hl7_2]);(with_reducible repeat (first | apply Kd.Q_alloc | apply Kd.Q_drewN | apply Kd.Q_drew));exact HO310.out⟩,⟨by repeat (first | (with_reducible first | exact HB.out | apply below_alloc | apply pw_below_drewN | apply below_drew1) | exact HB.out)⟩⟩
                     ·rw [if_neg c34] at H
                      exact absurd H (by simp)
                  ·rw [if_neg c28] at H
                   exact absurd H (by simp)
                 ·rw [if_neg c27] at H
                  exact absurd H (by simp)
                ·rw [if_neg c26] at H
                 exact absurd H (by simp)
               ·rw [if_neg c25] at H
                exact absurd H (by simp)
              ·rw [if_neg c24] at H
               have c24b0 : decide (x35_2 < ((rd_L3 l0 (rd x8_1 0)).length : Int)) = false:=decide_eq_false c24
               (try (have c24b0_h:=c24b0;rw [hl7_2] at c24b0_h))
               clear c24
               by_cases c38 : 1 ≤ (x8_2.length : Int)
               ·rw [if_pos c38] at H
                have c38b0:=eq_true c38
                have c38b1 : decide (1 ≤ (x8_2.length : Int)) = true:=decide_eq_true c38
                (try (have c38b1_h:=c38b1;rw [hl7_2] at c38b1_h))
                clear c38
                obtain ⟨y311,hy311⟩ : ∃ y_ : List Int,y_ = (x8_2.drop (1 : Int).toNat):=⟨_,rfl⟩
                replace H : (impl_reach.l0 k2 l0 l2 x7_2 y311) = some r:=by first | (rw [hy311];with_reducible exact H) | (have H2_:=(Option.bind_some _ _).symm.trans H;rw [hy311];with_reducible exact H2_) | (have H2_:=(Option.bind_some _ _).symm.trans H;with_reducible exact H2_) | with_reducible exact H | (rw [hy311];exact H) | exact H
                have Ny311:=Aside0.mk hy311
                clear hy311
                have H':=Aside0.mk H
                clear H
                obtain ⟨Ao39,co39,eo39,_⟩:=Kd.Q_slice HO_8.out
                subst eo39
                have q40 : (1 : Int) ≤ ((x8_2.length : Int) : Int):=of_decide_eq_true (by first | (with_reducible assumption) | assumption)
                obtain ⟨i040,hi040,_,hsz40,_⟩:=info_parts info3
                have hcut40:=cut_from (P:=Try.prog) 37 3 .i64 Try.underlying37 hi040 1 hsz40 Ao39 x8_2.length co39 1 (by omega) q40
                have hr40:=Kd.Q_drop (k:=(1 : Int).toNat) HO_8.out (by omega)
                obtain ⟨A40,hA40⟩ : ∃ A1,A1 = (if co39 = (1 : Int).toNat then Ao39 else (Ao39 : Option Addr).map (·.add ((1 : Int).toNat * 1))):=⟨_,rfl⟩
                obtain ⟨c40,hc40⟩ : ∃ c1,c1 = co39 - (1 : Int).toNat:=⟨_,rfl⟩
                have hy40 : y311.length = x8_2.length - (1 : Int).toNat:=(by rw [Ny311.out,List.length_drop])
                rw [← Ny311.out] at hr40
                rw [← hy40,← hA40,← hc40] at hcut40
                replace hr40 : Kd.Q (Kd.int .i64) 3 wr w.heap.size (fun _ => True) (.slice A40 y311.length c40) y311:=(by rw [hA40,hc40,hy40];exact hr40)
                have HE40 : Aside0 ((Value.slice A40 y311.length c40).ownBlock = (.slice Ao39 x8_2.length co39 : Value).ownBlock):=⟨by rw [hA40];split <;> (cases (Ao39 : Option Addr) <;> rfl)⟩
                clear hy40 hi040 hsz40 HO_8 hA40 hc40
                have HO313:=Aside0.mk hr40
                clear hr40
                replace q40:=eq_true q40
                go_wp2
                (try simp only [← hl7_1,← hl7_2])
                go_roundg k2
                case measure => have:=HK1.out;have:=HK2.out;omega
                case rel => exact ⟨(x7_2),(y311),H',⟨by have:=HK1.out;have:=HK2.out;omega⟩,⟨by (try simp only [hl7_1]);(try simp only [hl7_2]);(with_reducible repeat (first | apply Kd.R_alloc | apply Kd.R_drewN | apply Kd.R_drew));exact HO_7.out⟩,⟨by (try simp only [hl7_1]);(try simp only [hl7_2]);(with_reducible repeat (first | apply Kd.Q_alloc | apply Kd.Q_drewN | apply Kd.Q_drew));exact HO313.out⟩,⟨by repeat (first | (with_reducible first | exact HB.out | apply below_alloc | apply pw_below_drewN | apply below_drew1) | exact HB.out)⟩⟩
               ·rw [if_neg c38] at H
                exact absurd H (by simp)
           ·rw [if_neg c22] at H
            exact absurd H (by simp)
          ·rw [if_neg c21] at H
           exact absurd H (by simp)
         ·rw [if_neg c20] at H
          exact absurd H (by simp)
        ·rw [if_neg c19] at H
         have c19b0 : decide (0 < (x8_1.length : Int)) = false:=decide_eq_false c19
         (try (have c19b0_h:=c19b0;rw [hl7_1] at c19b0_h))
         have c19b1 : decide (0 < x8_1.length) = false:=decide_eq_false (by omega)
         (try (have c19b1_h:=c19b1;rw [hl7_1] at c19b1_h))
         clear c19
         obtain rfl:=Option.some.inj H
         obtain ⟨Ao41,co41,eo41,_⟩:=Kd.Q_slice HO_8.out
         subst eo41
         go_wp2
         go_ret
         exact ⟨_,by first | rfl | (simp [errW_none,errW_some] <;> rfl) | (simp [*,errW_none,errW_some] <;> rfl),by (with_reducible repeat (first | apply Kd.R_alloc | apply Kd.R_drewN | apply Kd.R_drew));exact HO_7.out,by repeat (first | (with_reducible first | exact HB.out | apply below_alloc | apply pw_below_drewN | apply below_drew1) | exact HB.out)⟩
     ·rw [if_neg c11] at H
      exact absurd H (by simp)
    ·rw [if_neg c10] at H
     exact absurd H (by simp)
  ·rw [if_neg c5] at H
   exact absurd H (by simp)
 ·rw [if_neg c4] at H
  exact absurd H (by simp)

/-! ### slices_Clone_int_int: function 75 (by hand: a row compared with nil) -/
def slices_Clone_int_int.f (l0 : List Int) : Option (List Int):=if l0.length < 17592186044416 then some l0 else none
/-- A row compared with nil. -/
theorem run_eql_rownil {P : Program} (w : World) (t e : TypeId) (a : Option Addr) (n c : Nat) (h : P.underlying t = some (.slice e)) : (binOp .eql t (.slice a n c) (.slice none 0 0)).run P w = .ok (.bool a.isNone) w:=by
 have h1 : ∀ d,(Op.equalIn (d + 1) t (.slice a n c) (.slice none 0 0)).run P w = .ok a.isNone w:=fun d => by cases a <;> simp [Op.equalIn,run_underlying h]
 simp only [binOp]
 simp [Op.equal,Op.maxDepth,h1 9999]
/-- An empty literal of numbers, just laid. -/
theorem R_lit0n (E : Nat) (W : World) : (Kd.int .i64).R E (W.alloc (.cells #[] E)) W.heap.size (fun _ => True) (.slice (some ⟨W.heap.size,0,none⟩) 0 0) ([] : List Int):=by
 refine ⟨fun _ _ => trivial,[],?_,⟨by simp,fun j p hj => by simp at hj⟩⟩
 have h2:=World.ownsRow_lit (base:=W.heap.size) (e:=E) (size:=1) W #[] 0 (Nat.le_refl _) (by simp [maxLen]) (by simp)
 change (W.alloc (.cells #[] E)).ownsRow W.heap.size E 1 _ 0 []
 simpa using h2
set_option maxHeartbeats 8000000 in
set_option maxRecDepth 100000 in
theorem slices_Clone_int_int.calls (A0 : Option Addr) (c0 : Nat) (l0 : List Int) (r : List Int) (w : World) (hr0 : Kd.C (Kd.int .i64) w A0 l0.length l0) (hc0 : l0.length ≤ c0) (h : slices_Clone_int_int.f l0 = some r) :
  Calls Try.prog 75 #[.slice A0 l0.length c0] w fun e w' => ∃ v0_ : Value,e = .returned (v0_) ∧ (Kd.int .i64).R 3 w' w.heap.size (fun _ => True) v0_ r ∧ Below w.heap.size w w':=by
 have HR0:=Aside0.mk hr0
 have HC0:=Aside0.mk hc0
 unfold slices_Clone_int_int.f at h
 by_cases c1 : l0.length < 17592186044416
 rotate_left
 ·rw [if_neg c1] at h;exact absurd h (by simp)
 rw [if_pos c1] at h
 obtain rfl:=Option.some.inj h
 have heq:=fun W => run_eql_rownil (P:=Try.prog) W 37 3 A0 l0.length c0 Try.underlying37
 have HLM:=Aside0.mk c1
 cases A0 with
 | none =>
  simp only [Option.isNone_none] at heq
  have hn : l0 = []:=by
   cases l0 with
   | nil => rfl
   | cons x q =>
    obtain ⟨_,e1,_⟩:=Kd.at_int hr0 0 (by omega) (by simp)
    cases e1
  subst hn
  simp only [List.length_nil] at heq
  clear h hr0 hc0 c1
  go_enter Try.func75,Try.ntmps75
  go_wp2
  go_ret
  exact ⟨_,rfl,Kd.R_nil _ _ _ _ _,Below.refl _ _⟩
 | some ad =>
  simp only [Option.isNone_some] at heq
  have hLit:=Aside0.mk (R_lit0n 3 w)
  have hBel:=Aside0.mk (below_alloc (Below.refl w.heap.size w) (.cells #[] 3))
  clear h hr0 hc0 c1
  go_enter Try.func75,Try.ntmps75
  go_wp2_with (first | ((with_reducible refine gate_builtin (b:=.append) (xs:=#[.tmp 5,.tmp 6]) rfl ?_);at_builtin;refine Kd.R_append_rows (Kd.int .i64) (w0:=w) w.heap.size rfl (.tmp 5) (.tmp 6) 37 3 (.int .i64 0) 8 rfl Try.underlying37 (by kernel_rfl) rfl (by decide) (by omega) (.slice (some ⟨w.heap.size,0,none⟩) 0 0) ([] : List Int) l0 _ _ _ (fun _ => True) (fun _ => False) rfl rfl ?aO ?aR (fun _ _ h => h) (fun _ h => h.elim) ?aF ?aB ?aS ?aL ?_;(case aR => exact Kd.C_below HR0.out hBel.out);(case aO => exact hLit.out);(case aF => exact fun _ _ => trivial);(case aB => exact hBel.out);(case aS => exact hBel.out.size);(case aL => have:=HLM.out;simp;omega);intro v7 w7 ho hb hg hat;rw [List.nil_append] at ho;obtain ⟨Av,cv,ev⟩:=Kd.R_slice ho;subst ev;have HO:=Aside0.mk ho;have HB:=Aside0.mk hb;clear ho hb hg hat))
  go_ret
  exact ⟨_,rfl,HO.out,HB.out⟩

/-! ### bits_Mul32: function 108 -/
def bits_Mul32.f (a0 : Int) (a1 : Int) : Option (Int × Int):=some (((IntKind.u64.wrap ((IntKind.u64.wrap (a0)) * (IntKind.u64.wrap (a1)))) / 4294967296) % 4294967296,(IntKind.u64.wrap ((IntKind.u64.wrap (a0)) * (IntKind.u64.wrap (a1)))) % 4294967296)
set_option maxHeartbeats 8000000 in
set_option maxRecDepth 100000 in
theorem bits_Mul32.calls (a0 : Int) (a1 : Int) (r1 : Int) (r2 : Int) (w : World) (h : bits_Mul32.f a0 a1 = some (r1,r2)) :
  Calls Try.prog 108 #[.int .u32 a0,.int .u32 a1] w fun e w' => e = .returned (.tuple #[.int .u32 r1,.int .u32 r2]) ∧ Drawn0 w w':=by
 have H : (some (((IntKind.u64.wrap ((IntKind.u64.wrap (a0)) * (IntKind.u64.wrap (a1)))) / 4294967296) % 4294967296,(IntKind.u64.wrap ((IntKind.u64.wrap (a0)) * (IntKind.u64.wrap (a1)))) % 4294967296)) = some (r1,r2):=h
 clear h
 simp only [Option.some.injEq,Prod.mk.injEq] at H
 obtain ⟨rfl,rfl⟩:=H
 go_enter Try.func108,Try.ntmps108
 go_wp2
 go_ret2
 exact ⟨by first | rfl | (simp;done) | (simp [*];done),by repeat (first | exact Drawn0.refl _ | apply Drawn0.step)⟩

/-! ### bits_Mul64: function 109 -/
def bits_Mul64.f (a0 : Int) (a1 : Int) : Option (Int × Int):=some (IntKind.u64.wrap ((IntKind.u64.wrap ((IntKind.u64.wrap ((a0 / 4294967296) * (a1 / 4294967296))) + ((IntKind.u64.wrap ((IntKind.u64.wrap ((a0 / 4294967296) * (Go.bits .and .u64 a1 4294967295))) + ((IntKind.u64.wrap ((Go.bits .and .u64 a0 4294967295) * (Go.bits .and .u64 a1 4294967295))) / 4294967296))) / 4294967296))) + ((IntKind.u64.wrap ((Go.bits .and .u64 (IntKind.u64.wrap ((IntKind.u64.wrap ((a0 / 4294967296) * (Go.bits .and .u64 a1 4294967295))) + ((IntKind.u64.wrap ((Go.bits .and .u64 a0 4294967295) * (Go.bits .and .u64 a1 4294967295))) / 4294967296))) 4294967295) + (IntKind.u64.wrap ((Go.bits .and .u64 a0 4294967295) * (a1 / 4294967296))))) / 4294967296)),IntKind.u64.wrap (a0 * a1))
set_option maxHeartbeats 8000000 in
set_option maxRecDepth 100000 in
theorem bits_Mul64.calls (a0 : Int) (a1 : Int) (r1 : Int) (r2 : Int) (w : World) (h : bits_Mul64.f a0 a1 = some (r1,r2)) :
  Calls Try.prog 109 #[.int .u64 a0,.int .u64 a1] w fun e w' => e = .returned (.tuple #[.int .u64 r1,.int .u64 r2]) ∧ Drawn0 w w':=by
 have H : (some (IntKind.u64.wrap ((IntKind.u64.wrap ((IntKind.u64.wrap ((a0 / 4294967296) * (a1 / 4294967296))) + ((IntKind.u64.wrap ((IntKind.u64.wrap ((a0 / 4294967296) * (Go.bits .and .u64 a1 4294967295))) + ((IntKind.u64.wrap ((Go.bits .and .u64 a0 4294967295) * (Go.bits .and .u64 a1 4294967295))) / 4294967296))) / 4294967296))) + ((IntKind.u64.wrap ((Go.bits .and .u64 (IntKind.u64.wrap ((IntKind.u64.wrap ((a0 / 4294967296) * (Go.bits .and .u64 a1 4294967295))) + ((IntKind.u64.wrap ((Go.bits .and .u64 a0 4294967295) * (Go.bits .and .u64 a1 4294967295))) / 4294967296))) 4294967295) + (IntKind.u64.wrap ((Go.bits .and .u64 a0 4294967295) * (a1 / 4294967296))))) / 4294967296)),IntKind.u64.wrap (a0 * a1))) = some (r1,r2):=h
 clear h
 simp only [Option.some.injEq,Prod.mk.injEq] at H
 obtain ⟨rfl,rfl⟩:=H
 go_enter Try.func109,Try.ntmps109
 go_wp2
 go_ret2
 exact ⟨by first | rfl | (simp;done) | (simp [*];done),by repeat (first | exact Drawn0.refl _ | apply Drawn0.step)⟩

/-! ### bits_Mul: function 95 -/
def bits_Mul.f (a0 : Int) (a1 : Int) : Option (Int × Int):=(bits_Mul64.f a0 a1).bind fun bt314 => (some (bt314.1,bt314.2))
set_option maxHeartbeats 8000000 in
set_option maxRecDepth 100000 in
theorem bits_Mul.calls (a0 : Int) (a1 : Int) (r1 : Int) (r2 : Int) (w : World) (h : bits_Mul.f a0 a1 = some (r1,r2)) :
  Calls Try.prog 95 #[.int .u64 a0,.int .u64 a1] w fun e w' => e = .returned (.tuple #[.int .u64 r1,.int .u64 r2]) ∧ Drawn0 w w':=by
 have H : ((bits_Mul64.f a0 a1).bind fun bt314 => (some (bt314.1,bt314.2))) = some (r1,r2):=h
 clear h
 replace H:=Option.bind_eq_some_iff.mp H
 obtain ⟨⟨t314,t315⟩,A30,H⟩:=H
 replace H : (some (t314,t315)) = some (r1,r2):=H
 have A3:=Aside0.mk A30
 clear A30
 simp only [Option.some.injEq,Prod.mk.injEq] at H
 obtain ⟨rfl,rfl⟩:=H
 go_enter Try.func95,Try.ntmps95
 go_wp2_with (first | ((with_reducible refine gate_callee (f:=109) rfl ?_);refine goesL_ (some 25) rfl rfl Try.func109 (by kernel_rfl) rfl #[.int .u64 a0,.int .u64 a1] rfl (by (try simp only [List.map_toArray,List.map_cons,List.map_nil]);first | done | rfl | (simp only [List.length_drop,List.length_take];rfl)) ?_;(with_reducible refine (bits_Mul64.calls a0 a1 t314 t315 _ A3.out).mono ?_);rintro e w' ⟨rfl,⟨nd,rfl⟩⟩;refine ⟨_,rfl,?_⟩))
 go_ret2
 exact ⟨by first | rfl | (simp;done) | (simp [*];done),by repeat (first | exact Drawn0.refl _ | apply Drawn0.step)⟩

/-! ### slices_Repeat_int_int: function 81 (by hand: one number, told again and again) -/
def slices_Repeat_int_int.f (l : List Int) (n : Int) : Option (List Int):=match l with
 | [z] => if 0 ≤ n ∧ n ≤ 64 then some (List.replicate n.toNat z) else none
 | _ => none
theorem mul_one64 : ∀ m : Nat,m < 65 → bits_Mul.f 1 (m : Int) = some (0,(m : Int)):=by decide +kernel
/-- z, m times, behind it noughts: n cells in all. -/
def repCells (z : Int) (n m : Nat) : List Value:=List.replicate m (.int .i64 z) ++ List.replicate (n - m) (.int .i64 0)
theorem made_cells (n : Nat) (z : Int) : madeCells #[.int .i64 0] n = (repCells z n 0).toArray:=by
 apply Array.ext
 ·simp [size_madeCells,repCells]
 ·intro i h1 h2
  simp [madeCells,repCells,Nat.mod_one]
theorem repCells_splice (z : Int) (n m c : Nat) (h : m + c ≤ n) : splice (repCells z n m) m (List.replicate c (.int .i64 z)) = repCells z n (m + c):=by
 unfold splice repCells
 rw [List.take_append,List.drop_append,List.length_replicate,List.length_replicate]
 simp only [List.take_replicate,List.drop_replicate]
 rw [show min m m = m by omega,show min (m - m) (n - m) = 0 by omega,show m - (m + c) = 0 by omega,show m + c - m = c by omega,show n - m - c = n - (m + c) by omega]
 simp only [List.replicate_zero,List.append_nil,List.nil_append]
 rw [← List.append_assoc,List.replicate_append_replicate]
theorem repCells_length (z : Int) (n m : Nat) (h : m ≤ n) : (repCells z n m).length = n:=by simp [repCells];omega
theorem repCells_cell {W : World} {g t : Nat} {z : Int} {n m : Nat} (h : W.heap[g]? = some (.cells (repCells z n m).toArray t (0,0))) (j : Nat) (hj : j < m) : W.cell? ⟨g,j,none⟩ = some (.int .i64 z):=by
 rw [blk_cell h]
 simp [repCells,List.getElem?_append,hj]
theorem repCells_R {W : World} {g t base : Nat} {z : Int} {n : Nat} (h : W.heap[g]? = some (.cells (repCells z n n).toArray t (0,0))) (hb : base ≤ g) (hn : n ≤ 64) : (Kd.int .i64).R t W base (fun _ => True) (.slice (some ⟨g,0,none⟩) n n) (List.replicate n z):=by
 have e1 : repCells z n n = encs (Value.int .i64) (List.replicate n z):=by simp [repCells,encs]
 have hl : (List.replicate n z).length = n:=by simp
 have:=Kd.R_of_own (enc:=Value.int .i64) (h1:=fun _ => rfl) (e:=t) (w:=W) (base:=base) (ok:=fun _ => True) (v:=.slice (some ⟨g,0,none⟩) n n) (xs:=List.replicate n z) ⟨by rw [encs_length,Nat.mul_one],.inr ⟨g,n,_,by rw [hl],hb,h,by rw [hl];exact Nat.le_refl _,by unfold maxLen;omega,by simp [repCells_length],by rw [hl,e1,Nat.mul_one];exact List.take_of_length_le (by simp [encs_length])⟩⟩ (fun _ _ => trivial)
 exact this
theorem rep_get {m j : Nat} {z : Int} {v : Value} (h : (List.replicate m (Value.int .i64 z))[j]? = some v) : j < m ∧ v = .int .i64 z:=by
 rw [List.getElem?_replicate] at h
 by_cases hj : j < m
 ·rw [if_pos hj] at h;exact ⟨hj,(Option.some.inj h).symm⟩
 ·rw [if_neg hj] at h;exact absurd h (by simp)
theorem rp_pos {W : World} {ad : Addr} {z : Int} {m0 : Nat} (g : Nat) (hx : W.cell? (ad.add 0) = some (.int .i64 z)) (h1 : m0 ≤ 1) : 0 < (List.replicate m0 (Value.int .i64 z)).length → (some ⟨g,0,none⟩ : Option Addr) = some ⟨g,0,none⟩ ∧ ∃ a,some ad = some a ∧ ∀ j v,(List.replicate m0 (Value.int .i64 z))[j]? = some v → W.cell? (a.add j) = some v:=by
 intro _
 refine ⟨rfl,ad,rfl,fun j v hv => ?_⟩
 obtain ⟨hj,rfl⟩:=rep_get hv
 obtain rfl : j = 0:=by omega
 exact hx
theorem rp_pos2 {W : World} {g t n m c : Nat} {z : Int} (h : W.heap[g]? = some (.cells (repCells z n m).toArray t (0,0))) (hc : c ≤ m) : 0 < (List.replicate c (Value.int .i64 z)).length → (some ⟨g,m,none⟩ : Option Addr) = some ⟨g,m,none⟩ ∧ ∃ a,(some ⟨g,0,none⟩ : Option Addr) = some a ∧ ∀ j v,(List.replicate c (Value.int .i64 z))[j]? = some v → W.cell? (a.add j) = some v:=by
 intro _
 refine ⟨rfl,_,rfl,fun j v hv => ?_⟩
 obtain ⟨hj,rfl⟩:=rep_get hv
 rw [add_plain]
 exact repCells_cell h j (by omega)
theorem rp_one {c : Nat} {z : Int} : ∀ v ∈ List.replicate c (Value.int .i64 z),v.oneCell' = true:=by
 intro v hv
 rw [List.eq_of_mem_replicate hv];simp [Value.oneCell']
set_option maxHeartbeats 8000000 in
set_option maxRecDepth 100000 in
theorem slices_Repeat_int_int.calls (A0 : Option Addr) (c0 : Nat) (l0 : List Int) (a1 : Int) (r : List Int) (w : World) (hr0 : Kd.C (Kd.int .i64) w A0 l0.length l0) (hc0 : l0.length ≤ c0) (h : slices_Repeat_int_int.f l0 a1 = some r) :
  Calls Try.prog 81 #[.slice A0 l0.length c0,.int .i64 a1] w fun e w' => ∃ v0_ : Value,e = .returned (v0_) ∧ (Kd.int .i64).R 3 w' w.heap.size (fun _ => True) v0_ r ∧ Below w.heap.size w w':=by
 cases l0 with
 | nil => simp [slices_Repeat_int_int.f] at h
 | cons z q =>
  cases q with
  | cons _ _ => simp [slices_Repeat_int_int.f] at h
  | nil =>
   unfold slices_Repeat_int_int.f at h
   dsimp only at h
   by_cases c1 : 0 ≤ a1 ∧ a1 ≤ 64
   rotate_left
   ·rw [if_neg c1] at h;exact absurd h (by simp)
   rw [if_pos c1] at h
   obtain rfl:=Option.some.inj h
   obtain ⟨n,rfl⟩ : ∃ n : Nat,a1 = (n : Int):=⟨a1.toNat,by omega⟩
   have hn : n ≤ 64:=by omega
   rw [Int.toNat_natCast]
   obtain ⟨ad,e1,hx⟩:=Kd.at_int hr0 0 (by omega) (by simp)
   cases e1
   have HX : Aside0 (w.cell? (ad.add 0) = some (.int .i64 z)):=⟨hx⟩
   have HM:=Aside0.mk (mul_one64 n (by omega))
   have HN:=Aside0.mk hn
   have hu1 : IntKind.u64.wrap 1 = 1:=by decide
   have hun : IntKind.u64.wrap (n : Int) = n:=by
    have h2 : (2 : Int) ^ IntKind.u64.bits = 18446744073709551616:=rfl
    simp only [IntKind.wrap]
    rw [h2]
    first | omega | (simp [IntKind.signed];omega)
   have hin : IntKind.i64.wrap (n : Int) = n:=by rw [i64_w];unfold wrap64;omega
   have hmk:=fun W => run_make_row' (P:=Try.prog) 37 3 (.int .i64 0) 8 Try.underlying37 (by kernel_rfl) rfl .i64 .i64 n (by omega) (by omega) W
   have hlt : decide ((n : Int) < 0) = false:=decide_eq_false (by omega)
   have hgt : decide ((0 : Int) > 0) = false:=rfl
   have hgt2 : decide ((n : Int) > 9223372036854775807) = false:=decide_eq_false (by omega)
   have HG:=Aside0.mk (heap_alloc_new w (.cells (madeCells #[.int .i64 0] n) 3))
   obtain ⟨m0,HM0⟩ : ∃ m0 : Nat,Aside0 (m0 = Nat.min 1 n ∧ m0 ≤ 1 ∧ m0 ≤ n ∧ (0 < m0 ∨ n = 0)):=by
    cases n with
    | zero => exact ⟨0,⟨by rfl,by omega,by omega,by omega⟩⟩
    | succ q => exact ⟨1,⟨by simp [Nat.min_def],by omega,by omega,by omega⟩⟩
   simp only [List.length_singleton]
   clear h hr0 hc0 c1 hx hn
   go_enter Try.func81,Try.ntmps81
   go_wp2_with (first | (go_at_call 95;refine (bits_Mul.calls 1 (n : Int) 0 (n : Int) _ HM.out).mono ?_;rintro e w2 ⟨rfl,⟨nd,rfl⟩⟩) | (with_reducible refine wpList_copy_splice rfl (.tmp 31) (.tmp 32) 37 37 rfl 3 Try.underlying37 (by kernel_rfl) (some ⟨w.heap.size,0,none⟩) (some ad) n n 1 c0 rfl rfl w.heap.size 0 (repCells z n 0) 3 ?hg (List.replicate m0 (.int .i64 z)) ?hn ?hpos ?hfit ?h1 w.heap.size w ?hb (Nat.le_refl _) ?_;(case hg => rw [← made_cells n z];have h_:=heap_alloc_new (w.drewN nd) (.cells (madeCells #[.int .i64 0] n) 3);first | exact h_ | simpa using h_);(case hn => rw [List.length_replicate];exact HM0.out.1);(case hpos => exact rp_pos w.heap.size (pw_cell_below (below_alloc (pw_below_drewN (Below.refl _ _) nd) _) HX.out) HM0.out.2.1);(case hfit => rw [repCells_length z n 0 (Nat.zero_le _),List.length_replicate];have hm_:=HM0.out.2.2.1;omega);(case h1 => intro v hv;rw [List.eq_of_mem_replicate hv];simp [Value.oneCell']);(case hb => exact below_alloc (pw_below_drewN (Below.refl _ _) _) _);intro w3 hg3 hb3;have HG3:=Aside0.mk hg3.out;have HB3:=Aside0.mk hb3;clear hg3 hb3))
   have HG4:=Aside0.mk (by have h2:=HG3.out;have h3:=repCells_splice z n 0 m0 (by have:=HM0.out;omega);rw [h3,Nat.zero_add] at h2;exact h2)
   clear HG3
   (try simp only [List.length_replicate,goInt])
   go_loopg [8] n (fun kq v8 w' => ∃ m : Nat,v8 = .int .i64 (m : Int) ∧ Aside0 (m ≤ n ∧ (0 < m ∨ n = 0) ∧ n - m ≤ kq) ∧ Aside0 (w'.heap[w.heap.size]? = some (.cells (repCells z n m).toArray 3 (0,0))) ∧ Aside0 (Below w.heap.size w w'))
   case atStart => exact ⟨m0,rfl,⟨by have:=HM0.out;omega,by have:=HM0.out;omega,by omega⟩,HG4,HB3⟩
   case round =>
    clear HG4 HB3 HM0
    obtain ⟨m,rfl,HA,HG,HB⟩:=hrel
    by_cases c2 : m < n
    ·have HK:=Aside0.mk c2
     have c2b : decide (m < n) = true:=decide_eq_true c2
     have c20 : (0 : Int) ≤ (m : Int):=by omega
     have c21 : (m : Int) ≤ (n : Int):=by omega
     obtain ⟨c,hc⟩ : ∃ c,c = Nat.min m (n - m):=⟨_,rfl⟩
     have HC:=Aside0.mk (show c = Nat.min m (n - m) ∧ c ≤ m ∧ m + c ≤ n ∧ 0 < c by
      have:=HA.out
      rw [hc]
      rcases Nat.le_total m (n - m) with h1 | h1
      ·rw [show Nat.min m (n - m) = m from Nat.min_eq_left h1];omega
      ·rw [show Nat.min m (n - m) = n - m from Nat.min_eq_right h1];omega)
     have hsum : IntKind.i64.wrap ((m : Int) + (c : Int)) = ((m + c : Nat) : Int):=by
      have:=HC.out;have:=HN.out
      rw [i64_w];unfold wrap64;omega
     have HG5:=Aside0.mk (show (World.drew wr).heap[w.heap.size]? = some (.cells (repCells z n m).toArray 3 (0,0)) from HG.out)
     have HF:=Aside0.mk (show m + (List.replicate c (Value.int .i64 z)).length ≤ (repCells z n m).length by
      have:=HC.out;have:=HA.out
      rw [List.length_replicate,repCells_length z n m this.1];omega)
     have HLn:=Aside0.mk (show (List.replicate c (Value.int .i64 z)).length = Nat.min m (n - m) by rw [List.length_replicate];exact HC.out.1)
     have hnm : (n = m) = False:=eq_false (by omega)
     clear c2 hc
     go_wp2
     go_region_held3 (fun _ => True) (trivial) ((refine step_copy_splice rfl (.tmp 41) (.tmp 44) 37 37 rfl 3 Try.underlying37 (by kernel_rfl) (some ⟨w.heap.size,m,none⟩) (some ⟨w.heap.size,0,none⟩) (n - m) (n - m) m n (by rfl) (by rfl) w.heap.size m (repCells z n m) 3 HG5.out (List.replicate c (.int .i64 z)) HLn.out (rp_pos2 HG5.out HC.out.2.1) HF.out rp_one w.heap.size w (below_drew1 HB.out) (Nat.le_refl _) ?_;intro w4 hg4 hb4;have HG6:=Aside0.mk hg4.out;have HB6:=Aside0.mk hb4;clear hg4 hb4))
     go_wp2
     have HG7:=Aside0.mk (by have h2:=HG6.out;rw [repCells_splice z n m c HC.out.2.2.1] at h2;exact h2)
     cases gk with
     | zero => exact absurd HA.out (by have:=HK.out;omega)
     | succ k1 =>
      go_roundg k1
      case measure => omega
      case rel => exact ⟨m + c,by (try simp only [List.length_replicate,goInt]);first | rfl | (rw [hsum];done) | (trace_state;simp;done) ,⟨by have:=HC.out;omega,by have:=HC.out;omega,by have:=HC.out;have:=HA.out;omega⟩,HG7,HB6⟩
    ·have hmn : m = n:=by have:=HA.out;omega
     subst hmn
     have c2b : decide (m < m) = false:=decide_eq_false c2
     clear c2
     go_wp2
     go_ret
     exact ⟨_,rfl,repCells_R HG.out (Nat.le_refl _) HN.out,HB.out⟩

/-! ### slices_Clone_impl_Flat: function 82 (by hand: a row compared with nil) -/
def slices_Clone_impl_Flat.f (l0 : List S79) : Option (List S79):=if l0.length < 2932031007402 then some l0 else none
/-- A row compared with nil. -/
theorem run_eql_rownilF {P : Program} (w : World) (t e : TypeId) (a : Option Addr) (n c : Nat) (h : P.underlying t = some (.slice e)) : (binOp .eql t (.slice a n c) (.slice none 0 0)).run P w = .ok (.bool a.isNone) w:=by
 have h1 : ∀ d,(Op.equalIn (d + 1) t (.slice a n c) (.slice none 0 0)).run P w = .ok a.isNone w:=fun d => by cases a <;> simp [Op.equalIn,run_underlying h]
 simp only [binOp]
 simp [Op.equal,Op.maxDepth,h1 9999]
/-- An empty literal of flat steps, just laid. -/
theorem R_lit0F (E : Nat) (W : World) : k79.R E (W.alloc (.cells #[] E)) W.heap.size (fun _ => True) (.slice (some ⟨W.heap.size,0,none⟩) 0 0) ([] : List S79):=by
 refine ⟨fun _ _ => trivial,[],?_,⟨by simp,fun j p hj => by simp at hj⟩⟩
 have h2:=World.ownsRow_lit (base:=W.heap.size) (e:=E) (size:=6) W #[] 0 (Nat.le_refl _) (by simp [maxLen]) (by simp)
 change (W.alloc (.cells #[] E)).ownsRow W.heap.size E 6 _ 0 []
 simpa using h2
set_option maxHeartbeats 8000000 in
set_option maxRecDepth 100000 in
theorem slices_Clone_impl_Flat.calls (A0 : Option Addr) (c0 : Nat) (l0 : List S79) (r : List S79) (w : World) (hr0 : Kd.C k79 w A0 l0.length l0) (hc0 : l0.length ≤ c0) (h : slices_Clone_impl_Flat.f l0 = some r) :
  Calls Try.prog 82 #[.slice A0 l0.length c0] w fun e w' => ∃ v0_ : Value,e = .returned (v0_) ∧ k79.R 79 w' w.heap.size (fun _ => True) v0_ r ∧ Below w.heap.size w w':=by
 have HR0:=Aside0.mk hr0
 have HC0:=Aside0.mk hc0
 unfold slices_Clone_impl_Flat.f at h
 by_cases c1 : l0.length < 2932031007402
 rotate_left
 ·rw [if_neg c1] at h;exact absurd h (by simp)
 rw [if_pos c1] at h
 obtain rfl:=Option.some.inj h
 have heq:=fun W => run_eql_rownilF (P:=Try.prog) W 54 79 A0 l0.length c0 Try.underlying54
 have HLM:=Aside0.mk c1
 cases A0 with
 | none =>
  simp only [Option.isNone_none] at heq
  have hn : l0 = []:=by
   cases l0 with
   | nil => rfl
   | cons x q =>
    obtain ⟨_,e1,_⟩:=at_T79 hr0 0 (by omega) (by simp)
    cases e1
  subst hn
  simp only [List.length_nil] at heq
  clear h hr0 hc0 c1
  go_enter Try.func82,Try.ntmps82
  go_wp2
  go_ret
  exact ⟨_,rfl,Kd.R_nil _ _ _ _ _,Below.refl _ _⟩
 | some ad =>
  simp only [Option.isNone_some] at heq
  have hLit:=Aside0.mk (R_lit0F 79 w)
  have hBel:=Aside0.mk (below_alloc (Below.refl w.heap.size w) (.cells #[] 79))
  clear h hr0 hc0 c1
  go_enter Try.func82,Try.ntmps82
  go_wp2_with (first | ((with_reducible refine gate_builtin (b:=.append) (xs:=#[.tmp 5,.tmp 6]) rfl ?_);at_builtin;refine Kd.R_append_rows k79 (Rr:=k79.K (w.alloc (.cells #[] 79))) (w0:=w) w.heap.size rfl (.tmp 5) (.tmp 6) 54 79 (.agg #[.int .i64 0,.int .i64 0,.int .i64 0,.int .i64 0,.int .i64 0,.int .i64 0]) 48 rfl Try.underlying54 (by kernel_rfl) rfl (by decide) (by omega) (.slice (some ⟨w.heap.size,0,none⟩) 0 0) ([] : List S79) l0 _ _ _ (fun _ => True) (fun _ => False) rfl rfl ?aO ?aR (fun x_ cs_ h_ => by obtain rfl:=k79_open h_;exact k79_mkM _ _ _ x_) (fun _ h => h.elim) ?aF ?aB ?aS ?aL ?_;(case aR => exact Kd.C_below HR0.out hBel.out);(case aO => exact hLit.out);(case aF => exact fun _ _ => trivial);(case aB => exact hBel.out);(case aS => exact hBel.out.size);(case aL => have:=HLM.out;simp;omega);intro v7 w7 ho hb hg hat;rw [List.nil_append] at ho;obtain ⟨Av,cv,ev⟩:=Kd.R_slice ho;subst ev;have HO:=Aside0.mk ho;have HB:=Aside0.mk hb;clear ho hb hg hat))
  go_ret
  exact ⟨_,rfl,HO.out,HB.out⟩

end Go.Proofs.Ythgkhfhfahifmaa.Q
