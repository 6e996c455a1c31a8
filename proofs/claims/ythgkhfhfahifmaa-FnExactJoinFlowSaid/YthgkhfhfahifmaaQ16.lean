-- WRITTEN BY A PROGRAM OF THIS SESSION
import Derived.Test.YthgkhfhfahifmaaQ0
import Derived.Test.YthgkhfhfahifmaaQ14
namespace Go.Proofs.Ythgkhfhfahifmaa.Q
open Go.RowKit Go.Proofs.YthgkhfhfahifmaaW.PrintWords Go.Proofs.YthgkhfhfahifmaaW.PrintLast Go.Proofs.YthgkhfhfahifmaaW.PrintMore
attribute [local go_sem] max2_int min2_int max_two min_two max_three min_three max_four min_four   -- for this text's walks alone
set_option linter.unusedVariables false
set_option linter.unusedSimpArgs false

/-! ### impl_cloneFlow: function 58 -/
def impl_cloneFlow.l0 : Nat → List (S56) → List (S56) → Int → Int → Option ((List (S56)))
 | 0,_,_,_,_ => none
 | k + 1,x3,x9,x10,x11 => if x11 < x10 then (if 0 ≤ x11 then (if x11 < (x9.length : Int) then ((slices_Clone_impl_Flat.f ((rd_T56 x9 x11).f0)).bind fun t324 => ((slices_Clone_int_int.f ((rd_T56 x9 x11).f3)).bind fun t327 => (if x11 < (x3.length : Int) then (impl_cloneFlow.l0 k (x3.set (x11 : Int).toNat (⟨t324,(rd_T56 x9 x11).f1,(rd_T56 x9 x11).f2,t327⟩ : S56)) x9 x10 (wrap64 (x11 + 1))) else (none)))) else (none)) else (none)) else (some x3)
def impl_cloneFlow.f (k : Nat) (l0 : List (S56)) : Option ((List (S56))):=if 0 ≤ (l0.length : Int) then (if ((l0.length : Int) : Int).toNat ≤ 4398046511104 then (impl_cloneFlow.l0 k (List.replicate ((l0.length : Int) : Int).toNat z56) l0 (l0.length : Int) 0) else (none)) else (none)
theorem impl_cloneFlow.mono_l : ∀ k,(∀ y0 y1 y2 y3,LeO (impl_cloneFlow.l0 k y0 y1 y2 y3) (impl_cloneFlow.l0 (k + 1) y0 y1 y2 y3))
 | 0 => fun _ _ _ _ r h => by simp [impl_cloneFlow.l0] at h
 | k + 1 => by
  have ih0:=impl_cloneFlow.mono_l k
  ·intro y0 y1 y2 y3
   unfold impl_cloneFlow.l0
   repeat' first
   | (with_reducible exact ih0 _ _ _ _)
   | (with_reducible exact LeO.refl _)
   | (with_reducible exact LeO.none _)
   | (with_reducible refine LeO.ite ?_ ?_)
   | (with_reducible refine LeO.bind ?_ (fun _ => ?_))
theorem impl_cloneFlow.mono : ∀ a0 k,LeO (impl_cloneFlow.f k a0) (impl_cloneFlow.f (k + 1) a0):=by
 intro a0 k
 have ih0:=impl_cloneFlow.mono_l k
 unfold impl_cloneFlow.f
 repeat' first
   | (with_reducible exact ih0 _ _ _ _)
   | (with_reducible exact LeO.refl _)
   | (with_reducible exact LeO.none _)
   | (with_reducible refine LeO.ite ?_ ?_)
   | (with_reducible refine LeO.bind ?_ (fun _ => ?_))
def impl_cloneFlow.T5 : Bool × List (List Nat × List Nat):=(true,[([],[]),([0],[0]),([1],[1]),([],[]),([3],[3]),([4,2],[4]),([0,1,2,3,4],[]),([6,2,5,0,1,2,3,4],[2,6]),([0,1,2,3,4,5,6,7],[]),([8,5,7,0,1,2,3,4,5,6,7],[5,8])])
def impl_cloneFlow.B5 : List Nat:=[0,1,3,0,8,31,31,127,255,511]
theorem impl_cloneFlow.tab5 : rtab .any (opsOf Try.f58 5) = impl_cloneFlow.T5:=by kernel_rfl
theorem impl_cloneFlow.bits5 : waitsOk impl_cloneFlow.T5.2 impl_cloneFlow.B5 = true:=by kernel_rfl
set_option maxHeartbeats 8000000 in
set_option maxRecDepth 100000 in
theorem impl_cloneFlow.calls (k : Nat) (A0 : Option Addr) (c0 : Nat) (l0 : List (S56)) (r : List (S56)) (w : World) (hr0 : Kd.C k56 w A0 l0.length l0) (hc0 : l0.length ≤ c0) (h : impl_cloneFlow.f k l0 = some r) :
  Calls Try.prog 58 #[.slice A0 l0.length c0] w fun e w' => ∃ v0_ : Value,e = .returned (v0_) ∧ Kd.S k56 56 w' w.heap.size (fun _ => True) v0_ r ∧ Below w.heap.size w w':=by
 have hu56:=Try.underlying56
 have HR0:=Aside0.mk hr0
 have HC0:=Aside0.mk hc0
 clear hr0 hc0
 have HB:=Aside0.mk (Below.refl w.heap.size w)
 have H : (if 0 ≤ (l0.length : Int) then (if ((l0.length : Int) : Int).toNat ≤ 4398046511104 then (impl_cloneFlow.l0 k (List.replicate ((l0.length : Int) : Int).toNat z56) l0 (l0.length : Int) 0) else (none)) else (none)) = some r:=h
 clear h
 by_cases c2 : 0 ≤ (l0.length : Int)
 rotate_left
 ·rw [if_neg c2] at H
  exact absurd H (by simp)
 rw [if_pos c2] at H
 have c2b0:=eq_true c2
 have c2b1 : decide (0 ≤ (l0.length : Int)) = true:=decide_eq_true c2
 clear c2
 by_cases c3 : ((l0.length : Int) : Int).toNat ≤ 4398046511104
 rotate_left
 ·rw [if_neg c3] at H
  exact absurd H (by simp)
 rw [if_pos c3] at H
 have c3b0:=eq_true c3
 have c3b1 : decide (((l0.length : Int) : Int).toNat ≤ 4398046511104) = true:=decide_eq_true c3
 clear c3
 obtain ⟨y319,hy319⟩ : ∃ y_ : List (S56),y_ = (List.replicate ((l0.length : Int) : Int).toNat z56):=⟨_,rfl⟩
 replace H : (impl_cloneFlow.l0 k y319 l0 (l0.length : Int) 0) = some r:=by first | (rw [hy319];with_reducible exact H) | (have H2_:=(Option.bind_some _ _).symm.trans H;rw [hy319];with_reducible exact H2_) | (have H2_:=(Option.bind_some _ _).symm.trans H;with_reducible exact H2_) | with_reducible exact H | (rw [hy319];exact H) | exact H
 have Ny319:=Aside0.mk hy319
 clear hy319
 have H':=Aside0.mk H
 clear H
 go_enter Try.func58,Try.ntmps58
 go_wp2_with (first | ((with_reducible refine gate_dst (N:=8) rfl ?_);refine Kd.S_make k56 _ 56 rfl (N:=8) rfl 25 _ _ rfl (l0.length : Int) rfl rfl Try.underlying25 (.agg #[(.slice none 0 0),(.int .i64 0),(.int .i64 0),(.slice none 0 0)]) 64 info56 rfl (by decide) (by omega) z56 (ok:=fun _ => True) (okp:=fun _ => True) (k56_mkM _ _ _ z56 (Kd.R_nil _ _ _ _ _) (Kd.R_nil _ _ _ _ _)) (fun _ hk => hk) trivial (of_decide_eq_true (by assumption)) (Nat.le_trans (Nat.mul_le_mul_right _ (of_decide_eq_true (by assumption) : (l0.length : Int).toNat ≤ 4398046511104)) (by omega)) (Below.refl _ _) (Nat.le_refl _) ?_;intro v320 w4 ho5 hb hg_ hnew_;clear hg_ hnew_;(first | rw [← Ny319.out] at ho5 | (simp only [Int.reduceToNat] at ho5;rw [← Ny319.out] at ho5));have n0_:=Aside0.mk (Kd.S_lower ho5 (below_size (by repeat (with_reducible first | exact HB.out | apply below_alloc | apply pw_below_drewN | apply below_drew1))));have n1_:=Aside0.mk (below_step (by repeat (with_reducible first | exact HB.out | apply below_alloc | apply pw_below_drewN | apply below_drew1)) hb);clear HB;have HO321:=n0_;have HB:=n1_;clear n0_ n1_;clear hb ho5))
 go_loopg [11] k (fun kq v11 w' => ∃ (x3_1 : List (S56)) (x11_1 : Int),v11 = .int .i64 x11_1 ∧ Aside0 (impl_cloneFlow.l0 kq x3_1 l0 (l0.length : Int) x11_1 = some r) ∧ Aside0 (kq ≤ k) ∧ Aside0 (Kd.S k56 56 w' w.heap.size (fun _ => True) v320 x3_1) ∧ Aside0 (Below w.heap.size w w'))
 case atStart => exact ⟨(y319),(0),(by first | rfl | (simp;done) | (simp [*];done)),H',⟨Nat.le_refl _⟩,⟨by (with_reducible repeat (first | apply Kd.S_alloc | apply Kd.S_drewN | apply Kd.S_drew));exact HO321.out⟩,⟨by repeat (with_reducible first | exact HB.out | apply below_alloc | apply pw_below_drewN | apply below_drew1)⟩⟩
 case round =>
  clear H'
  try clear c2
  try clear c2b0
  try clear c2b1
  try clear p2
  try clear c3
  try clear c3b0
  try clear c3b1
  try clear c5
  obtain ⟨x3_1,x11_1,rfl,HA,HK1,HO_3,HB⟩:=hrel
  cases gk with
  | zero => exact absurd HA.out (by simp [impl_cloneFlow.l0])
  | succ k1 =>
   have H:=HA.out
   clear HA
   simp only [impl_cloneFlow.l0] at H
   by_cases c6 : x11_1 < (l0.length : Int)
   rotate_left
   ·rw [if_neg c6] at H
    have c6b0 : decide (x11_1 < (l0.length : Int)) = false:=decide_eq_false c6
    clear c6
    obtain rfl:=Option.some.inj H
    go_wp2
    go_ret
    exact ⟨_,by first | rfl | (simp [*,errW_none,errW_some] <;> rfl),by (with_reducible repeat (first | apply Kd.S_alloc | apply Kd.S_drewN | apply Kd.S_drew));exact HO_3.out,by repeat (with_reducible first | exact HB.out | apply below_alloc | apply pw_below_drewN | apply below_drew1)⟩
   rw [if_pos c6] at H
   have c6b0 : decide (x11_1 < (l0.length : Int)) = true:=decide_eq_true c6
   clear c6
   by_cases c7 : 0 ≤ x11_1
   rotate_left
   ·rw [if_neg c7] at H
    exact absurd H (by simp)
   rw [if_pos c7] at H
   have c7b0 : decide (0 ≤ x11_1) = true:=decide_eq_true c7
   clear c7
   by_cases c8 : x11_1 < (l0.length : Int)
   rotate_left
   ·rw [if_neg c8] at H
    exact absurd H (by simp)
   rw [if_pos c8] at H
   have c8b0 : decide (x11_1 < (l0.length : Int)) = true:=decide_eq_true c8
   clear c8
   replace H:=Option.bind_eq_some_iff.mp H
   obtain ⟨t324,A90,H⟩:=H
   replace H : ((slices_Clone_int_int.f ((rd_T56 l0 x11_1).f3)).bind fun t327 => (if x11_1 < (x3_1.length : Int) then (impl_cloneFlow.l0 k1 (x3_1.set (x11_1 : Int).toNat (⟨t324,(rd_T56 l0 x11_1).f1,(rd_T56 l0 x11_1).f2,t327⟩ : S56)) l0 (l0.length : Int) (wrap64 (x11_1 + 1))) else (none))) = some r:=H
   have A9:=Aside0.mk A90
   clear A90
   replace H:=Option.bind_eq_some_iff.mp H
   obtain ⟨t327,A100,H⟩:=H
   replace H : (if x11_1 < (x3_1.length : Int) then (impl_cloneFlow.l0 k1 (x3_1.set (x11_1 : Int).toNat (⟨t324,(rd_T56 l0 x11_1).f1,(rd_T56 l0 x11_1).f2,t327⟩ : S56)) l0 (l0.length : Int) (wrap64 (x11_1 + 1))) else (none)) = some r:=H
   have A10:=Aside0.mk A100
   clear A100
   by_cases c11 : x11_1 < (x3_1.length : Int)
   rotate_left
   ·rw [if_neg c11] at H
    exact absurd H (by simp)
   rw [if_pos c11] at H
   have c11b0 : decide (x11_1 < (x3_1.length : Int)) = true:=decide_eq_true c11
   clear c11
   obtain ⟨y330,hy330⟩ : ∃ y_ : List (S56),y_ = (x3_1.set (x11_1 : Int).toNat (⟨t324,(rd_T56 l0 x11_1).f1,(rd_T56 l0 x11_1).f2,t327⟩ : S56)):=⟨_,rfl⟩
   replace H : (impl_cloneFlow.l0 k1 y330 l0 (l0.length : Int) (wrap64 (x11_1 + 1))) = some r:=by first | (rw [hy330];with_reducible exact H) | (have H2_:=(Option.bind_some _ _).symm.trans H;rw [hy330];with_reducible exact H2_) | (have H2_:=(Option.bind_some _ _).symm.trans H;with_reducible exact H2_) | with_reducible exact H | (rw [hy330];exact H) | exact H
   have Ny330:=Aside0.mk hy330
   clear hy330
   have H':=Aside0.mk H
   clear H
   have p322 : 0 ≤ (x11_1 : Int):=of_decide_eq_true (by assumption)
   have q322 : x11_1 < (l0.length : Int):=of_decide_eq_true (by assumption)
   obtain ⟨ad322,A322_0,c322_0,A322_3,c322_3,e322,hx322_0,hx322_1,hx322_2,hx322_3,hl322_0,hi322_0,hl322_3,hi322_3⟩:=at_T56 HR0.out x11_1 p322 q322
   cases e322
   replace hx322_0:=(HB.out.cell (World.block_lt_of_cell? w _ hx322_0)).trans hx322_0
   replace hx322_1:=(HB.out.cell (World.block_lt_of_cell? w _ hx322_1)).trans hx322_1
   replace hx322_2:=(HB.out.cell (World.block_lt_of_cell? w _ hx322_2)).trans hx322_2
   replace hx322_3:=(HB.out.cell (World.block_lt_of_cell? w _ hx322_3)).trans hx322_3
   have HR322_0:=Aside0.mk hi322_0
   have HC322_0:=Aside0.mk hl322_0
   clear hi322_0 hl322_0
   have HR322_3:=Aside0.mk hi322_3
   have HC322_3:=Aside0.mk hl322_3
   clear hi322_3 hl322_3
   replace p322:=eq_true p322
   replace q322:=eq_true q322
   try go_wp2_with (first | ((with_reducible refine gate_dst (N:=5) rfl ?_);refine box_event ?hg (N:=5) ?hd (cs:=#[.slice none 0 0,.int .i64 0,.int .i64 0,.slice none 0 0]) (t:=56) ?hr ?_;(case hd => rfl);(case hg => rfl);(case hr => first | (go_simp;done) | (go_simp;rfl));intro gb323 hg w13 hbox hb;have n0_:=Aside0.mk (Kd.S_below (Kd.S_elderB (by (with_reducible repeat (first | apply Kd.S_alloc | apply Kd.S_drewN | apply Kd.S_drew));exact HO_3.out) gb323 (Nat.le_of_eq hg.symm)) hb);have n1_:=Aside0.mk (below_step (by repeat (with_reducible first | exact HB.out | apply below_alloc | apply pw_below_drewN | apply below_drew1)) hb);have n2_:=Aside0.mk (hbox);have n3_:=Aside0.mk ((by rw [hg];exact (below_size (by repeat (with_reducible first | exact HB.out | apply below_alloc | apply pw_below_drewN | apply below_drew1))) : w.heap.size ≤ gb323));have n4_:=Aside0.mk ((by rw [hg];exact (below_size (by repeat (with_reducible first | exact HB.out | apply below_alloc | apply pw_below_drewN | apply below_drew1))) : w.heap.size ≤ gb323));clear HO_3;clear HB;have HO_3:=n0_;have HB:=n1_;have BK323:=n2_;have GW323:=n3_;have GE323:=n4_;clear n0_ n1_ n2_ n3_ n4_;clear hb hbox hg;have hcz14_0 : w13.cell? ⟨gb323,0,none⟩ = some (.slice none 0 0):=(blk_cell BK323.out 0).trans rfl;have hcz14_1 : w13.cell? ⟨gb323,1,none⟩ = some (.int .i64 0):=(blk_cell BK323.out 1).trans rfl;have hcz14_2 : w13.cell? ⟨gb323,2,none⟩ = some (.int .i64 0):=(blk_cell BK323.out 2).trans rfl;have hcz14_3 : w13.cell? ⟨gb323,3,none⟩ = some (.slice none 0 0):=(blk_cell BK323.out 3).trans rfl;have hfz14_0:=blk_frozen BK323.out 0;have hfz14_1:=blk_frozen BK323.out 1;have hfz14_2:=blk_frozen BK323.out 2;have hfz14_3:=blk_frozen BK323.out 3))
   have n0_ : Aside0 (Kd.S k56 56 ((((w13.setCell ⟨gb323,0,none⟩ (.slice A322_0 ((rd_T56 l0 x11_1).f0).length c322_0)).setCell ⟨gb323,1,none⟩ (.int .i64 ((rd_T56 l0 x11_1).f1))).setCell ⟨gb323,2,none⟩ (.int .i64 ((rd_T56 l0 x11_1).f2))).setCell ⟨gb323,3,none⟩ (.slice A322_3 ((rd_T56 l0 x11_1).f3).length c322_3)) w.heap.size (fun k_ => k_ ≠ gb323) v320 x3_1):=⟨by (with_reducible repeat (first | apply Kd.S_alloc | apply Kd.S_drewN | apply Kd.S_drew));exact Kd.S_mono (Kd.S_far (p:=⟨gb323,3,none⟩) (Kd.S_far (p:=⟨gb323,2,none⟩) (Kd.S_far (p:=⟨gb323,1,none⟩) (Kd.S_far (p:=⟨gb323,0,none⟩) (Kd.S_mono HO_3.out (fun k_ hk => (⟨hk,hk.2⟩ : _ ∧ k_ ≠ gb323))) (fun _ hk => hk.2) (.slice A322_0 ((rd_T56 l0 x11_1).f0).length c322_0)) (fun _ hk => hk.2) (.int .i64 ((rd_T56 l0 x11_1).f1))) (fun _ hk => hk.2) (.int .i64 ((rd_T56 l0 x11_1).f2))) (fun _ hk => hk.2) (.slice A322_3 ((rd_T56 l0 x11_1).f3).length c322_3)) (fun _ hk => hk.1.2)⟩
   have n1_ : Aside0 (((((w13.setCell ⟨gb323,0,none⟩ (.slice A322_0 ((rd_T56 l0 x11_1).f0).length c322_0)).setCell ⟨gb323,1,none⟩ (.int .i64 ((rd_T56 l0 x11_1).f1))).setCell ⟨gb323,2,none⟩ (.int .i64 ((rd_T56 l0 x11_1).f2))).setCell ⟨gb323,3,none⟩ (.slice A322_3 ((rd_T56 l0 x11_1).f3).length c322_3)).heap[gb323]? = some (.cells #[.slice A322_0 ((rd_T56 l0 x11_1).f0).length c322_0,.int .i64 ((rd_T56 l0 x11_1).f1),.int .i64 ((rd_T56 l0 x11_1).f2),.slice A322_3 ((rd_T56 l0 x11_1).f3).length c322_3] 56 (0,0))):=⟨by (with_reducible repeat (first | refine blk_drewN ?_ _ | refine blk_drew ?_ | refine blk_alloc ?_ _));refine blk_put (cs:=#[.slice A322_0 ((rd_T56 l0 x11_1).f0).length c322_0,.int .i64 ((rd_T56 l0 x11_1).f1),.int .i64 ((rd_T56 l0 x11_1).f2),.slice none 0 0]) ?_ 3 _ rfl;(with_reducible repeat (first | refine blk_drewN ?_ _ | refine blk_drew ?_ | refine blk_alloc ?_ _));refine blk_put (cs:=#[.slice A322_0 ((rd_T56 l0 x11_1).f0).length c322_0,.int .i64 ((rd_T56 l0 x11_1).f1),.int .i64 0,.slice none 0 0]) ?_ 2 _ rfl;(with_reducible repeat (first | refine blk_drewN ?_ _ | refine blk_drew ?_ | refine blk_alloc ?_ _));refine blk_put (cs:=#[.slice A322_0 ((rd_T56 l0 x11_1).f0).length c322_0,.int .i64 0,.int .i64 0,.slice none 0 0]) ?_ 1 _ rfl;(with_reducible repeat (first | refine blk_drewN ?_ _ | refine blk_drew ?_ | refine blk_alloc ?_ _));refine blk_put (cs:=#[.slice none 0 0,.int .i64 0,.int .i64 0,.slice none 0 0]) ?_ 0 _ rfl;(with_reducible repeat (first | refine blk_drewN ?_ _ | refine blk_drew ?_ | refine blk_alloc ?_ _));exact BK323.out⟩
   have n2_ : Aside0 (Below w.heap.size w ((((w13.setCell ⟨gb323,0,none⟩ (.slice A322_0 ((rd_T56 l0 x11_1).f0).length c322_0)).setCell ⟨gb323,1,none⟩ (.int .i64 ((rd_T56 l0 x11_1).f1))).setCell ⟨gb323,2,none⟩ (.int .i64 ((rd_T56 l0 x11_1).f2))).setCell ⟨gb323,3,none⟩ (.slice A322_3 ((rd_T56 l0 x11_1).f3).length c322_3))):=⟨by repeat (with_reducible first | exact HB.out | apply below_alloc | apply pw_below_drewN | apply below_drew1 | refine below_set ?_ GE323.out)⟩
   (try clear HO_3)
   (try clear BK323)
   (try clear HB)
   generalize ((((w13.setCell ⟨gb323,0,none⟩ (.slice A322_0 ((rd_T56 l0 x11_1).f0).length c322_0)).setCell ⟨gb323,1,none⟩ (.int .i64 ((rd_T56 l0 x11_1).f1))).setCell ⟨gb323,2,none⟩ (.int .i64 ((rd_T56 l0 x11_1).f2))).setCell ⟨gb323,3,none⟩ (.slice A322_3 ((rd_T56 l0 x11_1).f3).length c322_3)) = w15 at n0_ n1_ n2_ ⊢
   have HO_3:=n0_
   have BK323:=n1_
   have HB:=n2_
   clear n0_ n1_ n2_
   have n0_:=Aside0.mk (Kd.S_drew HO_3.out)
   have n1_:=Aside0.mk (blk_drew BK323.out)
   have n2_:=Aside0.mk (below_drew1 HB.out)
   clear HO_3
   clear BK323
   clear HB
   have HO_3:=n0_
   have BK323:=n1_
   have HB:=n2_
   clear n0_ n1_ n2_
   refine start_ (n:=10) (S:=fun w' => w'.cell? ⟨gb323,0,none⟩ = some (.slice A322_0 ((rd_T56 l0 x11_1).f0).length c322_0) ∧ w'.cell? ⟨gb323,1,none⟩ = some (.int .i64 ((rd_T56 l0 x11_1).f1)) ∧ w'.cell? ⟨gb323,2,none⟩ = some (.int .i64 ((rd_T56 l0 x11_1).f2)) ∧ w'.cell? ⟨gb323,3,none⟩ = some (.slice A322_3 ((rd_T56 l0 x11_1).f3).length c322_3)) (ds:=[7,9]) #[false,false,false,false,false,false,false,false,false,false] (by kernel_rfl) rfl rfl ⟨(blk_cell BK323.out 0).trans rfl,(blk_cell BK323.out 1).trans rfl,(blk_cell BK323.out 2).trans rfl,(blk_cell BK323.out 3).trans rfl⟩ (fun hHeld => ?_);refine with_tabW impl_cloneFlow.tab5 impl_cloneFlow.bits5 (fun HT_ HW_ => ?_)
   generalize w15.drew = w16 at HO_3 BK323 HB hHeld ⊢
   refine pure_ (i:=0) (N:=some 16) (v:=?_) (a':=?_) #[true,false,false,false,false,false,false,false,false,false] rfl rfl (any_of HT_.out (by kernel_rfl)) (fun _ _ _ h => h) (Or.inl ⟨by rfl,?_⟩) ?_ ?_
   rotate_left
   ·intro w'
    go_simp
    with_reducible rfl
   rotate_left
   ·simp only [Act.put,List.setIfInBounds_toArray,List.set_cons_zero,List.set_cons_succ,i64_w,i32_w]
    rfl
   refine pure_ (i:=3) (N:=some 19) (v:=?_) (a':=?_) #[true,false,false,true,false,false,false,false,false,false] rfl rfl (any_of HT_.out (by kernel_rfl)) (fun _ _ _ h => h) (Or.inl ⟨by rfl,?_⟩) ?_ ?_
   rotate_left
   ·intro w'
    go_simp
    with_reducible rfl
   rotate_left
   ·simp only [Act.put,List.setIfInBounds_toArray,List.set_cons_zero,List.set_cons_succ,i64_w,i32_w]
    rfl
   refine take_ (i:=1) (N:=some 17) (v:=?_) (a':=?_) #[true,true,false,true,false,false,false,false,false,false] rfl rfl (take_ofW HT_.out HW_.out (by kernel_rfl)) (fun _ _ _ h => h) (Or.inl ⟨by rfl,?_⟩) hHeld ?_ ?_
   rotate_left
   ·rintro w' ⟨s0,s1,s2,s3⟩
    go_simp
    with_reducible rfl
   rotate_left
   ·simp only [Act.put,List.setIfInBounds_toArray,List.set_cons_zero,List.set_cons_succ,i64_w,i32_w]
    rfl
   refine take_ (i:=4) (N:=some 20) (v:=?_) (a':=?_) #[true,true,false,true,true,false,false,false,false,false] rfl rfl (take_ofW HT_.out HW_.out (by kernel_rfl)) (fun _ _ _ h => h) (Or.inl ⟨by rfl,?_⟩) hHeld ?_ ?_
   rotate_left
   ·rintro w' ⟨s0,s1,s2,s3⟩
    go_simp
    with_reducible rfl
   rotate_left
   ·simp only [Act.put,List.setIfInBounds_toArray,List.set_cons_zero,List.set_cons_succ,i64_w,i32_w]
    rfl
   refine one_ (i:=2) (N:=some 18) #[true,true,true,true,true,false,false,false,false,false] rfl rfl (one_of HT_.out (by kernel_rfl)) (by decide) (fun K hK => ?_)
   refine goes_ Try.func82 (by kernel_rfl) rfl #[.slice A322_0 ((rd_T56 l0 x11_1).f0).length c322_0] (by rfl) rfl rfl (by (try simp only [List.map_toArray,List.map_cons,List.map_nil]);first | done | rfl | (simp only [List.length_drop,List.length_take];rfl)) ?_
   with_reducible refine (slices_Clone_impl_Flat.calls _ _ ((rd_T56 l0 x11_1).f0) t324 _ ?side1 ?side2 A9.out).mono ?_
   (case side1 => repeat (first | exact (Kd.C_below HR322_0.out HB.out) | (with_reducible refine Kd.C_alloc ?_ _) | (with_reducible refine Kd.C_drewN ?_ _) | (with_reducible refine Kd.C_drew ?_)))
   (case side2 => exact HC322_0.out)
   rintro e w17 ⟨v325,rfl,ho0,hb⟩
   refine ⟨_,rfl,?_⟩
   have n0_:=Aside0.mk (Kd.S_elder' (by (with_reducible repeat (first | apply Kd.S_alloc | apply Kd.S_drewN | apply Kd.S_drew));exact HO_3.out) (Kd.R_base ho0) hb)
   have n1_:=Aside0.mk (Kd.R_lower ho0 (below_size (by repeat (with_reducible first | exact HB.out | apply below_alloc | apply pw_below_drewN | apply below_drew1 | refine below_set ?_ GE323.out))))
   have n2_:=Aside0.mk (blk_below (g:=gb323) (o:=.cells #[.slice A322_0 ((rd_T56 l0 x11_1).f0).length c322_0,.int .i64 ((rd_T56 l0 x11_1).f1),.int .i64 ((rd_T56 l0 x11_1).f2),.slice A322_3 ((rd_T56 l0 x11_1).f3).length c322_3] 56 (0,0)) (by (with_reducible repeat (first | refine blk_drewN ?_ _ | refine blk_drew ?_ | refine blk_alloc ?_ _));exact BK323.out) hb)
   have n3_:=Aside0.mk (below_step (by repeat (with_reducible first | exact HB.out | apply below_alloc | apply pw_below_drewN | apply below_drew1 | refine below_set ?_ GE323.out)) hb)
   clear HO_3
   clear BK323
   clear HB
   have HO_3:=n0_
   have HO326:=n1_
   have BK323:=n2_
   have HB:=n3_
   clear n0_ n1_ n2_ n3_
   (try clear hb)
   (try clear hb2)
   (try clear hk)
   (try clear hi)
   (try clear ho0)
   refine hK.out _ _ ⟨(blk_cell BK323.out 0).trans rfl,(blk_cell BK323.out 1).trans rfl,(blk_cell BK323.out 2).trans rfl,(blk_cell BK323.out 3).trans rfl⟩ (fun hHeld => ?_)
   clear hK K
   refine norm_ (a':=?_) ?_ ?_
   rotate_left
   ·show Act.put _ (some 18) _ = _
    simp only [Act.put,List.setIfInBounds_toArray,List.set_cons_zero,List.set_cons_succ,i64_w,i32_w]
    rfl
   refine pure_ (i:=6) (N:=some 22) (v:=?_) (a':=?_) #[true,true,true,true,true,false,true,false,false,false] rfl rfl (any_of HT_.out (by kernel_rfl)) (fun _ _ _ h => h) (Or.inl ⟨by rfl,?_⟩) ?_ ?_
   rotate_left
   ·intro w'
    go_simp
    with_reducible rfl
   rotate_left
   ·simp only [Act.put,List.setIfInBounds_toArray,List.set_cons_zero,List.set_cons_succ,i64_w,i32_w]
    rfl
   refine one_ (i:=5) (N:=some 21) #[true,true,true,true,true,true,true,false,false,false] rfl rfl (one_of HT_.out (by kernel_rfl)) (by decide) (fun K hK => ?_)
   refine goes_ Try.func75 (by kernel_rfl) rfl #[.slice A322_3 ((rd_T56 l0 x11_1).f3).length c322_3] (by rfl) rfl rfl (by (try simp only [List.map_toArray,List.map_cons,List.map_nil]);first | done | rfl | (simp only [List.length_drop,List.length_take];rfl)) ?_
   with_reducible refine (slices_Clone_int_int.calls _ _ ((rd_T56 l0 x11_1).f3) t327 _ ?side1 ?side2 A10.out).mono ?_
   (case side1 => repeat (first | exact (Kd.C_below HR322_3.out HB.out) | (with_reducible refine Kd.C_alloc ?_ _) | (with_reducible refine Kd.C_drewN ?_ _) | (with_reducible refine Kd.C_drew ?_)))
   (case side2 => exact HC322_3.out)
   rintro e w18 ⟨v328,rfl,ho0,hb⟩
   refine ⟨_,rfl,?_⟩
   have n0_:=Aside0.mk (Kd.S_elder' (by (with_reducible repeat (first | apply Kd.S_alloc | apply Kd.S_drewN | apply Kd.S_drew));exact HO_3.out) (Kd.R_base ho0) hb)
   have n1_:=Aside0.mk (Kd.R_below (by (with_reducible repeat (first | apply Kd.R_alloc | apply Kd.R_drewN | apply Kd.R_drew));exact HO326.out) hb)
   have n2_:=Aside0.mk (Kd.R_lower ho0 (below_size (by repeat (with_reducible first | exact HB.out | apply below_alloc | apply pw_below_drewN | apply below_drew1 | refine below_set ?_ GE323.out))))
   have n3_:=Aside0.mk (blk_below (g:=gb323) (o:=.cells #[.slice A322_0 ((rd_T56 l0 x11_1).f0).length c322_0,.int .i64 ((rd_T56 l0 x11_1).f1),.int .i64 ((rd_T56 l0 x11_1).f2),.slice A322_3 ((rd_T56 l0 x11_1).f3).length c322_3] 56 (0,0)) (by (with_reducible repeat (first | refine blk_drewN ?_ _ | refine blk_drew ?_ | refine blk_alloc ?_ _));exact BK323.out) hb)
   have n4_:=Aside0.mk (below_step (by repeat (with_reducible first | exact HB.out | apply below_alloc | apply pw_below_drewN | apply below_drew1 | refine below_set ?_ GE323.out)) hb)
   clear HO_3
   clear HO326
   clear BK323
   clear HB
   have HO_3:=n0_
   have HO326:=n1_
   have HO329:=n2_
   have BK323:=n3_
   have HB:=n4_
   clear n0_ n1_ n2_ n3_ n4_
   (try clear hb)
   (try clear hb2)
   (try clear hk)
   (try clear hi)
   (try clear ho0)
   obtain ⟨Ao19,co19,eo19⟩:=Kd.R_slice HO326.out
   (first | subst eo19 | (injection eo19 with f1_ f2_ f3_;have f4_:=f1_.symm;have f5_:=f3_.symm;clear f1_ f2_ f3_;subst f4_;subst f5_))
   obtain ⟨Ao21,co21,eo21⟩:=Kd.R_slice HO329.out
   (first | subst eo21 | (injection eo21 with f1_ f2_ f3_;have f4_:=f1_.symm;have f5_:=f3_.symm;clear f1_ f2_ f3_;subst f4_;subst f5_))
   refine hK.out _ _ ⟨(blk_cell BK323.out 0).trans rfl,(blk_cell BK323.out 1).trans rfl,(blk_cell BK323.out 2).trans rfl,(blk_cell BK323.out 3).trans rfl⟩ (fun hHeld => ?_)
   clear hK K
   refine norm_ (a':=?_) ?_ ?_
   rotate_left
   ·show Act.put _ (some 21) _ = _
    simp only [Act.put,List.setIfInBounds_toArray,List.set_cons_zero,List.set_cons_succ,i64_w,i32_w]
    rfl
   refine last_ (i:=7) (N:=none) #[true,true,true,true,true,true,true,true,false,false] rfl rfl (one_of HT_.out (by kernel_rfl)) (by decide) (fun K hK => ?_)
   have hs20 : w18.cell? ⟨gb323,0,none⟩ = some (.slice A322_0 ((rd_T56 l0 x11_1).f0).length c322_0):=(blk_cell BK323.out 0).trans rfl
   have hfs20:=blk_frozen BK323.out 0
   refine skip_ (w1:=?_) (by rfl) rfl ?_ ?_
   rotate_left
   ·go_simp
    rfl
   refine hK.out _ _ ?_
   clear hK K
   refine pure_ (i:=8) (N:=some 23) (v:=?_) (a':=?_) #[true,true,true,true,true,true,true,true,true,false] rfl rfl (any_of HT_.out (by kernel_rfl)) (fun _ _ _ h => h) (Or.inl ⟨by rfl,?_⟩) ?_ ?_
   rotate_left
   ·intro w'
    go_simp
    with_reducible rfl
   rotate_left
   ·simp only [Act.put,List.setIfInBounds_toArray,List.set_cons_zero,List.set_cons_succ,i64_w,i32_w]
    rfl
   refine last_ (i:=9) (N:=none) #[true,true,true,true,true,true,true,true,true,true] rfl rfl (one_of HT_.out (by kernel_rfl)) (by decide) (fun K hK => ?_)
   have hs22 : w18.cell? ⟨gb323,3,none⟩ = some (.slice A322_3 ((rd_T56 l0 x11_1).f3).length c322_3):=(blk_cell BK323.out 3).trans rfl
   have hfs22:=blk_frozen BK323.out 3
   refine skip_ (w1:=?_) (by rfl) rfl ?_ ?_
   rotate_left
   ·go_simp
    rfl
   refine hK.out _ _ ?_
   clear hK K
   refine done_ (done_of HT_.out (by kernel_rfl)) ?_
   have n0_ : Aside0 (Kd.S k56 56 ((w18.setCell ⟨gb323,0,none⟩ (.slice Ao19 t324.length co19)).setCell ⟨gb323,3,none⟩ (.slice Ao21 t327.length co21)) w.heap.size (fun k_ => some k_ ≠ (.slice Ao19 t324.length co19 : Value).ownBlock ∧ some k_ ≠ (.slice Ao21 t327.length co21 : Value).ownBlock ∧ k_ ≠ gb323) v320 x3_1):=⟨by (with_reducible repeat (first | apply Kd.S_alloc | apply Kd.S_drewN | apply Kd.S_drew));exact Kd.S_mono (Kd.S_far (p:=⟨gb323,3,none⟩) (Kd.S_far (p:=⟨gb323,0,none⟩) (Kd.S_mono HO_3.out (fun k_ hk => (⟨hk,hk.1.1⟩ : _ ∧ k_ ≠ gb323))) (fun _ hk => hk.2) (.slice Ao19 t324.length co19)) (fun _ hk => hk.2) (.slice Ao21 t327.length co21)) (fun _ hk => ⟨hk.1.1.2,⟨hk.1.2,hk.1.1.1⟩⟩)⟩
   have n1_ : Aside0 (Kd.R k79 79 ((w18.setCell ⟨gb323,0,none⟩ (.slice Ao19 t324.length co19)).setCell ⟨gb323,3,none⟩ (.slice Ao21 t327.length co21)) w.heap.size (fun _ => True) (.slice Ao19 t324.length co19) t324):=⟨by (with_reducible repeat (first | apply Kd.R_alloc | apply Kd.R_drewN | apply Kd.R_drew));exact Kd.R_mono (Kd.R_far (p:=⟨gb323,3,none⟩) (Kd.R_far (p:=⟨gb323,0,none⟩) (Kd.R_types HO326.out BK323.out (by decide)) (fun _ hk => hk.2) (.slice Ao19 t324.length co19)) (fun _ hk => hk.2) (.slice Ao21 t327.length co21)) (fun _ hk => trivial)⟩
   have n2_ : Aside0 (Kd.R (Kd.int .i64) 3 ((w18.setCell ⟨gb323,0,none⟩ (.slice Ao19 t324.length co19)).setCell ⟨gb323,3,none⟩ (.slice Ao21 t327.length co21)) w.heap.size (fun _ => True) (.slice Ao21 t327.length co21) t327):=⟨by (with_reducible repeat (first | apply Kd.R_alloc | apply Kd.R_drewN | apply Kd.R_drew));exact Kd.R_mono (Kd.R_far (p:=⟨gb323,3,none⟩) (Kd.R_far (p:=⟨gb323,0,none⟩) (Kd.R_types HO329.out BK323.out (by decide)) (fun _ hk => hk.2) (.slice Ao19 t324.length co19)) (fun _ hk => hk.2) (.slice Ao21 t327.length co21)) (fun _ hk => trivial)⟩
   have n3_ : Aside0 (((w18.setCell ⟨gb323,0,none⟩ (.slice Ao19 t324.length co19)).setCell ⟨gb323,3,none⟩ (.slice Ao21 t327.length co21)).heap[gb323]? = some (.cells #[.slice Ao19 t324.length co19,.int .i64 ((rd_T56 l0 x11_1).f1),.int .i64 ((rd_T56 l0 x11_1).f2),.slice Ao21 t327.length co21] 56 (0,0))):=⟨by (with_reducible repeat (first | refine blk_drewN ?_ _ | refine blk_drew ?_ | refine blk_alloc ?_ _));refine blk_put (cs:=#[.slice Ao19 t324.length co19,.int .i64 ((rd_T56 l0 x11_1).f1),.int .i64 ((rd_T56 l0 x11_1).f2),.slice A322_3 ((rd_T56 l0 x11_1).f3).length c322_3]) ?_ 3 _ rfl;(with_reducible repeat (first | refine blk_drewN ?_ _ | refine blk_drew ?_ | refine blk_alloc ?_ _));refine blk_put (cs:=#[.slice A322_0 ((rd_T56 l0 x11_1).f0).length c322_0,.int .i64 ((rd_T56 l0 x11_1).f1),.int .i64 ((rd_T56 l0 x11_1).f2),.slice A322_3 ((rd_T56 l0 x11_1).f3).length c322_3]) ?_ 0 _ rfl;(with_reducible repeat (first | refine blk_drewN ?_ _ | refine blk_drew ?_ | refine blk_alloc ?_ _));exact BK323.out⟩
   have n4_ : Aside0 (Below w.heap.size w ((w18.setCell ⟨gb323,0,none⟩ (.slice Ao19 t324.length co19)).setCell ⟨gb323,3,none⟩ (.slice Ao21 t327.length co21))):=⟨by repeat (with_reducible first | exact HB.out | apply below_alloc | apply pw_below_drewN | apply below_drew1 | refine below_set ?_ GE323.out)⟩
   (try clear HO_3)
   (try clear HO326)
   (try clear HO329)
   (try clear BK323)
   (try clear HB)
   generalize ((w18.setCell ⟨gb323,0,none⟩ (.slice Ao19 t324.length co19)).setCell ⟨gb323,3,none⟩ (.slice Ao21 t327.length co21)) = w23 at n0_ n1_ n2_ n3_ n4_ ⊢
   have HO_3:=n0_
   have HO326:=n1_
   have HO329:=n2_
   have BK323:=n3_
   have HB:=n4_
   clear n0_ n1_ n2_ n3_ n4_
   have hcz24_0 : w23.cell? ⟨gb323,0,none⟩ = some (.slice Ao19 t324.length co19):=(blk_cell BK323.out 0).trans rfl
   have hcz24_1 : w23.cell? ⟨gb323,1,none⟩ = some (.int .i64 ((rd_T56 l0 x11_1).f1)):=(blk_cell BK323.out 1).trans rfl
   have hcz24_2 : w23.cell? ⟨gb323,2,none⟩ = some (.int .i64 ((rd_T56 l0 x11_1).f2)):=(blk_cell BK323.out 2).trans rfl
   have hcz24_3 : w23.cell? ⟨gb323,3,none⟩ = some (.slice Ao21 t327.length co21):=(blk_cell BK323.out 3).trans rfl
   have hfz24_0:=blk_frozen BK323.out 0
   have hfz24_1:=blk_frozen BK323.out 1
   have hfz24_2:=blk_frozen BK323.out 2
   have hfz24_3:=blk_frozen BK323.out 3
   have p12 : 0 ≤ (x11_1 : Int):=of_decide_eq_true (by assumption)
   have q12 : (x11_1 : Int) < ((x3_1.length : Int) : Int):=of_decide_eq_true (by assumption)
   obtain ⟨go12,co12,eo12,gb12,gl12,cl12,HG12⟩:=Kd.S_form HO_3.out (by omega)
   (first | cases eo12 | (injection eo12 with ea_ en_ ec_;(first | subst ea_ | (injection ea_ with ea_;subst ea_));subst ec_;clear en_))
   have GB12:=Aside0.mk gb12
   have GG12:=Aside0.mk HG12
   clear gb12 gl12 HG12
   obtain ⟨_,ce12,hcl12,hM12,hcc12,hfr12,_,_⟩:=Kd.S_elem HO_3.out z56 (x11_1 : Int) p12 q12
   obtain ⟨ve12_0,ve12_3,rfl,ge12_0,ge12_3⟩:=k56_openM hM12
   have hx12_0 : w23.cell? ⟨go12,(x11_1 : Int).toNat * 4,none⟩ = some (ve12_0):=hcc12 0 _ rfl
   have hx12_1 : w23.cell? ⟨go12,(x11_1 : Int).toNat * 4 + 1,none⟩ = some (.int .i64 ((rd_T56 x3_1 x11_1).f1)):=hcc12 1 _ rfl
   have hx12_2 : w23.cell? ⟨go12,(x11_1 : Int).toNat * 4 + 2,none⟩ = some (.int .i64 ((rd_T56 x3_1 x11_1).f2)):=hcc12 2 _ rfl
   have hx12_3 : w23.cell? ⟨go12,(x11_1 : Int).toNat * 4 + 3,none⟩ = some (ve12_3):=hcc12 3 _ rfl
   have hf12_0 : w23.frozen? ⟨go12,(x11_1 : Int).toNat * 4,none⟩ = false:=hfr12 0
   have hf12_1 : w23.frozen? ⟨go12,(x11_1 : Int).toNat * 4 + 1,none⟩ = false:=hfr12 1
   have hf12_2 : w23.frozen? ⟨go12,(x11_1 : Int).toNat * 4 + 2,none⟩ = false:=hfr12 2
   have hf12_3 : w23.frozen? ⟨go12,(x11_1 : Int).toNat * 4 + 3,none⟩ = false:=hfr12 3
   clear hcl12 hcc12 hfr12;(try clear hM12)
   replace p12:=eq_true p12
   replace q12:=eq_true q12
   have HX25:=Aside0.mk (show Kd.S k56 56 w23 w.heap.size (fun k_ => ((fun k_ => k_ ≠ gb323)) k_ ∧ ¬ ((fun k_ => some k_ = (.slice Ao19 t324.length co19 : Value).ownBlock ∨ some k_ = (.slice Ao21 t327.length co21 : Value).ownBlock)) k_) (.slice (some ⟨go12,0,none⟩) x3_1.length co12) x3_1 from (by (with_reducible repeat (first | apply Kd.S_alloc | apply Kd.S_drewN | apply Kd.S_drew));exact Kd.S_mono HO_3.out (fun k_ hk => ⟨hk.2.2,fun e_ => e_.elim (fun h_ => hk.1 h_) (fun h_ => hk.2.1 h_)⟩)))
   obtain ⟨oki25,ce25,hcl25,hM25,hcc25,hfr25,hoki25,hH25⟩:=Kd.S_elem HX25.out z56 (x11_1 : Int) (of_decide_eq_true (by assumption)) (by have h_ : (x11_1 : Int) < ((x3_1.length : Int) : Int):=of_decide_eq_true (by assumption);first | exact h_ | (have e_:=(Kd.S_reads' HO_3.out).1;omega) | simpa using h_)
   obtain ⟨ve25_0,ve25_3,rfl,ge25_0,ge25_3⟩:=k56_openM hM25
   have HP25:=Kd.S_seg hH25 (of_decide_eq_true (by assumption)) (by have h_ : (x11_1 : Int) < ((x3_1.length : Int) : Int):=of_decide_eq_true (by assumption);first | exact h_ | (have e_:=(Kd.S_reads' HO_3.out).1;omega) | simpa using h_) (seg:=[.slice Ao19 t324.length co19,.int .i64 ((rd_T56 l0 x11_1).f1),.int .i64 ((rd_T56 l0 x11_1).f2),.slice Ao21 t327.length co21]) (j:=0) (show 4 ≤ 4 from by decide) (x':=(⟨t324,(rd_T56 l0 x11_1).f1,(rd_T56 l0 x11_1).f2,t327⟩ : S56)) (k56_mkM _ _ _ (⟨t324,(rd_T56 l0 x11_1).f1,(rd_T56 l0 x11_1).f2,t327⟩ : S56) (Kd.R_mono (Kd.R_tight rfl (Kd.R_mono (ok':=fun k_ => ((fun k_ => k_ ≠ gb323)) k_ ∧ k_ ≠ go12) (Kd.R_types (Kd.R_apart' (HO326.out) (Kd.S_typed HO_3.out) (by decide)) BK323.out (by decide)) (fun k_ hk => ⟨hk.2,fun e_ => (hk.1.2) (by rw [e_];rfl)⟩))) (fun _ h_ => Or.inr (Or.inl h_))) (Kd.R_mono (Kd.R_tight rfl (Kd.R_mono (ok':=fun k_ => ((fun k_ => k_ ≠ gb323)) k_ ∧ k_ ≠ go12) (Kd.R_types (Kd.R_apart' (HO329.out) (Kd.S_typed HO_3.out) (by decide)) BK323.out (by decide)) (fun k_ hk => ⟨hk.2,fun e_ => (hk.1.2) (by rw [e_];rfl)⟩))) (fun _ h_ => Or.inr (Or.inr (h_))))) (fun _ hk => hk) (fun k_ hk_ => hk_.elim (fun h_ => ((Kd.R_mono (ok':=fun k_ => ((fun k_ => k_ ≠ gb323)) k_ ∧ k_ ≠ go12) (Kd.R_types (Kd.R_apart' (HO326.out) (Kd.S_typed HO_3.out) (by decide)) BK323.out (by decide)) (fun k_ hk => ⟨hk.2,fun e_ => (hk.1.2) (by rw [e_];rfl)⟩))).1 k_ h_.symm) (fun h_ => ((Kd.R_mono (ok':=fun k_ => ((fun k_ => k_ ≠ gb323)) k_ ∧ k_ ≠ go12) (Kd.R_types (Kd.R_apart' (HO329.out) (Kd.S_typed HO_3.out) (by decide)) BK323.out (by decide)) (fun k_ hk => ⟨hk.2,fun e_ => (hk.1.2) (by rw [e_];rfl)⟩))).1 k_ h_.symm))
   have hx25_0:=hcc25 0 _ rfl
   (try simp only [show (k56).sz = 4 from rfl,Nat.mul_one,Nat.add_zero] at hx25_0)
   have hf25_0:=hfr25 0
   (try simp only [show (k56).sz = 4 from rfl,Nat.mul_one,Nat.add_zero] at hf25_0)
   have hx25_1:=hcc25 1 _ rfl
   (try simp only [show (k56).sz = 4 from rfl,Nat.mul_one,Nat.add_zero] at hx25_1)
   have hf25_1:=hfr25 1
   (try simp only [show (k56).sz = 4 from rfl,Nat.mul_one,Nat.add_zero] at hf25_1)
   have hx25_2:=hcc25 2 _ rfl
   (try simp only [show (k56).sz = 4 from rfl,Nat.mul_one,Nat.add_zero] at hx25_2)
   have hf25_2:=hfr25 2
   (try simp only [show (k56).sz = 4 from rfl,Nat.mul_one,Nat.add_zero] at hf25_2)
   have hx25_3:=hcc25 3 _ rfl
   (try simp only [show (k56).sz = 4 from rfl,Nat.mul_one,Nat.add_zero] at hx25_3)
   have hf25_3:=hfr25 3
   (try simp only [show (k56).sz = 4 from rfl,Nat.mul_one,Nat.add_zero] at hf25_3)
   clear hcl25 hcc25 hfr25;(try clear hM25);clear hoki25 hH25
   try go_wp2_with (first | ((with_reducible refine gate_store (t:=56) (p:=27) rfl ?_);refine store_event (t:=56) (p:=27) (v:=?vo_w26) (w1:=((((w23.setCell ⟨go12,(x11_1 : Int).toNat * 4,none⟩ (.slice Ao19 t324.length co19)).setCell ⟨go12,(x11_1 : Int).toNat * 4 + 1,none⟩ (.int .i64 ((rd_T56 l0 x11_1).f1))).setCell ⟨go12,(x11_1 : Int).toNat * 4 + 2,none⟩ (.int .i64 ((rd_T56 l0 x11_1).f2))).setCell ⟨go12,(x11_1 : Int).toNat * 4 + 3,none⟩ (.slice Ao21 t327.length co21))) ?hg ?ho ?hn ?hr ?_;(case ho => rfl);(case hg => rfl);(case hn => rfl);(case hr => first | (go_simp;done) | (go_simp;rfl));intro w26 hw;have hg : w23.grownBy w26 (some go12):=(by rw [hw];exact HP25.2);have hp_ : Kd.S k56 56 w26 w.heap.size (fun k_ => k_ ≠ gb323) (.slice (some ⟨go12,0,none⟩) x3_1.length co12) y330:=(by rw [hw,Ny330.out];exact HP25.1);clear HP25;have n0_:=Aside0.mk (hp_);have n1_:=Aside0.mk (blk_grown (g:=gb323) (o:=.cells #[.slice Ao19 t324.length co19,.int .i64 ((rd_T56 l0 x11_1).f1),.int .i64 ((rd_T56 l0 x11_1).f2),.slice Ao21 t327.length co21] 56 (0,0)) (by (with_reducible repeat (first | refine blk_drewN ?_ _ | refine blk_drew ?_ | refine blk_alloc ?_ _));exact BK323.out) hg (Kd.S_away HO_3.out (fun _ hk => hk.2.2)));have n2_:=Aside0.mk ((by rw [hw];exact below_set (below_set (below_set (below_set (HB.out) GB12.out) GB12.out) GB12.out) GB12.out : Below w.heap.size w w26));clear HO_3;clear BK323;clear HB;clear HO326;clear HO329;have HO_3:=n0_;have BK323:=n1_;have HB:=n2_;clear n0_ n1_ n2_;clear hg hw hp_))
   go_roundg k1
   case measure => have:=HK1.out;omega
   case rel => exact ⟨(y330),(wrap64 (x11_1 + 1)),(by first | rfl | (simp;done) | (simp [*];done)),H',⟨by have:=HK1.out;omega⟩,⟨by (with_reducible repeat (first | apply Kd.S_alloc | apply Kd.S_drewN | apply Kd.S_drew));exact Kd.S_mono HO_3.out (fun _ hk => trivial)⟩,⟨by repeat (with_reducible first | exact HB.out | apply below_alloc | apply pw_below_drewN | apply below_drew1 | refine below_set ?_ GE323.out)⟩⟩

end Go.Proofs.Ythgkhfhfahifmaa.Q
