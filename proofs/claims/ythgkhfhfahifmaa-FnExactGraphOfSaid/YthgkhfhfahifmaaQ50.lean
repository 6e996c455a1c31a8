-- WRITTEN BY A PROGRAM OF THIS SESSION
import Derived.Test.YthgkhfhfahifmaaQ0
import Derived.Test.YthgkhfhfahifmaaQ6
import Derived.Test.YthgkhfhfahifmaaQ49
namespace Go.Proofs.Ythgkhfhfahifmaa.Q
open Go.RowKit Go.Proofs.YthgkhfhfahifmaaW.PrintWords Go.Proofs.YthgkhfhfahifmaaW.PrintLast Go.Proofs.YthgkhfhfahifmaaW.PrintMore
attribute [local go_sem] max2_int min2_int max_two min_two max_three min_three max_four min_four   -- for this text's walks alone
set_option linter.unusedVariables false
set_option linter.unusedSimpArgs false

/-! ### impl_graphOf: function 46 (by hand: rows are sorted in place) -/
def impl_graphOf.l0 : Nat → List (List Int) → List (List Int) → Int → Option (List (List Int))
 | 0,_,_,_ => none
 | k + 1,g,x,i => if i < (g.length : Int) then (if 0 ≤ i then ((slices_Clone_int_int.f (g.getD i.toNat [])).bind fun y => ((slices_Sort_int_int.f k y).bind fun z => ((slices_Compact_int_int.f k z).bind fun u => (impl_graphOf.l0 k g (x.set i.toNat u) (wrap64 (i + 1)))))) else none) else some x
def impl_graphOf.f (k : Nat) (g : List (List Int)) : Option (List (List Int)):=if g.length ≤ 11728124029610 then (impl_graphOf.l0 k g (List.replicate g.length []) 0) else none
theorem impl_graphOf.mono_l : ∀ k,(∀ y0 y1 y2,LeO (impl_graphOf.l0 k y0 y1 y2) (impl_graphOf.l0 (k + 1) y0 y1 y2))
 | 0 => fun _ _ _ r h => by simp [impl_graphOf.l0] at h
 | k + 1 => by
  have ih0:=impl_graphOf.mono_l k
  ·intro y0 y1 y2
   unfold impl_graphOf.l0
   repeat' first
   | (with_reducible exact ih0 _ _ _)
   | (with_reducible exact slices_Sort_int_int.mono _ _)
   | (with_reducible exact slices_Compact_int_int.mono _ _)
   | (with_reducible exact LeO.refl _)
   | (with_reducible exact LeO.none _)
   | (with_reducible refine LeO.ite ?_ ?_)
   | (with_reducible refine LeO.bind ?_ (fun _ => ?_))
theorem impl_graphOf.mono : ∀ a0 k,LeO (impl_graphOf.f k a0) (impl_graphOf.f (k + 1) a0):=by
 intro a0 k
 have ih0:=impl_graphOf.mono_l k
 unfold impl_graphOf.f
 repeat' first
   | (with_reducible exact ih0 _ _ _)
   | (with_reducible exact slices_Sort_int_int.mono _ _)
   | (with_reducible exact slices_Compact_int_int.mono _ _)
   | (with_reducible exact LeO.refl _)
   | (with_reducible exact LeO.none _)
   | (with_reducible refine LeO.ite ?_ ?_)
   | (with_reducible refine LeO.bind ?_ (fun _ => ?_))
/-- What holds between the rounds. -/
structure GOInv (w W : World) (b3 b2 gn n : Nat) (x : List (List Int)) : Prop where
 inv : RInv (Kd.int .i64) 3 37 (Kd.int .i64) 3 w W (.slice (some ⟨gn,0,none⟩) n n) (.slice none 0 0) x ([] : List Int) (fun k => k = b3 ∨ k = b2)
 box3 : W.heap[b3]? = some (.cells #[.slice (some ⟨gn,0,none⟩) n n] 31 (0,0))
 box2 : W.heap[b2]? = some (.cells #[.slice none 0 0] 31 (0,0))
 ge2 : w.heap.size ≤ b2
theorem GOInv.step {w W W' : World} {b3 b2 gn n : Nat} {x : List (List Int)} (h : GOInv w W b3 b2 gn n x) (hb : Below W.heap.size W W') : GOInv w W' b3 b2 gn n x:=⟨h.inv.step hb,blk_below h.box3 hb,blk_below h.box2 hb,h.ge2⟩
theorem GOInv.fill {w W W4 : World} {b3 b2 gn n : Nat} {x : List (List Int)} {y : List Int} {i : Int} {v0 : Value} (h : GOInv w W b3 b2 gn n x) (h0 : 0 ≤ i) (h1 : i < n) (hb : Below W.heap.size W W4) (hr : (Kd.int .i64).R 3 W4 W.heap.size (fun _ => True) v0 y) :
  GOInv w (W4.setCell ⟨gn,i.toNat,none⟩ v0) b3 b2 gn n (x.set i.toNat y) ∧ ∃ ve,W4.cell? ⟨gn,i.toNat,none⟩ = some ve ∧ W4.frozen? ⟨gn,i.toNat,none⟩ = false:=by
 obtain ⟨g',oki,ve,hg,hx,hf,_,_,hPg,hbg,hH⟩:=S_row h.inv.out i h0 h1
 injection hg with hg
 injection hg with hg _ _
 subst hg
 refine ⟨⟨h.inv.fill h0 h1 hb hr,blk_far (blk_below h.box3 hb) (fun e => hPg (.inl e.symm)) _,blk_far (blk_below h.box2 hb) (fun e => hPg (.inr e.symm)) _,h.ge2⟩,ve,pw_cell_below hb hx,(frozen_below hb (World.block_lt_of_cell? W _ hx)).trans hf⟩
set_option maxHeartbeats 8000000 in
set_option maxRecDepth 100000 in
theorem impl_graphOf.calls (k : Nat) (A0 : Option Addr) (c0 : Nat) (l0 : List (List Int)) (r : List (List Int)) (w : World) (hr0 : Kd.C (Kd.slice 3 (Kd.int .i64)) w A0 l0.length l0) (hc0 : l0.length ≤ c0) (h : impl_graphOf.f k l0 = some r) :
  Calls Try.prog 46 #[.slice A0 l0.length c0] w fun e w' => ∃ v0_ : Value,e = .returned (.agg #[v0_]) ∧ Kd.S (Kd.slice 3 (Kd.int .i64)) 37 w' w.heap.size (fun _ => True) v0_ r ∧ Below w.heap.size w w':=by
 have hu27:=Try.underlying31
 have HR0:=Aside0.mk hr0
 have HC0:=Aside0.mk hc0
 clear hr0 hc0
 unfold impl_graphOf.f at h
 by_cases c1 : l0.length ≤ 11728124029610
 rotate_left
 ·rw [if_neg c1] at h;exact absurd h (by simp)
 rw [if_pos c1] at h
 have H':=Aside0.mk h
 have HM:=Aside0.mk c1
 clear h c1
 have hmk22:=fun W => run_make_row' (P:=Try.prog) 29 37 (.slice none 0 0) 24 Try.underlying29 (by kernel_rfl) rfl .i64 .i64 l0.length (by have:=HM.out;omega) (by have:=HM.out;omega) W
 have hs1 : (w.alloc (.cells #[.slice none 0 0] 31)).heap.size = w.heap.size + 1:=by simp
 have hs2 : ((w.alloc (.cells #[.slice none 0 0] 31)).alloc (.cells (madeCells #[.slice none 0 0] l0.length) 37)).heap.size = w.heap.size + 1 + 1:=by simp
 have hI : GOInv w (((w.alloc (.cells #[.slice none 0 0] 31)).alloc (.cells (madeCells #[.slice none 0 0] l0.length) 37)).alloc (.cells #[.slice (some ⟨w.heap.size + 1,0,none⟩) l0.length l0.length] 31)) (w.heap.size + 1 + 1) w.heap.size (w.heap.size + 1) l0.length (List.replicate l0.length []):=by
  have h2:=heap_alloc_new w (.cells #[.slice none 0 0] 31)
  have h3:=heap_alloc_new ((w.alloc (.cells #[.slice none 0 0] 31)).alloc (.cells (madeCells #[.slice none 0 0] l0.length) 37)) (.cells #[.slice (some ⟨w.heap.size + 1,0,none⟩) l0.length l0.length] 31)
  rw [hs2] at h3
  have hm:=S_made (Kd.int .i64) 3 37 (w.alloc (.cells #[.slice none 0 0] 31)) l0.length (by have:=HM.out;omega)
  rw [hs1] at hm
  refine ⟨⟨by repeat (first | exact Below.refl _ _ | apply below_alloc),?_,Kd.R_nil _ _ _ _ _,fun k hk => by simp [Value.ownBlock] at hk,fun k hk => by simp;omega⟩,h3,blk_alloc (blk_alloc h2 _) _,Nat.le_refl _⟩
  have hm2:=Kd.S_bound hm
  rw [hs2] at hm2
  exact Kd.S_lower (Kd.S_below (Kd.S_mono hm2 (fun k hk => by have:=hk.2.1;have:=hk.2.2.1;omega)) (below_alloc (Below.refl _ _) _)) (by omega)
 have HI:=Aside0.mk hI
 clear hI hs1 hs2
 go_enter Try.func46,Try.ntmps46
 go_wp2
 go_loopg [12] k (fun kq v12 w' => ∃ (x : List (List Int)) (i : Int),v12 = .int .i64 i ∧ Aside0 (impl_graphOf.l0 kq l0 x i = some r) ∧ Aside0 (kq ≤ k) ∧ Aside0 (GOInv w w' (w.heap.size + 1 + 1) w.heap.size (w.heap.size + 1) l0.length x))
 case atStart => exact ⟨_,0,rfl,H',⟨Nat.le_refl _⟩,HI⟩
 case round =>
  clear H' HI hmk22
  obtain ⟨x,i,rfl,HA,HK1,HI⟩:=hrel
  cases gk with
  | zero => exact absurd HA.out (by simp [impl_graphOf.l0])
  | succ k1 =>
   have H:=HA.out
   clear HA
   simp only [impl_graphOf.l0] at H
   by_cases c3 : i < (l0.length : Int)
   ·rw [if_pos c3] at H
    by_cases c4 : 0 ≤ i
    ·rw [if_pos c4] at H
     obtain ⟨ad,AL,cL,eA,hx0,hl0,hi0⟩:=at_row HR0.out i c4 c3
     obtain ⟨row,hrow⟩ : ∃ row,row = l0.getD i.toNat []:=⟨_,rfl⟩
     rw [← hrow] at hx0 hl0 hi0 H
     cases eA
     obtain ⟨y,A1,H1⟩:=Option.bind_eq_some_iff.mp H
     clear H
     obtain ⟨z,A2,H2⟩:=Option.bind_eq_some_iff.mp H1
     clear H1
     obtain ⟨u,A3,H⟩:=Option.bind_eq_some_iff.mp H2
     clear H2
     have B1:=Aside0.mk A1
     have B2:=Aside0.mk A2
     have B3:=Aside0.mk A3
     have H':=Aside0.mk H
     have HRR:=Aside0.mk (Kd.C_below hi0 HI.out.inv.below)
     have HRL:=Aside0.mk hl0
     have HC3:=Aside0.mk c3
     have HC4:=Aside0.mk c4
     have c3b : decide (i < (l0.length : Int)) = true:=decide_eq_true c3
     have c4b : decide (0 ≤ i) = true:=decide_eq_true c4
     have p3:=eq_true c3
     have p4:=eq_true c4
     have hx1 : wr.cell? (ad.add i.toNat) = some (.slice AL row.length cL):=pw_cell_below HI.out.inv.below hx0
     clear H A1 A2 A3 hi0 hl0 hrow c3 c4 hx0
     go_upto_region 7 with (first | (go_at_call 75;refine (slices_Clone_int_int.calls AL cL row y _ HRR.out HRL.out B1.out).mono ?_;rintro e w2 ⟨vy,rfl,ho,hb⟩;obtain ⟨Ay,cy,ey⟩:=Kd.R_slice ho;subst ey;have HY:=Aside0.mk ho;have HB2:=Aside0.mk hb;clear ho hb hx1 HRR) | (go_at_call 76;refine (slices_Sort_int_int.calls k1 (fun _ => True) Ay cy y z wr w2 HB2.out HY.out B2.out).mono ?_;rintro e w3 ⟨rfl,h1,h2,h3⟩;have HZ:=Aside0.mk h1;have HB3:=Aside0.mk h2;have HI3:=Aside0.mk (HI.out.step HB3.out);have hz3 : w3.cell? ⟨w.heap.size + 1 + 1,0,none⟩ = some (.slice (some ⟨w.heap.size + 1,0,none⟩) l0.length l0.length):=(blk_cell HI3.out.box3 0).trans rfl;clear h1 h2 h3 HY HB2))
     go_region_with (go_at_call 77;(refine (slices_Compact_int_int.calls k1 (fun _ => True) Ay y.length cy z u wr _ (by first | exact HB3.out | exact pw_below_drewN HB3.out _ | exact below_drew HB3.out) (by first | exact HZ.out | exact Kd.R_drewN HZ.out _ | exact Kd.R_drew HZ.out) B3.out).mono ?_);rintro e w4 ⟨rfl,h1,h2,h3⟩;have HF:=HI.out.fill HC4.out HC3.out h2 h1;obtain ⟨hf,ve,hv4,hv5⟩:=HF;have HF4:=Aside0.mk hf;have HI4:=Aside0.mk (HI.out.step h2);have hz4 : w4.cell? ⟨w.heap.size + 1 + 1,0,none⟩ = some (.slice (some ⟨w.heap.size + 1,0,none⟩) l0.length l0.length):=(blk_cell HI4.out.box3 0).trans rfl;clear h1 h2 h3 hf)
     all_goals
      go_wp2
      go_roundg k1
      case measure => have:=HK1.out;omega
      case rel => exact ⟨_,_,rfl,H',⟨by have:=HK1.out;omega⟩,⟨by first | exact HF4.out | exact HF4.out.step (by repeat (first | exact Below.refl _ _ | apply below_drew | apply pw_below_drewN))⟩⟩
    ·rw [if_neg c4] at H;exact absurd H (by simp)
   ·rw [if_neg c3] at H
    obtain rfl:=Option.some.inj H
    have c3b : decide (i < (l0.length : Int)) = false:=decide_eq_false c3
    have hz3 : wr.cell? ⟨w.heap.size + 1 + 1,0,none⟩ = some (.slice (some ⟨w.heap.size + 1,0,none⟩) l0.length l0.length):=(blk_cell HI.out.box3 0).trans rfl
    have hz2 : wr.cell? ⟨w.heap.size,0,none⟩ = some (.slice none 0 0):=(blk_cell HI.out.box2 0).trans rfl
    have hf2 : wr.frozen? ⟨w.heap.size,0,none⟩ = false:=blk_frozen HI.out.box2 0
    clear c3
    go_wp2
    have hb2 : (wr.setCell ⟨w.heap.size,0,none⟩ (.slice (some ⟨w.heap.size + 1,0,none⟩) l0.length l0.length)).heap[w.heap.size]? = some (.cells #[.slice (some ⟨w.heap.size + 1,0,none⟩) l0.length l0.length] 31 (0,0)):=blk_put HI.out.box2 0 _ rfl
    refine bodyPost_ret (results_cell_row rfl _ _ w.heap.size 31 #[.slice (some ⟨w.heap.size + 1,0,none⟩) l0.length l0.length] (0,0) _ rfl hb2 Try.underlying31 rfl (by kernel_rfl)) rfl ?_
    exact ⟨_,rfl,Kd.S_mono (Kd.S_far (p:=⟨w.heap.size,0,none⟩) HI.out.inv.out (fun k_ hk_ e_ => hk_ (.inr e_)) _) (fun _ _ => trivial),below_set HI.out.inv.below (Nat.le_refl _)⟩

/-! ### impl_nexts: function 47 -/
def impl_nexts.l0 : Nat → List (List Int) → List (S56) → Int → Int → Option ((List (List Int)))
 | 0,_,_,_,_ => none
 | k + 1,x3,x9,x10,x11 => if x11 < x10 then (if 0 ≤ x11 then (if x11 < (x9.length : Int) then (if x11 < (x3.length : Int) then (impl_nexts.l0 k (x3.set (x11 : Int).toNat ((rd_T56 x9 x11).f3)) x9 x10 (wrap64 (x11 + 1))) else (none)) else (none)) else (none)) else (some x3)
def impl_nexts.f (k : Nat) (l0 : List (S56)) : Option ((List (List Int))):=if 0 ≤ (l0.length : Int) then (if ((l0.length : Int) : Int).toNat ≤ 11728124029610 then (impl_nexts.l0 k (List.replicate ((l0.length : Int) : Int).toNat []) l0 (l0.length : Int) 0) else (none)) else (none)
theorem impl_nexts.mono_l : ∀ k,(∀ y0 y1 y2 y3,LeO (impl_nexts.l0 k y0 y1 y2 y3) (impl_nexts.l0 (k + 1) y0 y1 y2 y3))
 | 0 => fun _ _ _ _ r h => by simp [impl_nexts.l0] at h
 | k + 1 => by
  have ih0:=impl_nexts.mono_l k
  ·intro y0 y1 y2 y3
   unfold impl_nexts.l0
   repeat' first
   | (with_reducible exact ih0 _ _ _ _)
   | (with_reducible exact LeO.refl _)
   | (with_reducible exact LeO.none _)
   | (with_reducible refine LeO.ite ?_ ?_)
   | (with_reducible refine LeO.bind ?_ (fun _ => ?_))
   | exact ih0 _ _ _ _
   | exact LeO.none _
   | refine LeO.ite ?_ ?_
   | refine LeO.bind ?_ (fun _ => ?_)
theorem impl_nexts.mono : ∀ a0 k,LeO (impl_nexts.f k a0) (impl_nexts.f (k + 1) a0):=by
 intro a0 k
 have ih0:=impl_nexts.mono_l k
 unfold impl_nexts.f
 repeat' first
   | (with_reducible exact ih0 _ _ _ _)
   | (with_reducible exact LeO.refl _)
   | (with_reducible exact LeO.none _)
   | (with_reducible refine LeO.ite ?_ ?_)
   | (with_reducible refine LeO.bind ?_ (fun _ => ?_))
   | exact ih0 _ _ _ _
   | exact LeO.none _
   | refine LeO.ite ?_ ?_
   | refine LeO.bind ?_ (fun _ => ?_)
set_option maxHeartbeats 8000000 in
set_option maxRecDepth 100000 in
theorem impl_nexts.calls (k : Nat) (P0_ : Nat → Prop) (A0 : Option Addr) (c0 : Nat) (l0 : List (S56)) (r : List (List Int)) (w : World) (hs0 : Kd.V k56 56 w w.heap.size (fun k_ => P0_ k_) (.slice A0 l0.length c0) l0) (h : impl_nexts.f k l0 = some r) :
  Calls Try.prog 47 #[.slice A0 l0.length c0] w fun e w' => ∃ v0_ : Value,e = .returned (v0_) ∧ Kd.N (Kd.slice 3 (Kd.int .i64)) 37 w' w.heap.size (fun k_ => (P0_ k_ ∨ w.heap.size ≤ k_)) v0_ r ∧ Below w.heap.size w w':=by
 have hu56:=Try.underlying56
 have HO0:=Aside0.mk (show Kd.V k56 56 w w.heap.size (fun k_ => (P0_ k_ ∨ w.heap.size ≤ k_)) (.slice A0 l0.length c0) l0 from Kd.V_mono hs0 (fun k_ hk => .inl hk))
 have HB:=Aside0.mk (Below.refl w.heap.size w)
 have H : (if 0 ≤ (l0.length : Int) then (if ((l0.length : Int) : Int).toNat ≤ 11728124029610 then (impl_nexts.l0 k (List.replicate ((l0.length : Int) : Int).toNat []) l0 (l0.length : Int) 0) else (none)) else (none)) = some r:=h
 clear h
 by_cases c2 : 0 ≤ (l0.length : Int)
 ·rw [if_pos c2] at H
  have c2b0:=eq_true c2
  have c2b1 : decide (0 ≤ (l0.length : Int)) = true:=decide_eq_true c2
  clear c2
  by_cases c3 : ((l0.length : Int) : Int).toNat ≤ 11728124029610
  ·rw [if_pos c3] at H
   have c3b0:=eq_true c3
   have c3b1 : decide (((l0.length : Int) : Int).toNat ≤ 11728124029610) = true:=decide_eq_true c3
   clear c3
   obtain ⟨y258,hy258⟩ : ∃ y_ : List (List Int),y_ = (List.replicate ((l0.length : Int) : Int).toNat []):=⟨_,rfl⟩
   replace H : (impl_nexts.l0 k y258 l0 (l0.length : Int) 0) = some r:=by first | (rw [hy258];with_reducible exact H) | (have H2_:=(Option.bind_some _ _).symm.trans H;rw [hy258];with_reducible exact H2_) | (have H2_:=(Option.bind_some _ _).symm.trans H;with_reducible exact H2_) | with_reducible exact H | (rw [hy258];exact H) | exact H
   have Ny258:=Aside0.mk hy258
   clear hy258
   have H':=Aside0.mk H
   clear H
   go_enter Try.func47,Try.ntmps47
   go_wp2_with (first | ((with_reducible refine gate_dst (N:=8) rfl ?_);refine Kd.N_make (Kd.slice 3 (Kd.int .i64)) _ 37 rfl (N':=8) rfl 29 _ _ rfl (l0.length : Int) rfl rfl Try.underlying29 (.slice none 0 0) 24 info37 rfl (by decide) (by omega) [] (ok:=fun k_ => w.heap.size ≤ k_) (okp:=fun _ => False) (Kd.FK_slice_mk (Nat.le_refl _) (Kd.F_nil _ _ _)) (fun _ hk => hk.elim) (Nat.le_refl _) (of_decide_eq_true (by first | (with_reducible assumption) | assumption)) (Nat.le_trans (Nat.mul_le_mul_right _ (of_decide_eq_true (by first | (with_reducible assumption) | assumption) : (l0.length : Int).toNat ≤ 11728124029610)) (by omega)) (Below.refl _ _) (Nat.le_refl _) ?_;intro v259 w4 ho5 hb hg_ hnew_;clear hg_ hnew_;(first | rw [← Ny258.out] at ho5 | (simp only [Int.reduceToNat] at ho5;rw [← Ny258.out] at ho5));have n0_:=Aside0.mk (Kd.V_elder' (by (with_reducible repeat (first | apply Kd.V_alloc | apply Kd.V_drewN | apply Kd.V_drew));exact HO0.out) (Kd.N_base ho5) hb);have n1_:=Aside0.mk (Kd.N_lower (Kd.N_mono (ok':=fun k_ => (P0_ k_ ∨ w.heap.size ≤ k_)) ho5 (fun k_ hk_ => (.inr (Nat.le_trans (below_size (by repeat (first | (with_reducible first | exact HB.out | apply below_alloc | apply pw_below_drewN | apply below_drew1) | exact HB.out))) hk_)))) (below_size (by repeat (first | (with_reducible first | exact HB.out | apply below_alloc | apply pw_below_drewN | apply below_drew1) | exact HB.out))));have n2_:=Aside0.mk (below_step (by repeat (first | (with_reducible first | exact HB.out | apply below_alloc | apply pw_below_drewN | apply below_drew1) | exact HB.out)) hb);clear HO0;clear HB;have HO0:=n0_;have HO260:=n1_;have HB:=n2_;clear n0_ n1_ n2_;clear hb ho5))
   go_loopg [11] k (fun kq v11 w' => ∃ (x3_1 : List (List Int)) (x11_1 : Int),v11 = .int .i64 x11_1 ∧ Aside0 (impl_nexts.l0 kq x3_1 l0 (l0.length : Int) x11_1 = some r) ∧ Aside0 (kq ≤ k) ∧ Aside0 (Kd.N (Kd.slice 3 (Kd.int .i64)) 37 w' w.heap.size (fun k_ => (P0_ k_ ∨ w.heap.size ≤ k_)) v259 x3_1) ∧ Aside0 (Kd.V k56 56 w' w.heap.size (fun k_ => (P0_ k_ ∨ w.heap.size ≤ k_) ∧ some k_ ≠ (v259 : Value).ownBlock) (.slice A0 l0.length c0) l0) ∧ Aside0 (Below w.heap.size w w'))
   case atStart => exact ⟨(y258),(0),(by first | rfl | (simp;done) | (simp [*];done)),H',⟨Nat.le_refl _⟩,⟨by (with_reducible repeat (first | apply Kd.N_alloc | apply Kd.N_drewN | apply Kd.N_drew));exact HO260.out⟩,⟨by (with_reducible repeat (first | apply Kd.V_alloc | apply Kd.V_drewN | apply Kd.V_drew));exact HO0.out⟩,⟨by repeat (first | (with_reducible first | exact HB.out | apply below_alloc | apply pw_below_drewN | apply below_drew1) | exact HB.out)⟩⟩
   case round =>
    clear H'
    try clear c2
    try clear c2b0
    try clear c2b1
    try clear p2
    try clear c3
    try clear c3b0
    try clear c3b1
    try clear c4
    obtain ⟨x3_1,x11_1,rfl,HA,HK1,HO_3,HO_9,HB⟩:=hrel
    cases gk with
    | zero => exact absurd HA.out (by simp [impl_nexts.l0])
    | succ k1 =>
     have H:=HA.out
     clear HA
     simp only [impl_nexts.l0] at H
     by_cases c6 : x11_1 < (l0.length : Int)
     ·rw [if_pos c6] at H
      have c6b0 : decide (x11_1 < (l0.length : Int)) = true:=decide_eq_true c6
      clear c6
      by_cases c7 : 0 ≤ x11_1
      ·rw [if_pos c7] at H
       have c7b0 : decide (0 ≤ x11_1) = true:=decide_eq_true c7
       clear c7
       by_cases c8 : x11_1 < (l0.length : Int)
       ·rw [if_pos c8] at H
        have c8b0 : decide (x11_1 < (l0.length : Int)) = true:=decide_eq_true c8
        clear c8
        by_cases c9 : x11_1 < (x3_1.length : Int)
        ·rw [if_pos c9] at H
         have c9b0 : decide (x11_1 < (x3_1.length : Int)) = true:=decide_eq_true c9
         clear c9
         obtain ⟨y263,hy263⟩ : ∃ y_ : List (List Int),y_ = (x3_1.set (x11_1 : Int).toNat ((rd_T56 l0 x11_1).f3)):=⟨_,rfl⟩
         replace H : (impl_nexts.l0 k1 y263 l0 (l0.length : Int) (wrap64 (x11_1 + 1))) = some r:=by first | (rw [hy263];with_reducible exact H) | (have H2_:=(Option.bind_some _ _).symm.trans H;rw [hy263];with_reducible exact H2_) | (have H2_:=(Option.bind_some _ _).symm.trans H;with_reducible exact H2_) | with_reducible exact H | (rw [hy263];exact H) | exact H
         have Ny263:=Aside0.mk hy263
         clear hy263
         have H':=Aside0.mk H
         clear H
         have p261 : 0 ≤ (x11_1 : Int):=of_decide_eq_true (by first | (with_reducible assumption) | assumption)
         have q261 : x11_1 < (l0.length : Int):=of_decide_eq_true (by first | (with_reducible assumption) | assumption)
         obtain ⟨ad261,A261_0,c261_0,A261_3,c261_3,e261,hx261_0,hx261_1,hx261_2,hx261_3,hl261_0,hi261_0,hl261_3,hi261_3⟩:=at_T56 (Kd.V_reads' HO_9.out).2.2 x11_1 p261 q261
         cases e261
         obtain ⟨ce261,hce261,hMe261,hcc261⟩:=Kd.V_get HO_9.out z56 x11_1 p261 (by first | exact q261 | exact of_decide_eq_true (by first | (with_reducible assumption) | assumption) | (have e_:=(Kd.V_reads' HO_9.out).1;omega))
         obtain ⟨ua261_0,uc261_0,ua261_3,uc261_3,rfl,ul261_0,ge261_0,ul261_3,ge261_3⟩:=k56_openF hMe261
         have hv261_0:=hcc261 0 _ rfl
         rw [Nat.add_zero] at hv261_0
         replace hv261_0:=Option.some.inj (hv261_0.symm.trans hx261_0)
         injection hv261_0 with hva_ hvn_ hvc_
         rw [hva_] at ge261_0
         rw [hvc_] at ul261_0
         have HL261_0:=Aside0.mk (show Kd.V k79 79 _ w.heap.size _ _ ((rd_T56 l0 x11_1).f0) from Kd.V_mk ul261_0 ge261_0)
         clear hva_ hvn_ hvc_ ge261_0 ul261_0
         have hv261_3:=hcc261 3 _ rfl
         rw [add_field _ _ 3 (by omega)] at hv261_3
         replace hv261_3:=Option.some.inj (hv261_3.symm.trans hx261_3)
         injection hv261_3 with hva_ hvn_ hvc_
         rw [hva_] at ge261_3
         rw [hvc_] at ul261_3
         have HL261_3:=Aside0.mk (show Kd.V (Kd.int .i64) 3 _ w.heap.size _ _ ((rd_T56 l0 x11_1).f3) from Kd.V_mk ul261_3 ge261_3)
         clear hva_ hvn_ hvc_ ge261_3 ul261_3
         clear hcc261 hce261
         have HR261_0:=Aside0.mk hi261_0
         have HC261_0:=Aside0.mk hl261_0
         clear hi261_0 hl261_0
         have HR261_3:=Aside0.mk hi261_3
         have HC261_3:=Aside0.mk hl261_3
         clear hi261_3 hl261_3
         replace p261:=eq_true p261
         replace q261:=eq_true q261
         go_wp2_with (first | ((with_reducible refine gate_dst (N:=5) rfl ?_);refine box_event ?hg (N:=5) ?hd (cs:=#[.slice none 0 0,.int .i64 0,.int .i64 0,.slice none 0 0]) (t:=56) ?hr ?_;(case hd => rfl);(case hg => rfl);(case hr => first | (go_simp;done) | (go_simp;rfl));intro gb262 hg w11 hbox hb;have n0_:=Aside0.mk (Kd.N_below (Kd.N_elderB (by (with_reducible repeat (first | apply Kd.N_alloc | apply Kd.N_drewN | apply Kd.N_drew));exact HO_3.out) gb262 (Nat.le_of_eq hg.symm)) hb);have n1_:=Aside0.mk (Kd.V_below (Kd.V_elderB (by (with_reducible repeat (first | apply Kd.V_alloc | apply Kd.V_drewN | apply Kd.V_drew));exact HO_9.out) gb262 (Nat.le_of_eq hg.symm)) hb);have n2_:=Aside0.mk (Kd.V_below (Kd.V_elderB (by (with_reducible repeat (first | apply Kd.V_alloc | apply Kd.V_drewN | apply Kd.V_drew));exact HL261_0.out) gb262 (Nat.le_of_eq hg.symm)) hb);have n3_:=Aside0.mk (Kd.V_below (Kd.V_elderB (by (with_reducible repeat (first | apply Kd.V_alloc | apply Kd.V_drewN | apply Kd.V_drew));exact HL261_3.out) gb262 (Nat.le_of_eq hg.symm)) hb);have n4_:=Aside0.mk (Kd.C_below (by repeat (first | (with_reducible exact HR261_0.out) | (with_reducible refine Kd.C_alloc ?_ _) | (with_reducible refine Kd.C_drewN ?_ _) | (with_reducible refine Kd.C_drew ?_) | exact HR261_0.out)) hb);have n5_:=Aside0.mk (Kd.C_below (by repeat (first | (with_reducible exact HR261_3.out) | (with_reducible refine Kd.C_alloc ?_ _) | (with_reducible refine Kd.C_drewN ?_ _) | (with_reducible refine Kd.C_drew ?_) | exact HR261_3.out)) hb);have n6_:=Aside0.mk (below_step (by repeat (first | (with_reducible first | exact HB.out | apply below_alloc | apply pw_below_drewN | apply below_drew1) | exact HB.out)) hb);have n7_:=Aside0.mk (hbox);have n8_:=Aside0.mk ((by rw [hg];exact (below_size (by repeat (first | (with_reducible first | exact HB.out | apply below_alloc | apply pw_below_drewN | apply below_drew1) | exact HB.out))) : w.heap.size ≤ gb262));have n9_:=Aside0.mk ((by rw [hg];exact (below_size (by repeat (first | (with_reducible first | exact HB.out | apply below_alloc | apply pw_below_drewN | apply below_drew1) | exact HB.out))) : w.heap.size ≤ gb262));clear HO_3;clear HO_9;clear HL261_0;clear HL261_3;clear HR261_0;clear HR261_3;clear HB;have HO_3:=n0_;have HO_9:=n1_;have HL261_0:=n2_;have HL261_3:=n3_;have HR261_0:=n4_;have HR261_3:=n5_;have HB:=n6_;have BK262:=n7_;have GW262:=n8_;have GE262:=n9_;clear n0_ n1_ n2_ n3_ n4_ n5_ n6_ n7_ n8_ n9_;clear hb hbox hg;have hcz12_0 : w11.cell? ⟨gb262,0,none⟩ = some (.slice none 0 0):=(blk_cell BK262.out 0).trans rfl;have hcz12_1 : w11.cell? ⟨gb262,1,none⟩ = some (.int .i64 0):=(blk_cell BK262.out 1).trans rfl;have hcz12_2 : w11.cell? ⟨gb262,2,none⟩ = some (.int .i64 0):=(blk_cell BK262.out 2).trans rfl;have hcz12_3 : w11.cell? ⟨gb262,3,none⟩ = some (.slice none 0 0):=(blk_cell BK262.out 3).trans rfl;have hfz12_0:=blk_frozen BK262.out 0;have hfz12_1:=blk_frozen BK262.out 1;have hfz12_2:=blk_frozen BK262.out 2;have hfz12_3:=blk_frozen BK262.out 3) | ((with_reducible refine gate_store (t:=56) (p:=5) rfl ?_);refine store_event (t:=56) (p:=5) (v:=?vo_w13) (w1:=((((w11.setCell ⟨gb262,0,none⟩ (.slice A261_0 ((rd_T56 l0 x11_1).f0).length c261_0)).setCell ⟨gb262,1,none⟩ (.int .i64 ((rd_T56 l0 x11_1).f1))).setCell ⟨gb262,2,none⟩ (.int .i64 ((rd_T56 l0 x11_1).f2))).setCell ⟨gb262,3,none⟩ (.slice A261_3 ((rd_T56 l0 x11_1).f3).length c261_3))) ?hg ?ho ?hn ?hr ?_;(case ho => rfl);(case hg => rfl);(case hn => rfl);(case hr => first | (go_simp;done) | (go_simp;rfl));intro w13 hw;have n0_ : Aside0 (Kd.N (Kd.slice 3 (Kd.int .i64)) 37 w13 w.heap.size (fun k_ => (P0_ k_ ∨ w.heap.size ≤ k_) ∧ k_ ≠ gb262) v259 x3_1):=⟨(by rw [hw];exact (by (with_reducible repeat (first | apply Kd.N_alloc | apply Kd.N_drewN | apply Kd.N_drew));exact Kd.N_mono (Kd.N_far (p:=⟨gb262,3,none⟩) (Kd.N_far (p:=⟨gb262,2,none⟩) (Kd.N_far (p:=⟨gb262,1,none⟩) (Kd.N_far (p:=⟨gb262,0,none⟩) (Kd.N_mono HO_3.out (fun k_ hk => (⟨hk,hk.2⟩ : _ ∧ k_ ≠ gb262))) (fun _ hk => hk.2) (.slice A261_0 ((rd_T56 l0 x11_1).f0).length c261_0)) (fun _ hk => hk.2) (.int .i64 ((rd_T56 l0 x11_1).f1))) (fun _ hk => hk.2) (.int .i64 ((rd_T56 l0 x11_1).f2))) (fun _ hk => hk.2) (.slice A261_3 ((rd_T56 l0 x11_1).f3).length c261_3)) (fun _ hk => ⟨hk.1.1,hk.1.2⟩)))⟩;have n1_ : Aside0 (Kd.V k56 56 w13 w.heap.size (fun k_ => (P0_ k_ ∨ w.heap.size ≤ k_) ∧ some k_ ≠ (v259 : Value).ownBlock ∧ k_ ≠ gb262) (.slice (some ad261) l0.length c0) l0):=⟨(by rw [hw];exact (by (with_reducible repeat (first | apply Kd.V_alloc | apply Kd.V_drewN | apply Kd.V_drew));exact Kd.V_mono (Kd.V_far (p:=⟨gb262,3,none⟩) (Kd.V_far (p:=⟨gb262,2,none⟩) (Kd.V_far (p:=⟨gb262,1,none⟩) (Kd.V_far (p:=⟨gb262,0,none⟩) (Kd.V_mono HO_9.out (fun k_ hk => (⟨hk,hk.2⟩ : _ ∧ k_ ≠ gb262))) (fun _ hk => hk.2) (.slice A261_0 ((rd_T56 l0 x11_1).f0).length c261_0)) (fun _ hk => hk.2) (.int .i64 ((rd_T56 l0 x11_1).f1))) (fun _ hk => hk.2) (.int .i64 ((rd_T56 l0 x11_1).f2))) (fun _ hk => hk.2) (.slice A261_3 ((rd_T56 l0 x11_1).f3).length c261_3)) (fun _ hk => ⟨hk.1.1.1,⟨hk.1.1.2,hk.1.2⟩⟩)))⟩;have n2_ : Aside0 (Kd.V k79 79 w13 w.heap.size (fun k_ => (P0_ k_ ∨ w.heap.size ≤ k_) ∧ some k_ ≠ (v259 : Value).ownBlock ∧ k_ ≠ gb262) (.slice A261_0 ((rd_T56 l0 x11_1).f0).length c261_0) ((rd_T56 l0 x11_1).f0)):=⟨(by rw [hw];exact (by (with_reducible repeat (first | apply Kd.V_alloc | apply Kd.V_drewN | apply Kd.V_drew));exact Kd.V_mono (Kd.V_far (p:=⟨gb262,3,none⟩) (Kd.V_far (p:=⟨gb262,2,none⟩) (Kd.V_far (p:=⟨gb262,1,none⟩) (Kd.V_far (p:=⟨gb262,0,none⟩) (Kd.V_mono HL261_0.out (fun k_ hk => (⟨hk,hk.2⟩ : _ ∧ k_ ≠ gb262))) (fun _ hk => hk.2) (.slice A261_0 ((rd_T56 l0 x11_1).f0).length c261_0)) (fun _ hk => hk.2) (.int .i64 ((rd_T56 l0 x11_1).f1))) (fun _ hk => hk.2) (.int .i64 ((rd_T56 l0 x11_1).f2))) (fun _ hk => hk.2) (.slice A261_3 ((rd_T56 l0 x11_1).f3).length c261_3)) (fun _ hk => ⟨hk.1.1.1,⟨hk.1.1.2,hk.1.2⟩⟩)))⟩;have n3_ : Aside0 (Kd.V (Kd.int .i64) 3 w13 w.heap.size (fun k_ => (P0_ k_ ∨ w.heap.size ≤ k_) ∧ some k_ ≠ (v259 : Value).ownBlock ∧ k_ ≠ gb262) (.slice A261_3 ((rd_T56 l0 x11_1).f3).length c261_3) ((rd_T56 l0 x11_1).f3)):=⟨(by rw [hw];exact (by (with_reducible repeat (first | apply Kd.V_alloc | apply Kd.V_drewN | apply Kd.V_drew));exact Kd.V_mono (Kd.V_far (p:=⟨gb262,3,none⟩) (Kd.V_far (p:=⟨gb262,2,none⟩) (Kd.V_far (p:=⟨gb262,1,none⟩) (Kd.V_far (p:=⟨gb262,0,none⟩) (Kd.V_mono HL261_3.out (fun k_ hk => (⟨hk,hk.2⟩ : _ ∧ k_ ≠ gb262))) (fun _ hk => hk.2) (.slice A261_0 ((rd_T56 l0 x11_1).f0).length c261_0)) (fun _ hk => hk.2) (.int .i64 ((rd_T56 l0 x11_1).f1))) (fun _ hk => hk.2) (.int .i64 ((rd_T56 l0 x11_1).f2))) (fun _ hk => hk.2) (.slice A261_3 ((rd_T56 l0 x11_1).f3).length c261_3)) (fun _ hk => ⟨hk.1.1.1,⟨hk.1.1.2,hk.1.2⟩⟩)))⟩;have n4_ : Aside0 (w13.heap[gb262]? = some (.cells #[.slice A261_0 ((rd_T56 l0 x11_1).f0).length c261_0,.int .i64 ((rd_T56 l0 x11_1).f1),.int .i64 ((rd_T56 l0 x11_1).f2),.slice A261_3 ((rd_T56 l0 x11_1).f3).length c261_3] 56 (0,0))):=⟨(by rw [hw];exact (by (with_reducible repeat (first | refine blk_drewN ?_ _ | refine blk_drew ?_ | refine blk_alloc ?_ _));refine blk_put (cs:=#[.slice A261_0 ((rd_T56 l0 x11_1).f0).length c261_0,.int .i64 ((rd_T56 l0 x11_1).f1),.int .i64 ((rd_T56 l0 x11_1).f2),.slice none 0 0]) ?_ 3 _ rfl;(with_reducible repeat (first | refine blk_drewN ?_ _ | refine blk_drew ?_ | refine blk_alloc ?_ _));refine blk_put (cs:=#[.slice A261_0 ((rd_T56 l0 x11_1).f0).length c261_0,.int .i64 ((rd_T56 l0 x11_1).f1),.int .i64 0,.slice none 0 0]) ?_ 2 _ rfl;(with_reducible repeat (first | refine blk_drewN ?_ _ | refine blk_drew ?_ | refine blk_alloc ?_ _));refine blk_put (cs:=#[.slice A261_0 ((rd_T56 l0 x11_1).f0).length c261_0,.int .i64 0,.int .i64 0,.slice none 0 0]) ?_ 1 _ rfl;(with_reducible repeat (first | refine blk_drewN ?_ _ | refine blk_drew ?_ | refine blk_alloc ?_ _));refine blk_put (cs:=#[.slice none 0 0,.int .i64 0,.int .i64 0,.slice none 0 0]) ?_ 0 _ rfl;(with_reducible repeat (first | refine blk_drewN ?_ _ | refine blk_drew ?_ | refine blk_alloc ?_ _));exact BK262.out))⟩;have n5_ : Aside0 (Below w.heap.size w w13):=⟨(by rw [hw];exact (by repeat (first | (with_reducible first | exact HB.out | apply below_alloc | apply pw_below_drewN | apply below_drew1 | refine below_set ?_ GE262.out) | exact HB.out)))⟩;clear hw;clear HO_3;clear HO_9;clear HL261_0;clear HL261_3;clear BK262;clear HB;have HO_3:=n0_;have HO_9:=n1_;have HL261_0:=n2_;have HL261_3:=n3_;have BK262:=n4_;have HB:=n5_;clear n0_ n1_ n2_ n3_ n4_ n5_;have hcz14_0 : w13.cell? ⟨gb262,0,none⟩ = some (.slice A261_0 ((rd_T56 l0 x11_1).f0).length c261_0):=(blk_cell BK262.out 0).trans rfl;have hcz14_1 : w13.cell? ⟨gb262,1,none⟩ = some (.int .i64 ((rd_T56 l0 x11_1).f1)):=(blk_cell BK262.out 1).trans rfl;have hcz14_2 : w13.cell? ⟨gb262,2,none⟩ = some (.int .i64 ((rd_T56 l0 x11_1).f2)):=(blk_cell BK262.out 2).trans rfl;have hcz14_3 : w13.cell? ⟨gb262,3,none⟩ = some (.slice A261_3 ((rd_T56 l0 x11_1).f3).length c261_3):=(blk_cell BK262.out 3).trans rfl;have hfz14_0:=blk_frozen BK262.out 0;have hfz14_1:=blk_frozen BK262.out 1;have hfz14_2:=blk_frozen BK262.out 2;have hfz14_3:=blk_frozen BK262.out 3;have p10 : 0 ≤ (x11_1 : Int):=of_decide_eq_true (by first | (with_reducible assumption) | assumption);have q10 : (x11_1 : Int) < ((x3_1.length : Int) : Int):=of_decide_eq_true (by first | (with_reducible assumption) | assumption);obtain ⟨go10,co10,eo10,gb10,gl10,cl10,HG10⟩:=Kd.N_form HO_3.out (by omega);(first | cases eo10 | (injection eo10 with ea_ en_ ec_;(first | subst ea_ | (injection ea_ with ea_;subst ea_));subst ec_;clear en_));have GB10:=Aside0.mk gb10;have GG10:=Aside0.mk HG10;clear gb10 gl10 HG10;obtain ⟨ce10,hcl10,hM10,hcc10,hfr10⟩:=Kd.N_elem HO_3.out [] (x11_1 : Int) p10 q10;obtain ⟨ua10_0,uc10_0,rfl,ul10_0,ge10_0⟩:=Kd.FK_slice_open hM10;have hx10_0:=hcc10 0 _ rfl;have hf10_0:=hfr10 0;(try simp only [show ((Kd.slice 3 (Kd.int .i64))).sz = 1 from rfl,Nat.mul_one,Nat.add_zero] at hx10_0);(try simp only [show ((Kd.slice 3 (Kd.int .i64))).sz = 1 from rfl,Nat.mul_one,Nat.add_zero] at hf10_0);clear hcl10 hcc10 hfr10;(try clear hM10);replace p10:=eq_true p10;replace q10:=eq_true q10;have HX15:=Aside0.mk (show Kd.N (Kd.slice 3 (Kd.int .i64)) 37 w13 w.heap.size (fun k_ => (P0_ k_ ∨ w.heap.size ≤ k_) ∧ k_ ≠ gb262) (.slice (some ⟨go10,0,none⟩) x3_1.length co10) x3_1 from (by (with_reducible repeat (first | apply Kd.N_alloc | apply Kd.N_drewN | apply Kd.N_drew));exact HO_3.out));obtain ⟨ce15,hcl15,hM15,hcc15,hfr15⟩:=Kd.N_elem HX15.out [] (x11_1 : Int) (of_decide_eq_true (by first | (with_reducible assumption) | assumption)) (by have h_ : (x11_1 : Int) < ((x3_1.length : Int) : Int):=of_decide_eq_true (by first | (with_reducible assumption) | assumption);first | exact h_ | (have e_:=(Kd.N_reads' HO_3.out).1;omega) | simpa using h_);obtain ⟨ua15_0,uc15_0,rfl,ul15_0,ge15_0⟩:=Kd.FK_slice_open hM15;have HP15:=Kd.N_seg HX15.out (x11_1 : Int) (of_decide_eq_true (by first | (with_reducible assumption) | assumption)) (by have h_ : (x11_1 : Int) < ((x3_1.length : Int) : Int):=of_decide_eq_true (by first | (with_reducible assumption) | assumption);first | exact h_ | (have e_:=(Kd.N_reads' HO_3.out).1;omega) | simpa using h_) (seg:=[.slice A261_3 ((rd_T56 l0 x11_1).f3).length c261_3]) (j:=0) hcl15 hcc15 (show 1 ≤ 1 from by decide) (x':=(rd_T56 l0 x11_1).f3) (Kd.FK_slice_mk (Kd.V_reads' (Kd.V_mono (ok':=(fun k_ => ((fun k_ => (P0_ k_ ∨ w.heap.size ≤ k_) ∧ k_ ≠ gb262)) k_ ∧ k_ ≠ go10)) (HL261_3.out) (fun k_ hk => ⟨⟨hk.1,hk.2.2⟩,fun e_ => (hk.2.1) (by rw [e_];rfl)⟩))).2.1 (Kd.V_F (Kd.V_mono (ok':=(fun k_ => ((fun k_ => (P0_ k_ ∨ w.heap.size ≤ k_) ∧ k_ ≠ gb262)) k_ ∧ k_ ≠ go10)) (HL261_3.out) (fun k_ hk => ⟨⟨hk.1,hk.2.2⟩,fun e_ => (hk.2.1) (by rw [e_];rfl)⟩)))) (fun _ hk => hk);have hx15_0:=hcc15 0 _ rfl;(try simp only [show ((Kd.slice 3 (Kd.int .i64))).sz = 1 from rfl,Nat.mul_one,Nat.add_zero] at hx15_0);have hf15_0:=hfr15 0;(try simp only [show ((Kd.slice 3 (Kd.int .i64))).sz = 1 from rfl,Nat.mul_one,Nat.add_zero] at hf15_0);clear hcl15 hcc15 hfr15;(try clear hM15);(try simp only [show ((Kd.slice 3 (Kd.int .i64))).sz = 1 from rfl,Nat.mul_one,Nat.add_zero] at HP15);(try simp only [show ((Kd.slice 3 (Kd.int .i64))).sz = 1 from rfl,Nat.mul_one,Nat.add_zero] at HP15)) | ((with_reducible refine gate_store (t:=37) (p:=20) rfl ?_);refine store_event (t:=37) (p:=20) (v:=?vo_w16) (w1:=(w13.setCell ⟨go10,(x11_1 : Int).toNat,none⟩ (.slice A261_3 ((rd_T56 l0 x11_1).f3).length c261_3))) ?hg ?ho ?hn ?hr ?_;(case ho => rfl);(case hg => rfl);(case hn => rfl);(case hr => first | (go_simp;done) | (go_simp;rfl));intro w16 hw;have hg : w13.grownBy w16 (some go10):=(by rw [hw];exact HP15.2);have hp_ : Kd.N (Kd.slice 3 (Kd.int .i64)) 37 w16 w.heap.size (fun k_ => (P0_ k_ ∨ w.heap.size ≤ k_) ∧ k_ ≠ gb262) (.slice (some ⟨go10,0,none⟩) x3_1.length co10) y263:=(by rw [hw,Ny263.out];exact HP15.1);clear HP15;have n0_:=Aside0.mk (hp_);have n1_:=Aside0.mk (Kd.V_afterv (v:=(.slice (some ⟨go10,0,none⟩) x3_1.length co10)) (v1:=(.slice (some ⟨go10,0,none⟩) x3_1.length co10)) (ok:=(fun k_ => (P0_ k_ ∨ w.heap.size ≤ k_) ∧ k_ ≠ gb262)) (by (with_reducible repeat (first | apply Kd.V_alloc | apply Kd.V_drewN | apply Kd.V_drew));exact Kd.V_mono HO_9.out (fun _ hk => ⟨⟨hk.1,hk.2.2⟩,hk.2.1⟩)) hg (.inl rfl));have n2_:=Aside0.mk (Kd.V_afterv (v:=(.slice (some ⟨go10,0,none⟩) x3_1.length co10)) (v1:=(.slice (some ⟨go10,0,none⟩) x3_1.length co10)) (ok:=(fun k_ => (P0_ k_ ∨ w.heap.size ≤ k_) ∧ k_ ≠ gb262)) (by (with_reducible repeat (first | apply Kd.V_alloc | apply Kd.V_drewN | apply Kd.V_drew));exact Kd.V_mono HL261_0.out (fun _ hk => ⟨⟨hk.1,hk.2.2⟩,hk.2.1⟩)) hg (.inl rfl));have n3_:=Aside0.mk (Kd.V_afterv (v:=(.slice (some ⟨go10,0,none⟩) x3_1.length co10)) (v1:=(.slice (some ⟨go10,0,none⟩) x3_1.length co10)) (ok:=(fun k_ => (P0_ k_ ∨ w.heap.size ≤ k_) ∧ k_ ≠ gb262)) (by (with_reducible repeat (first | apply Kd.V_alloc | apply Kd.V_drewN | apply Kd.V_drew));exact Kd.V_mono HL261_3.out (fun _ hk => ⟨⟨hk.1,hk.2.2⟩,hk.2.1⟩)) hg (.inl rfl));have n4_:=Aside0.mk (blk_grown (g:=gb262) (o:=.cells #[.slice A261_0 ((rd_T56 l0 x11_1).f0).length c261_0,.int .i64 ((rd_T56 l0 x11_1).f1),.int .i64 ((rd_T56 l0 x11_1).f2),.slice A261_3 ((rd_T56 l0 x11_1).f3).length c261_3] 56 (0,0)) (by (with_reducible repeat (first | refine blk_drewN ?_ _ | refine blk_drew ?_ | refine blk_alloc ?_ _));exact BK262.out) hg (Kd.N_ne HO_3.out BK262.out (by decide)));have n5_:=Aside0.mk ((by rw [hw];exact below_set (HB.out) GB10.out : Below w.heap.size w w16));clear HO_3;clear HO_9;clear HL261_0;clear HL261_3;clear BK262;clear HB;have HO_3:=n0_;have HO_9:=n1_;have HL261_0:=n2_;have HL261_3:=n3_;have BK262:=n4_;have HB:=n5_;clear n0_ n1_ n2_ n3_ n4_ n5_;clear hg hw hp_))
         go_roundg k1
         case measure => have:=HK1.out;omega
         case rel => exact ⟨(y263),(wrap64 (x11_1 + 1)),(by first | rfl | (simp;done) | (simp [*];done)),H',⟨by have:=HK1.out;omega⟩,⟨by (with_reducible repeat (first | apply Kd.N_alloc | apply Kd.N_drewN | apply Kd.N_drew));exact Kd.N_mono HO_3.out (fun _ hk => hk.1)⟩,⟨by (with_reducible repeat (first | apply Kd.V_alloc | apply Kd.V_drewN | apply Kd.V_drew));exact Kd.V_mono HO_9.out (fun _ hk => ⟨hk.1.1,hk.2⟩)⟩,⟨by repeat (first | (with_reducible first | exact HB.out | apply below_alloc | apply pw_below_drewN | apply below_drew1 | refine below_set ?_ GE262.out) | exact HB.out)⟩⟩
        ·rw [if_neg c9] at H
         exact absurd H (by simp)
       ·rw [if_neg c8] at H
        exact absurd H (by simp)
      ·rw [if_neg c7] at H
       exact absurd H (by simp)
     ·rw [if_neg c6] at H
      have c6b0 : decide (x11_1 < (l0.length : Int)) = false:=decide_eq_false c6
      clear c6
      obtain rfl:=Option.some.inj H
      go_wp2
      go_ret
      exact ⟨_,by first | rfl | (simp [errW_none,errW_some] <;> rfl) | (simp [*,errW_none,errW_some] <;> rfl),by (with_reducible repeat (first | apply Kd.N_alloc | apply Kd.N_drewN | apply Kd.N_drew));exact HO_3.out,by repeat (first | (with_reducible first | exact HB.out | apply below_alloc | apply pw_below_drewN | apply below_drew1) | exact HB.out)⟩
  ·rw [if_neg c3] at H
   exact absurd H (by simp)
 ·rw [if_neg c2] at H
  exact absurd H (by simp)

/-! ### impl_GraphOf: function 15 (by hand: rows that are read alone are handed on, what comes back is new) -/
def impl_GraphOf.f (k : Nat) (l : List S56) : Option (List (List Int) × Bool):=(impl_GoodFlow.f k l).bind fun t => (if t = true then (if (l.length : Int) > 12 then some ([],false) else ((impl_nexts.f k l).bind fun a => ((impl_graphOf.f k a).bind fun b => some (b,true)))) else some ([],false))
theorem impl_GraphOf.mono : ∀ a0 k,LeO (impl_GraphOf.f k a0) (impl_GraphOf.f (k + 1) a0):=by
 intro a0 k
 unfold impl_GraphOf.f
 repeat' first
   | (with_reducible exact impl_GoodFlow.mono _ _)
   | (with_reducible exact impl_nexts.mono _ _)
   | (with_reducible exact impl_graphOf.mono _ _)
   | (with_reducible exact LeO.refl _)
   | (with_reducible exact LeO.none _)
   | (with_reducible refine LeO.ite ?_ ?_)
   | (with_reducible refine LeO.bind ?_ (fun _ => ?_))
set_option maxHeartbeats 8000000 in
set_option maxRecDepth 100000 in
theorem impl_GraphOf.calls (k : Nat) (A0 : Option Addr) (c0 : Nat) (l0 : List S56) (r1 : List (List Int)) (r2 : Bool) (w : World) (hr0 : Kd.C k56 w A0 l0.length l0) (hc0 : l0.length ≤ c0) (h : impl_GraphOf.f k l0 = some (r1,r2)) :
  Calls Try.prog 15 #[.slice A0 l0.length c0] w fun e w' => ∃ v0_ : Value,e = .returned (.tuple #[.agg #[v0_],.bool r2]) ∧ Kd.S (Kd.slice 3 (Kd.int .i64)) 37 w' w.heap.size (fun _ => True) v0_ r1 ∧ Below w.heap.size w w':=by
 have hu31:=Try.underlying31
 have HR0:=Aside0.mk hr0
 have HC0:=Aside0.mk hc0
 have HBX:=Aside0.mk (heap_alloc_new w (.cells #[.slice none 0 0] 31))
 have HB:=Aside0.mk (below_alloc (Below.refl w.heap.size w) (.cells #[.slice none 0 0] 31))
 clear hr0 hc0
 unfold impl_GraphOf.f at h
 obtain ⟨t,A1,H⟩:=Option.bind_eq_some_iff.mp h
 have A:=Aside0.mk A1
 clear h A1
 cases t with
 | false =>
  rw [if_neg (by decide)] at H
  simp only [Option.some.injEq,Prod.mk.injEq] at H
  obtain ⟨rfl,rfl⟩:=H
  go_enter Try.func15,Try.ntmps15
  go_wp2_with (first | (go_at_call 12;(refine (impl_GoodFlow.calls k _ _ l0 false _ (Kd.C_below HR0.out HB.out) HC0.out A.out).mono ?_);rintro e w2 ⟨rfl,hb⟩;have HB2:=Aside0.mk (below_step HB.out hb);have HBX2:=Aside0.mk (blk_below HBX.out hb);have hcz : w2.cell? ⟨w.heap.size,0,none⟩ = some (.slice none 0 0):=(blk_cell HBX2.out 0).trans rfl;have hfz:=blk_frozen HBX2.out 0;clear hb))
  refine bodyPost_ret (results_ct rfl _ _ w.heap.size 31 #[.slice none 0 0] (0,0) _ rfl (blk_put (cs:=#[.slice none 0 0]) (by first | exact HBX2.out | exact blk_drewN HBX2.out _) 0 _ rfl) Try.underlying31 rfl (by kernel_rfl)) rfl ?_
  exact ⟨_,rfl,Kd.S_nil _ _ _ _ _,below_set HB2.out (Nat.le_refl _)⟩
 | true =>
  rw [if_pos rfl] at H
  by_cases c : (l0.length : Int) > 12
  ·rw [if_pos c] at H
   simp only [Option.some.injEq,Prod.mk.injEq] at H
   obtain ⟨rfl,rfl⟩:=H
   have cb : decide ((l0.length : Int) > 12) = true:=decide_eq_true c
   have cb2 : decide ((12 : Int) < (l0.length : Int)) = true:=decide_eq_true c
   have p3:=eq_true c
   clear c
   go_enter Try.func15,Try.ntmps15
   go_wp2_with (first | (go_at_call 12;(refine (impl_GoodFlow.calls k _ _ l0 true _ (Kd.C_below HR0.out HB.out) HC0.out A.out).mono ?_);rintro e w2 ⟨rfl,hb⟩;have HB2:=Aside0.mk (below_step HB.out hb);have HBX2:=Aside0.mk (blk_below HBX.out hb);have hcz : w2.cell? ⟨w.heap.size,0,none⟩ = some (.slice none 0 0):=(blk_cell HBX2.out 0).trans rfl;have hfz:=blk_frozen HBX2.out 0;clear hb))
   refine bodyPost_ret (results_ct rfl _ _ w.heap.size 31 #[.slice none 0 0] (0,0) _ rfl (blk_put (cs:=#[.slice none 0 0]) (by first | exact HBX2.out | exact blk_drewN HBX2.out _) 0 _ rfl) Try.underlying31 rfl (by kernel_rfl)) rfl ?_
   exact ⟨_,rfl,Kd.S_nil _ _ _ _ _,below_set HB2.out (Nat.le_refl _)⟩
  ·rw [if_neg c] at H
   obtain ⟨a,D1,H⟩:=Option.bind_eq_some_iff.mp H
   obtain ⟨b,E1,H⟩:=Option.bind_eq_some_iff.mp H
   simp only [Option.some.injEq,Prod.mk.injEq] at H
   obtain ⟨rfl,rfl⟩:=H
   have D:=Aside0.mk D1
   have E:=Aside0.mk E1
   have cb : decide ((l0.length : Int) > 12) = false:=decide_eq_false c
   have cb2 : decide ((12 : Int) < (l0.length : Int)) = false:=decide_eq_false c
   have p3:=eq_false c
   clear c D1 E1
   go_enter Try.func15,Try.ntmps15
   go_wp2_with (first | (go_at_call 12;(refine (impl_GoodFlow.calls k _ _ l0 true _ (Kd.C_below HR0.out HB.out) HC0.out A.out).mono ?_);rintro e w2 ⟨rfl,hb⟩;have HB2:=Aside0.mk (below_step HB.out hb);have HBX2:=Aside0.mk (blk_below HBX.out hb);clear hb) | (go_at_call 47;(refine (impl_nexts.calls k (fun k_ => k_ < w.heap.size) _ _ l0 a _ (Kd.V_mk HC0.out (Kd.F_below (Kd.C_F k56_heap HR0.out) HB2.out)) D.out).mono ?_);rintro e w3 ⟨v3,rfl,ho,hb⟩;obtain ⟨A3,c3,e3⟩:=Kd.N_slice ho;subst e3;have HN:=Aside0.mk (Kd.N_reads' ho);have HB3:=Aside0.mk (below_step HB2.out hb);have HBX3:=Aside0.mk (blk_below HBX2.out hb);clear ho hb) | (go_at_call 46;(refine (impl_graphOf.calls k A3 c3 a b _ HN.out.2.2 HN.out.2.1 E.out).mono ?_);rintro e w4 ⟨v4,rfl,ho,hb⟩;obtain ⟨A4,c4,e4⟩:=Kd.S_slice ho;subst e4;have HS:=Aside0.mk (Kd.S_lower (Kd.S_mono (ok':=fun k_ => k_ ≠ w.heap.size) (Kd.S_bound ho) (fun k_ hk_ => by have h1_:=hk_.2.1;have h2_:=blk_lt HBX3.out;omega)) HB3.out.size);have HB4:=Aside0.mk (below_step HB3.out hb);have HBX4:=Aside0.mk (blk_below HBX3.out hb);have hcz : w4.cell? ⟨w.heap.size,0,none⟩ = some (.slice none 0 0):=(blk_cell HBX4.out 0).trans rfl;have hfz:=blk_frozen HBX4.out 0;clear ho hb))
   refine bodyPost_ret (results_ct rfl _ _ w.heap.size 31 #[.slice A4 b.length c4] (0,0) _ rfl (blk_put (cs:=#[.slice none 0 0]) HBX4.out 0 _ rfl) Try.underlying31 rfl (by kernel_rfl)) rfl ?_
   exact ⟨_,rfl,Kd.S_mono (Kd.S_far (p:=⟨w.heap.size,0,none⟩) HS.out (fun _ h_ => h_) _) (fun _ _ => trivial),below_set HB4.out (Nat.le_refl _)⟩

/-! ### laws_eqIntSS: function 27 -/
def laws_eqIntSS.l0 : Nat → List (List Int) → List (List Int) → Int → Option (Bool)
 | 0,_,_,_ => none
 | k + 1,x0,x1,x5 => if x5 < (x0.length : Int) then (if 0 ≤ x5 then (if x5 < (x1.length : Int) then ((laws_eqIntS.f k (rd_L3 x0 x5) (rd_L3 x1 x5)).bind fun t266 => (if t266 = true then (laws_eqIntSS.l0 k x0 x1 (wrap64 (x5 + 1))) else (some false))) else (none)) else (none)) else (some true)
def laws_eqIntSS.f (k : Nat) (l0 : List (List Int)) (l1 : List (List Int)) : Option (Bool):=if (l0.length : Int) = (l1.length : Int) then (laws_eqIntSS.l0 k l0 l1 0) else (some false)
theorem laws_eqIntSS.mono_l : ∀ k,(∀ y0 y1 y2,LeO (laws_eqIntSS.l0 k y0 y1 y2) (laws_eqIntSS.l0 (k + 1) y0 y1 y2))
 | 0 => fun _ _ _ r h => by simp [laws_eqIntSS.l0] at h
 | k + 1 => by
  have ih0:=laws_eqIntSS.mono_l k
  ·intro y0 y1 y2
   unfold laws_eqIntSS.l0
   repeat' first
   | (with_reducible exact ih0 _ _ _)
   | (with_reducible exact laws_eqIntS.mono _ _ _)
   | (with_reducible exact LeO.refl _)
   | (with_reducible exact LeO.none _)
   | (with_reducible refine LeO.ite ?_ ?_)
   | (with_reducible refine LeO.bind ?_ (fun _ => ?_))
   | exact ih0 _ _ _
   | exact laws_eqIntS.mono _ _ _
   | exact LeO.none _
   | refine LeO.ite ?_ ?_
   | refine LeO.bind ?_ (fun _ => ?_)
theorem laws_eqIntSS.mono : ∀ a0 a1 k,LeO (laws_eqIntSS.f k a0 a1) (laws_eqIntSS.f (k + 1) a0 a1):=by
 intro a0 a1 k
 have ih0:=laws_eqIntSS.mono_l k
 unfold laws_eqIntSS.f
 repeat' first
   | (with_reducible exact ih0 _ _ _)
   | (with_reducible exact laws_eqIntS.mono _ _ _)
   | (with_reducible exact LeO.refl _)
   | (with_reducible exact LeO.none _)
   | (with_reducible refine LeO.ite ?_ ?_)
   | (with_reducible refine LeO.bind ?_ (fun _ => ?_))
   | exact ih0 _ _ _
   | exact laws_eqIntS.mono _ _ _
   | exact LeO.none _
   | refine LeO.ite ?_ ?_
   | refine LeO.bind ?_ (fun _ => ?_)
set_option maxHeartbeats 8000000 in
set_option maxRecDepth 100000 in
theorem laws_eqIntSS.calls (k : Nat) (A0 : Option Addr) (c0 : Nat) (l0 : List (List Int)) (A1 : Option Addr) (c1 : Nat) (l1 : List (List Int)) (r : Bool) (w : World) (hr0 : Kd.C (Kd.slice 3 (Kd.int .i64)) w A0 l0.length l0) (hc0 : l0.length ≤ c0) (hr1 : Kd.C (Kd.slice 3 (Kd.int .i64)) w A1 l1.length l1) (hc1 : l1.length ≤ c1) (h : laws_eqIntSS.f k l0 l1 = some r) :
  Calls Try.prog 27 #[.slice A0 l0.length c0,.slice A1 l1.length c1] w fun e w' => e = .returned (.bool r) ∧ Drawn0 w w':=by
 have HR0:=Aside0.mk hr0
 have HC0:=Aside0.mk hc0
 clear hr0 hc0
 have HR1:=Aside0.mk hr1
 have HC1:=Aside0.mk hc1
 clear hr1 hc1
 have H : (if (l0.length : Int) = (l1.length : Int) then (laws_eqIntSS.l0 k l0 l1 0) else (some false)) = some r:=h
 clear h
 by_cases c3 : (l0.length : Int) = (l1.length : Int)
 ·rw [if_pos c3] at H
  have c3b0 : ((l0.length : Int) == (l1.length : Int)) = true:=beq_iff_eq.mpr c3
  have c3b1 : ((l0.length : Int) != (l1.length : Int)) = false:=bne_eq_false_iff_eq.mpr c3
  have c3b2 : (l0.length == l1.length) = true:=by first | simpa using c3 | (simp at c3 ⊢;omega)
  clear c3
  have H':=Aside0.mk H
  clear H
  go_enter Try.func27,Try.ntmps27
  go_wp2
  repeat (go_quiet (fail);try go_wp2)
  go_loopg [5] k (fun kq v5 w' => ∃ (x5_1 : Int),v5 = .int .i64 x5_1 ∧ Aside0 (laws_eqIntSS.l0 kq l0 l1 x5_1 = some r) ∧ Aside0 (kq ≤ k) ∧ Drawn0 w w')
  case atStart => exact ⟨(0),(by first | rfl | (simp;done) | (simp [*];done)),H',⟨Nat.le_refl _⟩,by repeat (first | exact Drawn0.refl _ | apply Drawn0.step)⟩
  case round =>
   clear H'
   try clear c1
   try clear c2
   try clear p2
   try clear c3
   try clear c3b0
   try clear c3b1
   try clear c3b2
   obtain ⟨x5_1,rfl,HA,HK1,⟨m1,rfl⟩⟩:=hrel
   cases gk with
   | zero => exact absurd HA.out (by simp [laws_eqIntSS.l0])
   | succ k1 =>
    have H:=HA.out
    clear HA
    simp only [laws_eqIntSS.l0] at H
    by_cases c4 : x5_1 < (l0.length : Int)
    ·rw [if_pos c4] at H
     have c4b0 : decide (x5_1 < (l0.length : Int)) = true:=decide_eq_true c4
     clear c4
     by_cases c5 : 0 ≤ x5_1
     ·rw [if_pos c5] at H
      have c5b0 : decide (0 ≤ x5_1) = true:=decide_eq_true c5
      clear c5
      by_cases c6 : x5_1 < (l1.length : Int)
      ·rw [if_pos c6] at H
       have c6b0 : decide (x5_1 < (l1.length : Int)) = true:=decide_eq_true c6
       clear c6
       replace H:=Option.bind_eq_some_iff.mp H
       obtain ⟨t266,A70,H⟩:=H
       replace H : (if t266 = true then (laws_eqIntSS.l0 k1 l0 l1 (wrap64 (x5_1 + 1))) else (some false)) = some r:=H
       have A7:=Aside0.mk A70
       clear A70
       by_cases c8 : t266 = true
       ·subst c8
        have H1 : (laws_eqIntSS.l0 k1 l0 l1 (wrap64 (x5_1 + 1))) = some r:=by rw [if_pos rfl] at H;exact H
        clear H
        have H:=H1
        clear H1
        have H':=Aside0.mk H
        clear H
        have p264 : 0 ≤ (x5_1 : Int):=of_decide_eq_true (by first | (with_reducible assumption) | assumption)
        have q264 : x5_1 < (l0.length : Int):=of_decide_eq_true (by first | (with_reducible assumption) | assumption)
        obtain ⟨ad264,A264_0,c264_0,e264,hx264_0,hl264_0,hi264_0⟩:=at_L3 HR0.out x5_1 p264 q264
        cases e264
        have HR264_0:=Aside0.mk hi264_0
        have HC264_0:=Aside0.mk hl264_0
        clear hi264_0 hl264_0
        replace p264:=eq_true p264
        replace q264:=eq_true q264
        have p265 : 0 ≤ (x5_1 : Int):=of_decide_eq_true (by first | (with_reducible assumption) | assumption)
        have q265 : x5_1 < (l1.length : Int):=of_decide_eq_true (by first | (with_reducible assumption) | assumption)
        obtain ⟨ad265,A265_0,c265_0,e265,hx265_0,hl265_0,hi265_0⟩:=at_L3 HR1.out x5_1 p265 q265
        cases e265
        have HR265_0:=Aside0.mk hi265_0
        have HC265_0:=Aside0.mk hl265_0
        clear hi265_0 hl265_0
        replace p265:=eq_true p265
        replace q265:=eq_true q265
        go_wp2_with (first | (go_at_call 22;(with_reducible refine (laws_eqIntS.calls k1 _ _ (rd_L3 l0 x5_1) _ _ (rd_L3 l1 x5_1) true _ ?side1 ?side2 ?side3 ?side4 A7.out).mono ?_);(case side1 => repeat (first | exact HR264_0.out | (with_reducible refine Kd.C_alloc ?_ _) | (with_reducible refine Kd.C_drewN ?_ _) | (with_reducible refine Kd.C_drew ?_)));(case side2 => exact HC264_0.out);(case side3 => repeat (first | exact HR265_0.out | (with_reducible refine Kd.C_alloc ?_ _) | (with_reducible refine Kd.C_drewN ?_ _) | (with_reducible refine Kd.C_drew ?_)));(case side4 => exact HC265_0.out);rintro e w' ⟨rfl,⟨nd,rfl⟩⟩;(try first | exact ⟨rfl,_,World.drewN_drewN _ _ _⟩ | exact ⟨rfl,_,Eq.trans (World.drewN_drewN _ _ _) (congrArg (World.drewN _) (Nat.add_assoc _ _ _))⟩)))
        repeat (go_quiet (first | (go_at_call 22;(with_reducible refine (laws_eqIntS.calls k1 _ _ (rd_L3 l0 x5_1) _ _ (rd_L3 l1 x5_1) true _ ?side1 ?side2 ?side3 ?side4 A7.out).mono ?_);(case side1 => repeat (first | exact HR264_0.out | (with_reducible refine Kd.C_alloc ?_ _) | (with_reducible refine Kd.C_drewN ?_ _) | (with_reducible refine Kd.C_drew ?_)));(case side2 => exact HC264_0.out);(case side3 => repeat (first | exact HR265_0.out | (with_reducible refine Kd.C_alloc ?_ _) | (with_reducible refine Kd.C_drewN ?_ _) | (with_reducible refine Kd.C_drew ?_)));(case side4 => exact HC265_0.out);rintro e w' ⟨rfl,⟨nd,rfl⟩⟩;(try first | exact ⟨rfl,_,World.drewN_drewN _ _ _⟩ | exact ⟨rfl,_,Eq.trans (World.drewN_drewN _ _ _) (congrArg (World.drewN _) (Nat.add_assoc _ _ _))⟩)));try go_wp2_with (first | (go_at_call 22;(with_reducible refine (laws_eqIntS.calls k1 _ _ (rd_L3 l0 x5_1) _ _ (rd_L3 l1 x5_1) true _ ?side1 ?side2 ?side3 ?side4 A7.out).mono ?_);(case side1 => repeat (first | exact HR264_0.out | (with_reducible refine Kd.C_alloc ?_ _) | (with_reducible refine Kd.C_drewN ?_ _) | (with_reducible refine Kd.C_drew ?_)));(case side2 => exact HC264_0.out);(case side3 => repeat (first | exact HR265_0.out | (with_reducible refine Kd.C_alloc ?_ _) | (with_reducible refine Kd.C_drewN ?_ _) | (with_reducible refine Kd.C_drew ?_)));(case side4 => exact HC265_0.out);rintro e w' ⟨rfl,⟨nd,rfl⟩⟩;(try first | exact ⟨rfl,_,World.drewN_drewN _ _ _⟩ | exact ⟨rfl,_,Eq.trans (World.drewN_drewN _ _ _) (congrArg (World.drewN _) (Nat.add_assoc _ _ _))⟩))))
        go_roundg k1
        case measure => have:=HK1.out;omega
        case rel => exact ⟨(wrap64 (x5_1 + 1)),(by first | rfl | (simp;done) | (simp [*];done)),H',⟨by have:=HK1.out;omega⟩,by repeat (first | exact Drawn0.refl _ | apply Drawn0.step)⟩
       ·replace c8:=Bool.eq_false_iff.mpr c8
        subst c8
        have H1 : (some false) = some r:=by rw [if_neg (show ¬ (false = true) by decide)] at H;exact H
        clear H
        have H:=H1
        clear H1
        obtain rfl:=Option.some.inj H
        have p264 : 0 ≤ (x5_1 : Int):=of_decide_eq_true (by first | (with_reducible assumption) | assumption)
        have q264 : x5_1 < (l0.length : Int):=of_decide_eq_true (by first | (with_reducible assumption) | assumption)
        obtain ⟨ad264,A264_0,c264_0,e264,hx264_0,hl264_0,hi264_0⟩:=at_L3 HR0.out x5_1 p264 q264
        cases e264
        have HR264_0:=Aside0.mk hi264_0
        have HC264_0:=Aside0.mk hl264_0
        clear hi264_0 hl264_0
        replace p264:=eq_true p264
        replace q264:=eq_true q264
        have p265 : 0 ≤ (x5_1 : Int):=of_decide_eq_true (by first | (with_reducible assumption) | assumption)
        have q265 : x5_1 < (l1.length : Int):=of_decide_eq_true (by first | (with_reducible assumption) | assumption)
        obtain ⟨ad265,A265_0,c265_0,e265,hx265_0,hl265_0,hi265_0⟩:=at_L3 HR1.out x5_1 p265 q265
        cases e265
        have HR265_0:=Aside0.mk hi265_0
        have HC265_0:=Aside0.mk hl265_0
        clear hi265_0 hl265_0
        replace p265:=eq_true p265
        replace q265:=eq_true q265
        go_wp2_with (first | (go_at_call 22;(with_reducible refine (laws_eqIntS.calls k1 _ _ (rd_L3 l0 x5_1) _ _ (rd_L3 l1 x5_1) false _ ?side1 ?side2 ?side3 ?side4 A7.out).mono ?_);(case side1 => repeat (first | exact HR264_0.out | (with_reducible refine Kd.C_alloc ?_ _) | (with_reducible refine Kd.C_drewN ?_ _) | (with_reducible refine Kd.C_drew ?_)));(case side2 => exact HC264_0.out);(case side3 => repeat (first | exact HR265_0.out | (with_reducible refine Kd.C_alloc ?_ _) | (with_reducible refine Kd.C_drewN ?_ _) | (with_reducible refine Kd.C_drew ?_)));(case side4 => exact HC265_0.out);rintro e w' ⟨rfl,⟨nd,rfl⟩⟩;(try first | exact ⟨rfl,_,World.drewN_drewN _ _ _⟩ | exact ⟨rfl,_,Eq.trans (World.drewN_drewN _ _ _) (congrArg (World.drewN _) (Nat.add_assoc _ _ _))⟩)))
        repeat (go_quiet (first | (go_at_call 22;(with_reducible refine (laws_eqIntS.calls k1 _ _ (rd_L3 l0 x5_1) _ _ (rd_L3 l1 x5_1) false _ ?side1 ?side2 ?side3 ?side4 A7.out).mono ?_);(case side1 => repeat (first | exact HR264_0.out | (with_reducible refine Kd.C_alloc ?_ _) | (with_reducible refine Kd.C_drewN ?_ _) | (with_reducible refine Kd.C_drew ?_)));(case side2 => exact HC264_0.out);(case side3 => repeat (first | exact HR265_0.out | (with_reducible refine Kd.C_alloc ?_ _) | (with_reducible refine Kd.C_drewN ?_ _) | (with_reducible refine Kd.C_drew ?_)));(case side4 => exact HC265_0.out);rintro e w' ⟨rfl,⟨nd,rfl⟩⟩;(try first | exact ⟨rfl,_,World.drewN_drewN _ _ _⟩ | exact ⟨rfl,_,Eq.trans (World.drewN_drewN _ _ _) (congrArg (World.drewN _) (Nat.add_assoc _ _ _))⟩)));try go_wp2_with (first | (go_at_call 22;(with_reducible refine (laws_eqIntS.calls k1 _ _ (rd_L3 l0 x5_1) _ _ (rd_L3 l1 x5_1) false _ ?side1 ?side2 ?side3 ?side4 A7.out).mono ?_);(case side1 => repeat (first | exact HR264_0.out | (with_reducible refine Kd.C_alloc ?_ _) | (with_reducible refine Kd.C_drewN ?_ _) | (with_reducible refine Kd.C_drew ?_)));(case side2 => exact HC264_0.out);(case side3 => repeat (first | exact HR265_0.out | (with_reducible refine Kd.C_alloc ?_ _) | (with_reducible refine Kd.C_drewN ?_ _) | (with_reducible refine Kd.C_drew ?_)));(case side4 => exact HC265_0.out);rintro e w' ⟨rfl,⟨nd,rfl⟩⟩;(try first | exact ⟨rfl,_,World.drewN_drewN _ _ _⟩ | exact ⟨rfl,_,Eq.trans (World.drewN_drewN _ _ _) (congrArg (World.drewN _) (Nat.add_assoc _ _ _))⟩))))
        go_ret
        exact ⟨by first | rfl | (simp;done) | (simp [*];done),by repeat (first | exact Drawn0.refl _ | apply Drawn0.step)⟩
      ·rw [if_neg c6] at H
       exact absurd H (by simp)
     ·rw [if_neg c5] at H
      exact absurd H (by simp)
    ·rw [if_neg c4] at H
     have c4b0 : decide (x5_1 < (l0.length : Int)) = false:=decide_eq_false c4
     clear c4
     obtain rfl:=Option.some.inj H
     go_wp2
     repeat (go_quiet (fail);try go_wp2)
     go_ret
     exact ⟨by first | rfl | (simp;done) | (simp [*];done),by repeat (first | exact Drawn0.refl _ | apply Drawn0.step)⟩
 ·rw [if_neg c3] at H
  have c3b0 : ((l0.length : Int) == (l1.length : Int)) = false:=beq_eq_false_iff_ne.mpr c3
  have c3b1 : ((l0.length : Int) != (l1.length : Int)) = true:=bne_iff_ne.mpr c3
  have c3b2 : (l0.length == l1.length) = false:=by first | simpa using c3 | (simp at c3 ⊢;omega)
  obtain rfl:=Option.some.inj H
  go_enter Try.func27,Try.ntmps27
  go_wp2
  repeat (go_quiet (fail);try go_wp2)
  go_ret
  exact ⟨by first | rfl | (simp;done) | (simp [*];done),by repeat (first | exact Drawn0.refl _ | apply Drawn0.step)⟩

/-! ### laws_eqGraph: function 16 -/
def laws_eqGraph.f (k : Nat) (l0_0 : List (List Int)) (l1_0 : List (List Int)) : Option (Bool):=(laws_eqIntSS.f k l0_0 l1_0).bind fun t269 => (if t269 = true then (some true) else (some false))
theorem laws_eqGraph.mono : ∀ a0 a1 k,LeO (laws_eqGraph.f k a0 a1) (laws_eqGraph.f (k + 1) a0 a1):=by
 intro a0 a1 k
 unfold laws_eqGraph.f
 repeat' first
   | (with_reducible exact laws_eqIntSS.mono _ _ _)
   | (with_reducible exact LeO.refl _)
   | (with_reducible exact LeO.none _)
   | (with_reducible refine LeO.ite ?_ ?_)
   | (with_reducible refine LeO.bind ?_ (fun _ => ?_))
   | exact laws_eqIntSS.mono _ _ _
   | exact LeO.none _
   | refine LeO.ite ?_ ?_
   | refine LeO.bind ?_ (fun _ => ?_)
set_option maxHeartbeats 8000000 in
set_option maxRecDepth 100000 in
theorem laws_eqGraph.calls (k : Nat) (A0_0 : Option Addr) (c0_0 : Nat) (l0_0 : List (List Int)) (A1_0 : Option Addr) (c1_0 : Nat) (l1_0 : List (List Int)) (r : Bool) (w : World) (hr0_0 : Kd.C (Kd.slice 3 (Kd.int .i64)) w A0_0 l0_0.length l0_0) (hc0_0 : l0_0.length ≤ c0_0) (hr1_0 : Kd.C (Kd.slice 3 (Kd.int .i64)) w A1_0 l1_0.length l1_0) (hc1_0 : l1_0.length ≤ c1_0) (h : laws_eqGraph.f k l0_0 l1_0 = some r) :
  Calls Try.prog 16 #[.agg #[.slice A0_0 l0_0.length c0_0],.agg #[.slice A1_0 l1_0.length c1_0]] w fun e w' => e = .returned (.bool r) ∧ Below w.heap.size w w':=by
 have hu31:=Try.underlying31
 have HR0_0:=Aside0.mk hr0_0
 have HC0_0:=Aside0.mk hc0_0
 clear hr0_0 hc0_0
 have HR1_0:=Aside0.mk hr1_0
 have HC1_0:=Aside0.mk hc1_0
 clear hr1_0 hc1_0
 have HB:=Aside0.mk (Below.refl w.heap.size w)
 have H : ((laws_eqIntSS.f k l0_0 l1_0).bind fun t269 => (if t269 = true then (some true) else (some false))) = some r:=h
 clear h
 replace H:=Option.bind_eq_some_iff.mp H
 obtain ⟨t269,A30,H⟩:=H
 replace H : (if t269 = true then (some true) else (some false)) = some r:=H
 have A3:=Aside0.mk A30
 clear A30
 by_cases c4 : t269 = true
 ·subst c4
  have H1 : (some true) = some r:=by rw [if_pos rfl] at H;exact H
  clear H
  have H:=H1
  clear H1
  obtain rfl:=Option.some.inj H
  go_enter Try.func16,Try.ntmps16
  go_wp2_with (first | ((with_reducible refine gate_dst (N:=2) rfl ?_);refine box_event ?hg (N:=2) ?hd (cs:=#[.slice A0_0 l0_0.length c0_0]) (t:=31) ?hr ?_;(case hd => rfl);(case hg => rfl);(case hr => first | (go_simp;done) | (go_simp;rfl));intro gb267 hg w5 hbox hb;have n0_:=Aside0.mk (below_step (by repeat (first | (with_reducible first | exact HB.out | apply below_alloc | apply pw_below_drewN | apply below_drew1) | exact HB.out)) hb);have n1_:=Aside0.mk (hbox);have n2_:=Aside0.mk ((by rw [hg];exact (below_size (by repeat (first | (with_reducible first | exact HB.out | apply below_alloc | apply pw_below_drewN | apply below_drew1) | exact HB.out))) : w.heap.size ≤ gb267));have n3_:=Aside0.mk ((by rw [hg];exact (below_size (by repeat (first | (with_reducible first | exact HB.out | apply below_alloc | apply pw_below_drewN | apply below_drew1) | exact HB.out))) : w.heap.size ≤ gb267));clear HB;have HB:=n0_;have BK267:=n1_;have GW267:=n2_;have GE267:=n3_;clear n0_ n1_ n2_ n3_;clear hb hbox hg) | ((with_reducible refine gate_dst (N:=3) rfl ?_);refine box_event ?hg (N:=3) ?hd (cs:=#[.slice A1_0 l1_0.length c1_0]) (t:=31) ?hr ?_;(case hd => rfl);(case hg => rfl);(case hr => first | (go_simp;done) | (go_simp;rfl));intro gb268 hg w6 hbox hb;have n0_:=Aside0.mk (blk_below (g:=gb267) (o:=.cells #[.slice A0_0 l0_0.length c0_0] 31 (0,0)) (by (with_reducible repeat (first | refine blk_drewN ?_ _ | refine blk_drew ?_ | refine blk_alloc ?_ _));exact BK267.out) hb);have n1_:=Aside0.mk (below_step (by repeat (first | (with_reducible first | exact HB.out | apply below_alloc | apply pw_below_drewN | apply below_drew1 | refine below_set ?_ GE267.out) | exact HB.out)) hb);have n2_:=Aside0.mk (hbox);have n3_:=Aside0.mk ((by rw [hg];exact (below_size (by repeat (first | (with_reducible first | exact HB.out | apply below_alloc | apply pw_below_drewN | apply below_drew1 | refine below_set ?_ GE267.out) | exact HB.out))) : w.heap.size ≤ gb268));have n4_:=Aside0.mk ((by rw [hg];exact (below_size (by repeat (first | (with_reducible first | exact HB.out | apply below_alloc | apply pw_below_drewN | apply below_drew1 | refine below_set ?_ GE267.out) | exact HB.out))) : w.heap.size ≤ gb268));have n5_:=Aside0.mk ((by rw [hg];exact Nat.ne_of_lt (blk_lt (g:=gb267) (o:=.cells #[.slice A0_0 l0_0.length c0_0] 31 (0,0)) (by (with_reducible repeat (first | refine blk_drewN ?_ _ | refine blk_drew ?_ | refine blk_alloc ?_ _));exact BK267.out)) : gb267 ≠ gb268));have n6_:=Aside0.mk ((by rw [hg];exact Nat.ne_of_gt (blk_lt (g:=gb267) (o:=.cells #[.slice A0_0 l0_0.length c0_0] 31 (0,0)) (by (with_reducible repeat (first | refine blk_drewN ?_ _ | refine blk_drew ?_ | refine blk_alloc ?_ _));exact BK267.out)) : gb268 ≠ gb267));clear BK267;clear HB;have BK267:=n0_;have HB:=n1_;have BK268:=n2_;have GW268:=n3_;have GE268:=n4_;have NB267_268:=n5_;have NB268_267:=n6_;clear n0_ n1_ n2_ n3_ n4_ n5_ n6_;clear hb hbox hg;have hnb7:=NB267_268.out;have hnc7:=NB268_267.out;have hcz8_0 : w6.cell? ⟨gb267,0,none⟩ = some (.slice A0_0 l0_0.length c0_0):=(blk_cell BK267.out 0).trans rfl;have hfz8_0:=blk_frozen BK267.out 0;have hcz9_0 : w6.cell? ⟨gb268,0,none⟩ = some (.slice A1_0 l1_0.length c1_0):=(blk_cell BK268.out 0).trans rfl;have hfz9_0:=blk_frozen BK268.out 0) | ((with_reducible refine gate_callee (f:=27) rfl ?_);refine goesL_ (some 9) rfl rfl Try.func27 (by kernel_rfl) rfl #[.slice A0_0 l0_0.length c0_0,.slice A1_0 l1_0.length c1_0] rfl (by (try simp only [List.map_toArray,List.map_cons,List.map_nil]);first | done | rfl | (simp only [List.length_drop,List.length_take];rfl)) ?_;(with_reducible refine (laws_eqIntSS.calls k _ _ l0_0 _ _ l1_0 true _ ?side1 ?side2 ?side3 ?side4 A3.out).mono ?_);(case side1 => repeat (first | exact (Kd.C_below HR0_0.out HB.out) | (with_reducible refine Kd.C_alloc ?_ _) | (with_reducible refine Kd.C_drewN ?_ _) | (with_reducible refine Kd.C_drew ?_)));(case side2 => exact HC0_0.out);(case side3 => repeat (first | exact (Kd.C_below HR1_0.out HB.out) | (with_reducible refine Kd.C_alloc ?_ _) | (with_reducible refine Kd.C_drewN ?_ _) | (with_reducible refine Kd.C_drew ?_)));(case side4 => exact HC1_0.out);rintro e w' ⟨rfl,⟨nd,rfl⟩⟩;refine ⟨_,rfl,?_⟩))
  go_ret
  exact ⟨by first | rfl | (simp [errW_none,errW_some] <;> rfl) | (simp [*,errW_none,errW_some] <;> rfl),by repeat (first | (with_reducible first | exact HB.out | apply below_alloc | apply pw_below_drewN | apply below_drew1 | refine below_set ?_ GE267.out | refine below_set ?_ GE268.out) | exact HB.out)⟩
 ·replace c4:=Bool.eq_false_iff.mpr c4
  subst c4
  have H1 : (some false) = some r:=by rw [if_neg (show ¬ (false = true) by decide)] at H;exact H
  clear H
  have H:=H1
  clear H1
  obtain rfl:=Option.some.inj H
  go_enter Try.func16,Try.ntmps16
  go_wp2_with (first | ((with_reducible refine gate_dst (N:=2) rfl ?_);refine box_event ?hg (N:=2) ?hd (cs:=#[.slice A0_0 l0_0.length c0_0]) (t:=31) ?hr ?_;(case hd => rfl);(case hg => rfl);(case hr => first | (go_simp;done) | (go_simp;rfl));intro gb267 hg w10 hbox hb;have n0_:=Aside0.mk (below_step (by repeat (first | (with_reducible first | exact HB.out | apply below_alloc | apply pw_below_drewN | apply below_drew1) | exact HB.out)) hb);have n1_:=Aside0.mk (hbox);have n2_:=Aside0.mk ((by rw [hg];exact (below_size (by repeat (first | (with_reducible first | exact HB.out | apply below_alloc | apply pw_below_drewN | apply below_drew1) | exact HB.out))) : w.heap.size ≤ gb267));have n3_:=Aside0.mk ((by rw [hg];exact (below_size (by repeat (first | (with_reducible first | exact HB.out | apply below_alloc | apply pw_below_drewN | apply below_drew1) | exact HB.out))) : w.heap.size ≤ gb267));clear HB;have HB:=n0_;have BK267:=n1_;have GW267:=n2_;have GE267:=n3_;clear n0_ n1_ n2_ n3_;clear hb hbox hg) | ((with_reducible refine gate_dst (N:=3) rfl ?_);refine box_event ?hg (N:=3) ?hd (cs:=#[.slice A1_0 l1_0.length c1_0]) (t:=31) ?hr ?_;(case hd => rfl);(case hg => rfl);(case hr => first | (go_simp;done) | (go_simp;rfl));intro gb268 hg w11 hbox hb;have n0_:=Aside0.mk (blk_below (g:=gb267) (o:=.cells #[.slice A0_0 l0_0.length c0_0] 31 (0,0)) (by (with_reducible repeat (first | refine blk_drewN ?_ _ | refine blk_drew ?_ | refine blk_alloc ?_ _));exact BK267.out) hb);have n1_:=Aside0.mk (below_step (by repeat (first | (with_reducible first | exact HB.out | apply below_alloc | apply pw_below_drewN | apply below_drew1 | refine below_set ?_ GE267.out) | exact HB.out)) hb);have n2_:=Aside0.mk (hbox);have n3_:=Aside0.mk ((by rw [hg];exact (below_size (by repeat (first | (with_reducible first | exact HB.out | apply below_alloc | apply pw_below_drewN | apply below_drew1 | refine below_set ?_ GE267.out) | exact HB.out))) : w.heap.size ≤ gb268));have n4_:=Aside0.mk ((by rw [hg];exact (below_size (by repeat (first | (with_reducible first | exact HB.out | apply below_alloc | apply pw_below_drewN | apply below_drew1 | refine below_set ?_ GE267.out) | exact HB.out))) : w.heap.size ≤ gb268));have n5_:=Aside0.mk ((by rw [hg];exact Nat.ne_of_lt (blk_lt (g:=gb267) (o:=.cells #[.slice A0_0 l0_0.length c0_0] 31 (0,0)) (by (with_reducible repeat (first | refine blk_drewN ?_ _ | refine blk_drew ?_ | refine blk_alloc ?_ _));exact BK267.out)) : gb267 ≠ gb268));have n6_:=Aside0.mk ((by rw [hg];exact Nat.ne_of_gt (blk_lt (g:=gb267) (o:=.cells #[.slice A0_0 l0_0.length c0_0] 31 (0,0)) (by (with_reducible repeat (first | refine blk_drewN ?_ _ | refine blk_drew ?_ | refine blk_alloc ?_ _));exact BK267.out)) : gb268 ≠ gb267));clear BK267;clear HB;have BK267:=n0_;have HB:=n1_;have BK268:=n2_;have GW268:=n3_;have GE268:=n4_;have NB267_268:=n5_;have NB268_267:=n6_;clear n0_ n1_ n2_ n3_ n4_ n5_ n6_;clear hb hbox hg;have hnb12:=NB267_268.out;have hnc12:=NB268_267.out;have hcz13_0 : w11.cell? ⟨gb267,0,none⟩ = some (.slice A0_0 l0_0.length c0_0):=(blk_cell BK267.out 0).trans rfl;have hfz13_0:=blk_frozen BK267.out 0;have hcz14_0 : w11.cell? ⟨gb268,0,none⟩ = some (.slice A1_0 l1_0.length c1_0):=(blk_cell BK268.out 0).trans rfl;have hfz14_0:=blk_frozen BK268.out 0) | ((with_reducible refine gate_callee (f:=27) rfl ?_);refine goesL_ (some 9) rfl rfl Try.func27 (by kernel_rfl) rfl #[.slice A0_0 l0_0.length c0_0,.slice A1_0 l1_0.length c1_0] rfl (by (try simp only [List.map_toArray,List.map_cons,List.map_nil]);first | done | rfl | (simp only [List.length_drop,List.length_take];rfl)) ?_;(with_reducible refine (laws_eqIntSS.calls k _ _ l0_0 _ _ l1_0 false _ ?side1 ?side2 ?side3 ?side4 A3.out).mono ?_);(case side1 => repeat (first | exact (Kd.C_below HR0_0.out HB.out) | (with_reducible refine Kd.C_alloc ?_ _) | (with_reducible refine Kd.C_drewN ?_ _) | (with_reducible refine Kd.C_drew ?_)));(case side2 => exact HC0_0.out);(case side3 => repeat (first | exact (Kd.C_below HR1_0.out HB.out) | (with_reducible refine Kd.C_alloc ?_ _) | (with_reducible refine Kd.C_drewN ?_ _) | (with_reducible refine Kd.C_drew ?_)));(case side4 => exact HC1_0.out);rintro e w' ⟨rfl,⟨nd,rfl⟩⟩;refine ⟨_,rfl,?_⟩))
  go_ret
  exact ⟨by first | rfl | (simp [errW_none,errW_some] <;> rfl) | (simp [*,errW_none,errW_some] <;> rfl),by repeat (first | (with_reducible first | exact HB.out | apply below_alloc | apply pw_below_drewN | apply below_drew1 | refine below_set ?_ GE267.out | refine below_set ?_ GE268.out) | exact HB.out)⟩

/-! ### laws_markIntS: function 23 -/
def laws_markIntS.l0 : Nat → List Int → Int → Int → Option (Int × List Int)
 | 0,_,_,_ => none
 | k + 1,x0,x1,x5 => if x5 < (x0.length : Int) then (if 0 ≤ x5 then (laws_markIntS.l0 k (x0.set (x5 : Int).toNat x1) (wrap64 (x1 + 1)) (wrap64 (x5 + 1))) else (none)) else (some (x1,x0))
def laws_markIntS.f (k : Nat) (l0 : List Int) (a1 : Int) : Option (Int × List Int):=laws_markIntS.l0 k l0 a1 0
theorem laws_markIntS.mono_l : ∀ k,(∀ y0 y1 y2,LeO (laws_markIntS.l0 k y0 y1 y2) (laws_markIntS.l0 (k + 1) y0 y1 y2))
 | 0 => fun _ _ _ r h => by simp [laws_markIntS.l0] at h
 | k + 1 => by
  have ih0:=laws_markIntS.mono_l k
  ·intro y0 y1 y2
   unfold laws_markIntS.l0
   repeat' first
   | (with_reducible exact ih0 _ _ _)
   | (with_reducible exact LeO.refl _)
   | (with_reducible exact LeO.none _)
   | (with_reducible refine LeO.ite ?_ ?_)
   | (with_reducible refine LeO.bind ?_ (fun _ => ?_))
   | exact ih0 _ _ _
   | exact LeO.none _
   | refine LeO.ite ?_ ?_
   | refine LeO.bind ?_ (fun _ => ?_)
theorem laws_markIntS.mono : ∀ a0 a1 k,LeO (laws_markIntS.f k a0 a1) (laws_markIntS.f (k + 1) a0 a1):=by
 intro a0 a1 k
 have ih0:=laws_markIntS.mono_l k
 unfold laws_markIntS.f
 repeat' first
   | (with_reducible exact ih0 _ _ _)
   | (with_reducible exact LeO.refl _)
   | (with_reducible exact LeO.none _)
   | (with_reducible refine LeO.ite ?_ ?_)
   | (with_reducible refine LeO.bind ?_ (fun _ => ?_))
   | exact ih0 _ _ _
   | exact LeO.none _
   | refine LeO.ite ?_ ?_
   | refine LeO.bind ?_ (fun _ => ?_)
set_option maxHeartbeats 8000000 in
set_option maxRecDepth 100000 in
theorem laws_markIntS.calls (k : Nat) (P0_ : Nat → Prop) (u9000_ : Value) (l0 : List Int) (a1 : Int) (r1 : Int) (r2 : List Int) (w0 w : World) (hB : Below w0.heap.size w0 w) (ho0 : Kd.R (Kd.int .i64) 3 w w0.heap.size P0_ u9000_ l0) (h : laws_markIntS.f k l0 a1 = some (r1,r2)) :
  Calls Try.prog 23 #[u9000_,.int .i64 a1] w fun e w' => e = .returned (.int .i64 r1) ∧ Kd.R (Kd.int .i64) 3 w' w0.heap.size (fun k_ => (P0_ k_ ∨ w.heap.size ≤ k_)) u9000_ r2 ∧ Below w0.heap.size w0 w' ∧ Kept w w' (fun k_ => P0_ k_):=by
 have HO0:=Aside0.mk (show Kd.R (Kd.int .i64) 3 w w0.heap.size (fun k_ => (P0_ k_ ∨ w.heap.size ≤ k_)) u9000_ l0 from Kd.R_mono ho0 (fun k_ hk => (.inl hk)))
 have HK:=Aside0.mk (Kept.refl w (fun k_ => P0_ k_))
 have HW0:=Aside0.mk hB.size
 have HB:=Aside0.mk hB
 clear hB
 have H : (laws_markIntS.l0 k l0 a1 0) = some (r1,r2):=h
 clear h
 have H':=Aside0.mk H
 clear H
 go_enter Try.func23,Try.ntmps23
 go_wp2
 go_loopg [1,5] k (fun kq v1 v5 w' => ∃ (x0_1 : List Int) (x1_1 : Int) (x5_1 : Int),v1 = .int .i64 x1_1 ∧ v5 = .int .i64 x5_1 ∧ Aside0 (laws_markIntS.l0 kq x0_1 x1_1 x5_1 = some (r1,r2)) ∧ Aside0 (kq ≤ k) ∧ Aside0 (Kd.R (Kd.int .i64) 3 w' w0.heap.size (fun k_ => (P0_ k_ ∨ w.heap.size ≤ k_)) u9000_ x0_1) ∧ Aside0 (Kept w w' (fun k_ => P0_ k_)) ∧ Aside0 (Below w0.heap.size w0 w'))
 case atStart => exact ⟨(l0),(a1),(0),(by first | rfl | (simp;done) | (simp [*];done)),(by first | rfl | (simp;done) | (simp [*];done)),H',⟨Nat.le_refl _⟩,⟨by (with_reducible repeat (first | apply Kd.R_alloc | apply Kd.R_drewN | apply Kd.R_drew));exact HO0.out⟩,⟨by repeat (first | (with_reducible first | exact HK.out | apply Kept.alloc | apply Kept.drewN | apply Kept.drew) | exact HK.out)⟩,⟨by repeat (first | (with_reducible first | exact HB.out | apply below_alloc | apply pw_below_drewN | apply below_drew1) | exact HB.out)⟩⟩
 case round =>
  clear H'
  try clear c2
  try clear p2
  obtain ⟨x0_1,x1_1,x5_1,rfl,rfl,HA,HK1,HO_0,HK,HB⟩:=hrel
  cases gk with
  | zero => exact absurd HA.out (by simp [laws_markIntS.l0])
  | succ k1 =>
   have H:=HA.out
   clear HA
   simp only [laws_markIntS.l0] at H
   by_cases c3 : x5_1 < (x0_1.length : Int)
   ·rw [if_pos c3] at H
    have c3b0 : decide (x5_1 < (x0_1.length : Int)) = true:=decide_eq_true c3
    clear c3
    by_cases c4 : 0 ≤ x5_1
    ·rw [if_pos c4] at H
     have c4b0 : decide (0 ≤ x5_1) = true:=decide_eq_true c4
     clear c4
     obtain ⟨y270,hy270⟩ : ∃ y_ : List Int,y_ = (x0_1.set (x5_1 : Int).toNat x1_1):=⟨_,rfl⟩
     replace H : (laws_markIntS.l0 k1 y270 (wrap64 (x1_1 + 1)) (wrap64 (x5_1 + 1))) = some (r1,r2):=by first | (rw [hy270];with_reducible exact H) | (have H2_:=(Option.bind_some _ _).symm.trans H;rw [hy270];with_reducible exact H2_) | (have H2_:=(Option.bind_some _ _).symm.trans H;with_reducible exact H2_) | with_reducible exact H | (rw [hy270];exact H) | exact H
     have Ny270:=Aside0.mk hy270
     clear hy270
     have H':=Aside0.mk H
     clear H
     obtain ⟨Ao6,co6,eo6⟩:=Kd.R_slice HO_0.out
     subst eo6
     have p5 : 0 ≤ (x5_1 : Int):=of_decide_eq_true (by first | (with_reducible assumption) | assumption)
     have q5 : (x5_1 : Int) < ((x0_1.length : Int) : Int):=of_decide_eq_true (by first | (with_reducible assumption) | assumption)
     obtain ⟨go5,co5,eo5,gb5,gl5,cl5,HG5⟩:=Kd.R_form HO_0.out (by omega)
     (first | cases eo5 | (injection eo5 with ea_ en_ ec_;(first | subst ea_ | (injection ea_ with ea_;subst ea_));subst ec_;clear en_))
     have GB5:=Aside0.mk gb5
     have GG5:=Aside0.mk HG5
     clear gb5 gl5 HG5
     have HMgo5:=Aside0.mk (show (P0_ go5 ∨ w.heap.size ≤ go5) from (HO_0.out.1 _ rfl))
     obtain ⟨hx5_0,hf5_0⟩:=Kd.R_celln 0 HO_0.out (x5_1 : Int) p5 q5
     replace p5:=eq_true p5
     replace q5:=eq_true q5
     have HP7:=Kd.R_putg HO_0.out (x5_1 : Int) x1_1
     go_wp2_with (first | ((with_reducible refine gate_store (t:=3) (p:=15) rfl ?_);refine store_event (t:=3) (p:=15) (v:=?vo_w8) (w1:=(wr.setCell ⟨go5,(x5_1 : Int).toNat,none⟩ (.int .i64 x1_1))) ?hg ?ho ?hn ?hr ?_;(case ho => rfl);(case hg => rfl);(case hn => rfl);(case hr => first | (go_simp;done) | (go_simp;rfl));intro w8 hw;have hg : wr.grownBy w8 (some go5):=(by rw [hw];exact HP7.2);have hp_ : Kd.R (Kd.int .i64) 3 w8 w0.heap.size (fun k_ => (P0_ k_ ∨ w.heap.size ≤ k_)) (.slice (some ⟨go5,0,none⟩) x0_1.length co6) y270:=(by rw [hw,Ny270.out];exact HP7.1);clear HP7;have n0_:=Aside0.mk (hp_);have n1_:=Aside0.mk ((by rw [hw];exact below_set (HB.out) GB5.out : Below w0.heap.size w0 w8));have n2_:=Aside0.mk (Kept.of_grown (S:=(fun k_ => P0_ k_)) hg (by repeat (first | (with_reducible first | exact HK.out | apply Kept.alloc | apply Kept.drewN | apply Kept.drew) | exact HK.out)) (fun k_ e_ => (HO_0.out.1 k_ e_)));clear HO_0;clear HB;clear HK;have HO_0:=n0_;have HB:=n1_;have HK:=n2_;clear n0_ n1_ n2_;clear hg hw hp_))
     go_roundg k1
     case measure => have:=HK1.out;omega
     case rel => exact ⟨(y270),(wrap64 (x1_1 + 1)),(wrap64 (x5_1 + 1)),(by first | rfl | (simp;done) | (simp [*];done)),(by first | rfl | (simp;done) | (simp [*];done)),H',⟨by have:=HK1.out;omega⟩,⟨by (with_reducible repeat (first | apply Kd.R_alloc | apply Kd.R_drewN | apply Kd.R_drew));exact HO_0.out⟩,⟨by repeat (first | (with_reducible first | exact HK.out | apply Kept.alloc | apply Kept.drewN | apply Kept.drew) | exact HK.out)⟩,⟨by repeat (first | (with_reducible first | exact HB.out | apply below_alloc | apply pw_below_drewN | apply below_drew1) | exact HB.out)⟩⟩
    ·rw [if_neg c4] at H
     exact absurd H (by simp)
   ·rw [if_neg c3] at H
    have c3b0 : decide (x5_1 < (x0_1.length : Int)) = false:=decide_eq_false c3
    clear c3
    simp only [Option.some.injEq,Prod.mk.injEq] at H
    obtain ⟨rfl,rfl⟩:=H
    obtain ⟨Ao9,co9,eo9⟩:=Kd.R_slice HO_0.out
    subst eo9
    go_wp2
    go_ret
    exact ⟨by first | rfl | (simp [errW_none,errW_some] <;> rfl) | (simp [*,errW_none,errW_some] <;> rfl),by (with_reducible repeat (first | apply Kd.R_alloc | apply Kd.R_drewN | apply Kd.R_drew));exact HO_0.out,by repeat (first | (with_reducible first | exact HB.out | apply below_alloc | apply pw_below_drewN | apply below_drew1) | exact HB.out),by repeat (first | (with_reducible first | exact HK.out | apply Kept.alloc | apply Kept.drewN | apply Kept.drew) | exact HK.out)⟩

end Go.Proofs.Ythgkhfhfahifmaa.Q
