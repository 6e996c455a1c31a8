-- WRITTEN BY A PROGRAM OF THIS SESSION
import Derived.Test.YthgkhfhfahifmaaQ0
import Derived.Test.YthgkhfhfahifmaaQ8
namespace Go.Proofs.Ythgkhfhfahifmaa.Q
open Go.RowKit Go.Proofs.YthgkhfhfahifmaaW.PrintWords Go.Proofs.YthgkhfhfahifmaaW.PrintLast Go.Proofs.YthgkhfhfahifmaaW.PrintMore
attribute [local go_sem] max2_int min2_int max_two min_two max_three min_three max_four min_four   -- for this text's walks alone
set_option linter.unusedVariables false
set_option linter.unusedSimpArgs false

/-! ### spec_l6Preds: function 52 (by hand: an element's row is handed to what writes it) -/
mutual
def spec_l6Preds.l0 : Nat → List S56 → List Int → List (List Int) → Int → Option (List (List Int))
 | 0,_,_,_,_ => none
 | k + 1,f,rs,x,i => if i < (rs.length : Int) then (if 0 ≤ i then (if 0 ≤ rd rs i then (if rd rs i < (f.length : Int) then (spec_l6Preds.l1 k f rs (rd_T56 f (rd rs i)).f3 (rd rs i) x i 0) else none) else none) else none) else some x
def spec_l6Preds.l1 : Nat → List S56 → List Int → List Int → Int → List (List Int) → Int → Int → Option (List (List Int))
 | 0,_,_,_,_,_,_,_ => none
 | k + 1,f,rs,row,kk,x,i,j => if j < (row.length : Int) then (if 0 ≤ j then (if 0 ≤ rd row j then (if rd row j < (x.length : Int) then ((spec_l1Put.f k (x.getD (rd row j).toNat []) kk).bind fun y => (spec_l6Preds.l1 k f rs row kk (x.set (rd row j).toNat y) i (wrap64 (j + 1)))) else none) else none) else none) else spec_l6Preds.l0 k f rs x (wrap64 (i + 1))
end
def spec_l6Preds.f (k : Nat) (f : List S56) : Option (List (List Int)):=if f.length ≤ 11728124029610 then ((spec_l6Reach.f k f).bind fun rs => (spec_l6Preds.l0 k f rs (List.replicate f.length []) 0)) else none
theorem spec_l6Preds.mono_l : ∀ k,(∀ y0 y1 y2 y3,LeO (spec_l6Preds.l0 k y0 y1 y2 y3) (spec_l6Preds.l0 (k + 1) y0 y1 y2 y3)) ∧ (∀ y0 y1 y2 y3 y4 y5 y6,LeO (spec_l6Preds.l1 k y0 y1 y2 y3 y4 y5 y6) (spec_l6Preds.l1 (k + 1) y0 y1 y2 y3 y4 y5 y6))
 | 0 => ⟨fun _ _ _ _ r h => by simp [spec_l6Preds.l0] at h,fun _ _ _ _ _ _ _ r h => by simp [spec_l6Preds.l1] at h⟩
 | k + 1 => by
  obtain ⟨ih0,ih1⟩:=spec_l6Preds.mono_l k
  refine ⟨?_,?_⟩
  ·intro y0 y1 y2 y3
   unfold spec_l6Preds.l0
   repeat' first
   | (with_reducible exact ih0 _ _ _ _)
   | (with_reducible exact ih1 _ _ _ _ _ _ _)
   | (with_reducible exact spec_l6Reach.mono _ _)
   | (with_reducible exact spec_l1Put.mono _ _ _)
   | (with_reducible exact LeO.refl _)
   | (with_reducible exact LeO.none _)
   | (with_reducible refine LeO.ite ?_ ?_)
   | (with_reducible refine LeO.bind ?_ (fun _ => ?_))
  ·intro y0 y1 y2 y3 y4 y5 y6
   unfold spec_l6Preds.l1
   repeat' first
   | (with_reducible exact ih0 _ _ _ _)
   | (with_reducible exact ih1 _ _ _ _ _ _ _)
   | (with_reducible exact spec_l6Reach.mono _ _)
   | (with_reducible exact spec_l1Put.mono _ _ _)
   | (with_reducible exact LeO.refl _)
   | (with_reducible exact LeO.none _)
   | (with_reducible refine LeO.ite ?_ ?_)
   | (with_reducible refine LeO.bind ?_ (fun _ => ?_))
theorem spec_l6Preds.mono : ∀ a0 k,LeO (spec_l6Preds.f k a0) (spec_l6Preds.f (k + 1) a0):=by
 intro a0 k
 obtain ⟨ih0,ih1⟩:=spec_l6Preds.mono_l k
 unfold spec_l6Preds.f
 repeat' first
   | (with_reducible exact ih0 _ _ _ _)
   | (with_reducible exact ih1 _ _ _ _ _ _ _)
   | (with_reducible exact spec_l6Reach.mono _ _)
   | (with_reducible exact spec_l1Put.mono _ _ _)
   | (with_reducible exact LeO.refl _)
   | (with_reducible exact LeO.none _)
   | (with_reducible refine LeO.ite ?_ ?_)
   | (with_reducible refine LeO.bind ?_ (fun _ => ?_))
set_option maxHeartbeats 8000000 in
set_option maxRecDepth 100000 in
theorem spec_l6Preds.calls (k : Nat) (A0 : Option Addr) (c0 : Nat) (l0 : List S56) (r : List (List Int)) (w : World) (hr0 : Kd.C k56 w A0 l0.length l0) (hc0 : l0.length ≤ c0) (h : spec_l6Preds.f k l0 = some r) :
  Calls Try.prog 52 #[.slice A0 l0.length c0] w fun e w' => ∃ v0_ : Value,e = .returned (v0_) ∧ Kd.S (Kd.slice 3 (Kd.int .i64)) 37 w' w.heap.size (fun _ => True) v0_ r ∧ Below w.heap.size w w':=by
 have hu56:=Try.underlying56
 have HR0:=Aside0.mk hr0
 have HC0:=Aside0.mk hc0
 clear hr0 hc0
 unfold spec_l6Preds.f at h
 by_cases c1 : l0.length ≤ 11728124029610
 rotate_left
 ·rw [if_neg c1] at h;exact absurd h (by simp)
 rw [if_pos c1] at h
 obtain ⟨rs,A1,H⟩:=Option.bind_eq_some_iff.mp h
 have A:=Aside0.mk A1
 have H':=Aside0.mk H
 clear h A1 H
 have c2 : decide (0 ≤ (l0.length : Int)) = true:=decide_eq_true (by omega)
 have c3 : (0 ≤ (l0.length : Int)) = True:=eq_true (by omega)
 obtain ⟨y,hy⟩ : ∃ y : List (List Int),y = List.replicate (l0.length : Int).toNat []:=⟨_,rfl⟩
 have HY:=Aside0.mk hy
 rw [Int.toNat_natCast] at hy
 rw [← hy] at H'
 have HM:=Aside0.mk c1
 clear c1 hy
 go_enter Try.func52,Try.ntmps52
 go_wp2_with (first | ((with_reducible refine gate_dst (N:=10) rfl ?_);refine Kd.S_make (Kd.slice 3 (Kd.int .i64)) _ 37 rfl (N:=10) rfl 29 _ _ rfl (l0.length : Int) rfl rfl Try.underlying29 (.slice none 0 0) 24 (by kernel_rfl) rfl (by decide) (by omega) [] (ok:=fun _ => True) (okp:=fun _ => True) ⟨_,rfl,Kd.R_nil _ _ _ _ _⟩ (fun _ hk => hk) trivial (by omega) (by have:=HM.out;rw [Int.toNat_natCast];omega) (Below.refl _ _) (Nat.le_refl _) ?_;intro vo w2 ho5 hb hg_ hnew_;clear hg_ hnew_;rw [← HY.out] at ho5;have HO:=Aside0.mk ho5;have HB2:=Aside0.mk hb;clear hb ho5))
 refine (spec_l6Reach.calls k _ _ l0 rs _ (Kd.C_below HR0.out HB2.out) HC0.out A.out).mono ?_
 rintro e w3 ⟨vr,rfl,ho0,hb⟩
 have HI:=Aside0.mk (show RInv (Kd.int .i64) 3 37 (Kd.int .i64) 3 w w3 vo vr y rs (fun k => some k = vr.ownBlock) from ⟨below_step HB2.out hb,Kd.S_mono (Kd.S_below (Kd.S_bound HO.out) hb) (fun k hk e => by have:=Kd.R_base ho0 k e.symm;have:=hk.2.2.1;omega),Kd.R_tight rfl (Kd.R_lower ho0 HB2.out.size),fun k e => e,fun k e => Kd.R_lt ho0 k e.symm⟩)
 clear hb ho0 HB2 HO
 obtain ⟨Ar,cr,er⟩:=Kd.R_slice HI.out.row
 subst er
 obtain ⟨Ao,co,eo⟩:=Kd.S_slice HI.out.out
 subst eo
 go_wp2
 obtain ⟨F,HI⟩ : ∃ F,Aside0 (RInv (Kd.int .i64) 3 37 (Kd.int .i64) 3 w w3 (.slice Ao y.length co) (.slice Ar rs.length cr) y rs F):=⟨_,HI⟩
 go_loopg [14] k (fun kq v14 w' => ∃ (x : List (List Int)) (i : Int),v14 = .int .i64 i ∧ Aside0 (spec_l6Preds.l0 kq l0 rs x i = some r) ∧ Aside0 (kq ≤ k) ∧ Aside0 (RInv (Kd.int .i64) 3 37 (Kd.int .i64) 3 w w' (.slice Ao y.length co) (.slice Ar rs.length cr) x rs F))
 case atStart => exact ⟨y,0,rfl,H',⟨Nat.le_refl _⟩,HI⟩
 case round =>
  clear H' HI HY
  obtain ⟨x,i,rfl,HA,HK1,HI⟩:=hrel
  cases gk with
  | zero => exact absurd HA.out (by simp [spec_l6Preds.l0])
  | succ k1 =>
   have H:=HA.out
   clear HA
   simp only [spec_l6Preds.l0] at H
   by_cases c3 : i < (rs.length : Int)
   rotate_left
   ·rw [if_neg c3] at H
    obtain rfl:=Option.some.inj H
    have c3b0 : decide (i < (rs.length : Int)) = false:=decide_eq_false c3
    clear c3
    go_wp2
    go_ret
    exact ⟨_,rfl,Kd.S_mono HI.out.out (fun _ _ => trivial),HI.out.below⟩
   rw [if_pos c3] at H
   by_cases c4 : 0 ≤ i
   rotate_left
   ·rw [if_neg c4] at H;exact absurd H (by simp)
   rw [if_pos c4] at H
   by_cases c5 : 0 ≤ rd rs i
   rotate_left
   ·rw [if_neg c5] at H;exact absurd H (by simp)
   rw [if_pos c5] at H
   by_cases c6 : rd rs i < (l0.length : Int)
   rotate_left
   ·rw [if_neg c6] at H;exact absurd H (by simp)
   rw [if_pos c6] at H
   obtain ⟨kk,hkk⟩ : ∃ kk,kk = rd rs i:=⟨_,rfl⟩
   have hrr:=Kd.R_reads' HI.out.row
   obtain ⟨adr,e1,hx1⟩:=Kd.at_int hrr.2.2 i c4 c3
   cases e1
   rw [← hkk] at H c5 c6 hx1
   obtain ⟨ad2,A0_,c0_,A3_,c3_,e2,_,_,_,hx30,_,_,hl3,hc3⟩:=at_T56 HR0.out kk c5 c6
   cases e2
   obtain ⟨row,hrow⟩ : ∃ row,row = (rd_T56 l0 kk).f3:=⟨_,rfl⟩
   rw [← hrow] at H hx30 hl3 hc3
   have hx3:=pw_cell_below HI.out.below hx30
   have H':=Aside0.mk H
   have HROW:=Aside0.mk hc3
   have c3b0 : decide (i < (rs.length : Int)) = true:=decide_eq_true c3
   have c4b0 : decide (0 ≤ i) = true:=decide_eq_true c4
   have c5b0 : decide (0 ≤ kk) = true:=decide_eq_true c5
   have c6b0 : decide (kk < (l0.length : Int)) = true:=decide_eq_true c6
   have p3:=eq_true c3
   have p4:=eq_true c4
   have p5:=eq_true c5
   have p6:=eq_true c6
   clear H hrr c3 c4 c5 c6 hkk hrow hl3 hc3 hx30
   go_wp2
   clear hx1 hx3 c3b0 c4b0 c5b0 c6b0 p3 p4 p5 p6
   go_loopg [24] k1 (fun kq v24 w' => ∃ (x : List (List Int)) (j : Int),v24 = .int .i64 j ∧ Aside0 (spec_l6Preds.l1 kq l0 rs row kk x i j = some r) ∧ Aside0 (kq ≤ k1) ∧ Aside0 (RInv (Kd.int .i64) 3 37 (Kd.int .i64) 3 w w' (.slice Ao y.length co) (.slice (some adr) rs.length cr) x rs F))
   case atStart => exact ⟨x,0,rfl,H',⟨Nat.le_refl _⟩,HI⟩
   case round =>
    clear H' HI
    obtain ⟨x,j,rfl,HA,HK2,HI⟩:=hrel
    cases gk with
    | zero => exact absurd HA.out (by simp [spec_l6Preds.l1])
    | succ k2 =>
     have H:=HA.out
     clear HA
     simp only [spec_l6Preds.l1] at H
     by_cases c5 : j < (row.length : Int)
     rotate_left
     ·rw [if_neg c5] at H
      have H':=Aside0.mk H
      have c5b0 : decide (j < (row.length : Int)) = false:=decide_eq_false c5
      clear H c5
      go_wp2
      go_roundg k2
      case measure => have:=HK2.out;have:=HK1.out;omega
      case rel => exact ⟨x,_,rfl,H',⟨by have:=HK2.out;have:=HK1.out;omega⟩,HI⟩
     rw [if_pos c5] at H
     by_cases c6 : 0 ≤ j
     rotate_left
     ·rw [if_neg c6] at H;exact absurd H (by simp)
     rw [if_pos c6] at H
     by_cases c7 : 0 ≤ rd row j
     rotate_left
     ·rw [if_neg c7] at H;exact absurd H (by simp)
     rw [if_pos c7] at H
     by_cases c8 : rd row j < (x.length : Int)
     rotate_left
     ·rw [if_neg c8] at H;exact absurd H (by simp)
     rw [if_pos c8] at H
     obtain ⟨z,A1,H⟩:=Option.bind_eq_some_iff.mp H
     have A7:=Aside0.mk A1
     have H':=Aside0.mk H
     obtain ⟨ad,e1,hx1⟩:=Kd.at_int (Kd.C_below HROW.out HI.out.below) j c6 c5
     cases e1
     have hlen:=(Kd.S_reads' HI.out.out).1
     obtain ⟨g,oki,ve,rfl,hx2,hf2,hR,hoki,hPg,hbg,hH⟩:=S_row HI.out.out (rd row j) c7 (by omega)
     have HH:=Aside0.mk hH
     have HR:=Aside0.mk hR
     have HKI:=Aside0.mk hoki
     have HPG:=Aside0.mk hPg
     have HBG:=Aside0.mk hbg
     have c5b : decide (j < (row.length : Int)) = true:=decide_eq_true c5
     have c6b : decide (0 ≤ j) = true:=decide_eq_true c6
     have c7b : decide (0 ≤ rd row j) = true:=decide_eq_true c7
     have c8b : decide (rd row j < (y.length : Int)) = true:=decide_eq_true (by omega)
     have p5:=eq_true c5
     have p6:=eq_true c6
     have p7:=eq_true c7
     have p8 : (rd row j < (y.length : Int)) = True:=eq_true (by omega)
     have HQ:=Aside0.mk (show rd row j < (y.length : Int) by omega)
     have HQ0:=Aside0.mk c7
     clear A1 H hH hR hoki hPg hbg hlen c5 c6 c7 c8
     go_wp2_with (first | (go_at_call 74;(refine (spec_l1Put.calls k2 oki ve (x.getD (rd row j).toNat []) kk z w _ HI.out.below HR.out A7.out).mono ?_);rintro e w7 ⟨v0,rfl,hr0,hb,hkp⟩;obtain ⟨A0v,c0v,e0v⟩:=Kd.R_slice hr0;subst e0v;have hput:=HI.out.put HH.out HQ0.out HQ.out HPG.out HBG.out hkp hb hr0;have hx7 : w7.cell? ⟨g,(rd row j).toNat,none⟩ = some ve:=cell_kept hx2 hkp (fun h_ => (HKI.out g h_).2 rfl);have hf7 : w7.frozen? ⟨g,(rd row j).toNat,none⟩ = false:=(frozen_kept hkp (fun h_ => (HKI.out g h_).2 rfl) (World.block_lt_of_cell? _ _ hx2)).trans hf2;have HI7:=Aside0.mk hput.1;clear hput hr0 hb hkp HR HH HKI HPG HBG HI hx2 hf2 hx1))
     go_roundg k2
     case measure => have:=HK2.out;omega
     case rel => exact ⟨_,_,rfl,H',⟨by have:=HK2.out;omega⟩,HI7⟩

/-! ### spec_l6Own: function 80 -/
def spec_l6Own.f (l0_0 : List (S79)) (a0_1 : Int) (a0_2 : Int) (l0_3 : List Int) : Option ((List (S79)) × Int × Int × List Int):=(some (([] : List (S79)) : List (S79))).bind fun y260 => (if y260.length + l0_0.length < 2932031007402 then ((some (([] : List Int) : List Int)).bind fun y266 => (if y266.length + l0_3.length < 17592186044416 then (some ((y260 ++ l0_0),a0_1,a0_2,(y266 ++ l0_3))) else (none))) else (none))
set_option maxHeartbeats 8000000 in
set_option maxRecDepth 100000 in
theorem spec_l6Own.calls (A0_0 : Option Addr) (c0_0 : Nat) (l0_0 : List (S79)) (a0_1 : Int) (a0_2 : Int) (A0_3 : Option Addr) (c0_3 : Nat) (l0_3 : List Int) (r1 : List (S79)) (r2 : Int) (r3 : Int) (r4 : List Int) (w : World) (hr0_0 : Kd.C k79 w A0_0 l0_0.length l0_0) (hc0_0 : l0_0.length ≤ c0_0) (hr0_3 : Kd.C (Kd.int .i64) w A0_3 l0_3.length l0_3) (hc0_3 : l0_3.length ≤ c0_3) (h : spec_l6Own.f l0_0 a0_1 a0_2 l0_3 = some (r1,r2,r3,r4)) :
  Calls Try.prog 80 #[.agg #[.slice A0_0 l0_0.length c0_0,.int .i64 a0_1,.int .i64 a0_2,.slice A0_3 l0_3.length c0_3]] w fun e w' => ∃ v0_ v3_ : Value,e = .returned (.agg #[v0_,.int .i64 r2,.int .i64 r3,v3_]) ∧ Kd.R k79 79 w' w.heap.size (fun _ => True) v0_ r1 ∧ Kd.R (Kd.int .i64) 3 w' w.heap.size (fun _ => True) v3_ r4 ∧ Below w.heap.size w w':=by
 have hu56:=Try.underlying56
 have HR0_0:=Aside0.mk hr0_0
 have HC0_0:=Aside0.mk hc0_0
 clear hr0_0 hc0_0
 have HR0_3:=Aside0.mk hr0_3
 have HC0_3:=Aside0.mk hc0_3
 clear hr0_3 hc0_3
 have HB:=Aside0.mk (Below.refl w.heap.size w)
 have H : ((some (([] : List (S79)) : List (S79))).bind fun y260 => (if y260.length + l0_0.length < 2932031007402 then ((some (([] : List Int) : List Int)).bind fun y266 => (if y266.length + l0_3.length < 17592186044416 then (some ((y260 ++ l0_0),a0_1,a0_2,(y266 ++ l0_3))) else (none))) else (none))) = some (r1,r2,r3,r4):=h
 clear h
 obtain ⟨y260,hy260⟩ : ∃ y_ : List (S79),y_ = (([] : List (S79))):=⟨_,rfl⟩
 replace H : (if y260.length + l0_0.length < 2932031007402 then ((some (([] : List Int) : List Int)).bind fun y266 => (if y266.length + l0_3.length < 17592186044416 then (some ((y260 ++ l0_0),a0_1,a0_2,(y266 ++ l0_3))) else (none))) else (none)) = some (r1,r2,r3,r4):=by first | (rw [hy260];with_reducible exact H) | (have H2_:=(Option.bind_some _ _).symm.trans H;rw [hy260];with_reducible exact H2_) | (have H2_:=(Option.bind_some _ _).symm.trans H;with_reducible exact H2_) | with_reducible exact H | (rw [hy260];exact H) | exact H
 have Ny260:=Aside0.mk hy260
 clear hy260
 by_cases c2 : y260.length + l0_0.length < 2932031007402
 rotate_left
 ·rw [if_neg c2] at H
  exact absurd H (by simp)
 rw [if_pos c2] at H
 have LMc2:=Aside0.mk c2
 clear c2
 obtain ⟨y263,hy263⟩ : ∃ y_ : List (S79),y_ = (y260 ++ l0_0):=⟨_,rfl⟩
 replace H : ((some (([] : List Int) : List Int)).bind fun y266 => (if y266.length + l0_3.length < 17592186044416 then (some (y263,a0_1,a0_2,(y266 ++ l0_3))) else (none))) = some (r1,r2,r3,r4):=by first | (rw [hy263];with_reducible exact H) | (have H2_:=(Option.bind_some _ _).symm.trans H;rw [hy263];with_reducible exact H2_) | (have H2_:=(Option.bind_some _ _).symm.trans H;with_reducible exact H2_) | with_reducible exact H | (rw [hy263];exact H) | exact H
 have Ny263:=Aside0.mk hy263
 clear hy263
 obtain ⟨y266,hy266⟩ : ∃ y_ : List Int,y_ = (([] : List Int)):=⟨_,rfl⟩
 replace H : (if y266.length + l0_3.length < 17592186044416 then (some (y263,a0_1,a0_2,(y266 ++ l0_3))) else (none)) = some (r1,r2,r3,r4):=by first | (rw [hy266];with_reducible exact H) | (have H2_:=(Option.bind_some _ _).symm.trans H;rw [hy266];with_reducible exact H2_) | (have H2_:=(Option.bind_some _ _).symm.trans H;with_reducible exact H2_) | with_reducible exact H | (rw [hy266];exact H) | exact H
 have Ny266:=Aside0.mk hy266
 clear hy266
 by_cases c3 : y266.length + l0_3.length < 17592186044416
 rotate_left
 ·rw [if_neg c3] at H
  exact absurd H (by simp)
 rw [if_pos c3] at H
 have LMc3:=Aside0.mk c3
 clear c3
 obtain ⟨y269,hy269⟩ : ∃ y_ : List Int,y_ = (y266 ++ l0_3):=⟨_,rfl⟩
 replace H : (some (y263,a0_1,a0_2,y269)) = some (r1,r2,r3,r4):=by first | (rw [hy269];with_reducible exact H) | (have H2_:=(Option.bind_some _ _).symm.trans H;rw [hy269];with_reducible exact H2_) | (have H2_:=(Option.bind_some _ _).symm.trans H;with_reducible exact H2_) | with_reducible exact H | (rw [hy269];exact H) | exact H
 have Ny269:=Aside0.mk hy269
 clear hy269
 simp only [Option.some.injEq,Prod.mk.injEq] at H
 obtain ⟨rfl,rfl,rfl,rfl⟩:=H
 go_enter Try.func80,Try.ntmps80
 go_wp2_with (first | ((with_reducible refine gate_dst (N:=1) rfl ?_);refine box_event ?hg (N:=1) ?hd (cs:=#[.slice A0_0 l0_0.length c0_0,.int .i64 a0_1,.int .i64 a0_2,.slice A0_3 l0_3.length c0_3]) (t:=56) ?hr ?_;(case hd => rfl);(case hg => rfl);(case hr => first | (go_simp;done) | (go_simp;rfl));intro gb258 hg w4 hbox hb;have n0_:=Aside0.mk (below_step (by repeat (with_reducible first | exact HB.out | apply below_alloc | apply pw_below_drewN | apply below_drew1)) hb);have n1_:=Aside0.mk (hbox);have n2_:=Aside0.mk ((by rw [hg];exact (below_size (by repeat (with_reducible first | exact HB.out | apply below_alloc | apply pw_below_drewN | apply below_drew1))) : w.heap.size ≤ gb258));have n3_:=Aside0.mk ((by rw [hg];exact (below_size (by repeat (with_reducible first | exact HB.out | apply below_alloc | apply pw_below_drewN | apply below_drew1))) : w.heap.size ≤ gb258));clear HB;have HB:=n0_;have BK258:=n1_;have GW258:=n2_;have GE258:=n3_;clear n0_ n1_ n2_ n3_;clear hb hbox hg) | ((with_reducible refine gate_dst (N:=2) rfl ?_);refine box_event ?hg (N:=2) ?hd (cs:=#[.slice none 0 0,.int .i64 0,.int .i64 0,.slice none 0 0]) (t:=56) ?hr ?_;(case hd => rfl);(case hg => rfl);(case hr => first | (go_simp;done) | (go_simp;rfl));intro gb259 hg w5 hbox hb;have n0_:=Aside0.mk (blk_below (g:=gb258) (o:=.cells #[.slice A0_0 l0_0.length c0_0,.int .i64 a0_1,.int .i64 a0_2,.slice A0_3 l0_3.length c0_3] 56 (0,0)) (by (with_reducible repeat (first | refine blk_drewN ?_ _ | refine blk_drew ?_ | refine blk_alloc ?_ _));exact BK258.out) hb);have n1_:=Aside0.mk (below_step (by repeat (with_reducible first | exact HB.out | apply below_alloc | apply pw_below_drewN | apply below_drew1 | refine below_set ?_ GE258.out)) hb);have n2_:=Aside0.mk (hbox);have n3_:=Aside0.mk ((by rw [hg];exact (below_size (by repeat (with_reducible first | exact HB.out | apply below_alloc | apply pw_below_drewN | apply below_drew1 | refine below_set ?_ GE258.out))) : w.heap.size ≤ gb259));have n4_:=Aside0.mk ((by rw [hg];exact (below_size (by repeat (with_reducible first | exact HB.out | apply below_alloc | apply pw_below_drewN | apply below_drew1 | refine below_set ?_ GE258.out))) : w.heap.size ≤ gb259));have n5_:=Aside0.mk ((by rw [hg];exact Nat.ne_of_lt (blk_lt (g:=gb258) (o:=.cells #[.slice A0_0 l0_0.length c0_0,.int .i64 a0_1,.int .i64 a0_2,.slice A0_3 l0_3.length c0_3] 56 (0,0)) (by (with_reducible repeat (first | refine blk_drewN ?_ _ | refine blk_drew ?_ | refine blk_alloc ?_ _));exact BK258.out)) : gb258 ≠ gb259));have n6_:=Aside0.mk ((by rw [hg];exact Nat.ne_of_gt (blk_lt (g:=gb258) (o:=.cells #[.slice A0_0 l0_0.length c0_0,.int .i64 a0_1,.int .i64 a0_2,.slice A0_3 l0_3.length c0_3] 56 (0,0)) (by (with_reducible repeat (first | refine blk_drewN ?_ _ | refine blk_drew ?_ | refine blk_alloc ?_ _));exact BK258.out)) : gb259 ≠ gb258));clear BK258;clear HB;have BK258:=n0_;have HB:=n1_;have BK259:=n2_;have GW259:=n3_;have GE259:=n4_;have NB258_259:=n5_;have NB259_258:=n6_;clear n0_ n1_ n2_ n3_ n4_ n5_ n6_;clear hb hbox hg) | ((with_reducible refine gate_dst (N:=3) rfl ?_);refine Kd.R_lit k79 _ 79 ?hg (N:=3) ?hd (xs:=([] : List (S79))) (inner:=[]) (ok:=fun _ => True) (okp:=fun _ => True) ?hr ?hp (fun _ hk => hk) trivial (Below.refl _ _) (Nat.le_refl _) (by simp) ?_;(case hd => rfl);(case hg => rfl);(case hr => first | (go_simp;done) | (go_simp;rfl));(case hp => exact (Reps.none _ _));intro v261 w6 ho7 hb hg_ hnew_;clear hg_ hnew_;(first | rw [← Ny260.out] at ho7 | (simp only [Int.reduceToNat] at ho7;rw [← Ny260.out] at ho7));have n0_:=Aside0.mk (Kd.R_lower ho7 (below_size (by repeat (with_reducible first | exact HB.out | apply below_alloc | apply pw_below_drewN | apply below_drew1 | refine below_set ?_ GE258.out | refine below_set ?_ GE259.out))));have n1_:=Aside0.mk (blk_below (g:=gb258) (o:=.cells #[.slice A0_0 l0_0.length c0_0,.int .i64 a0_1,.int .i64 a0_2,.slice A0_3 l0_3.length c0_3] 56 (0,0)) (by (with_reducible repeat (first | refine blk_drewN ?_ _ | refine blk_drew ?_ | refine blk_alloc ?_ _));exact BK258.out) hb);have n2_:=Aside0.mk (blk_below (g:=gb259) (o:=.cells #[.slice none 0 0,.int .i64 0,.int .i64 0,.slice none 0 0] 56 (0,0)) (by (with_reducible repeat (first | refine blk_drewN ?_ _ | refine blk_drew ?_ | refine blk_alloc ?_ _));exact BK259.out) hb);have n3_:=Aside0.mk (below_step (by repeat (with_reducible first | exact HB.out | apply below_alloc | apply pw_below_drewN | apply below_drew1 | refine below_set ?_ GE258.out | refine below_set ?_ GE259.out)) hb);clear BK258;clear BK259;clear HB;have HO262:=n0_;have BK258:=n1_;have BK259:=n2_;have HB:=n3_;clear n0_ n1_ n2_ n3_;clear hb ho7;have hnb8:=NB258_259.out;have hnc8:=NB259_258.out;have hcz9_0 : w6.cell? ⟨gb258,0,none⟩ = some (.slice A0_0 l0_0.length c0_0):=(blk_cell BK258.out 0).trans rfl;have hcz9_1 : w6.cell? ⟨gb258,1,none⟩ = some (.int .i64 a0_1):=(blk_cell BK258.out 1).trans rfl;have hcz9_2 : w6.cell? ⟨gb258,2,none⟩ = some (.int .i64 a0_2):=(blk_cell BK258.out 2).trans rfl;have hcz9_3 : w6.cell? ⟨gb258,3,none⟩ = some (.slice A0_3 l0_3.length c0_3):=(blk_cell BK258.out 3).trans rfl;have hfz9_0:=blk_frozen BK258.out 0;have hfz9_1:=blk_frozen BK258.out 1;have hfz9_2:=blk_frozen BK258.out 2;have hfz9_3:=blk_frozen BK258.out 3) | ((with_reducible refine gate_builtin (b:=.append) (xs:=#[.tmp 3,.tmp 5]) rfl ?_);at_builtin;refine Kd.R_append_rows k79 (w0:=w) w.heap.size rfl (.tmp 3) (.tmp 5) 54 79 (.agg #[(.int .i64 0),(.int .i64 0),(.int .i64 0),(.int .i64 0),(.int .i64 0),(.int .i64 0)]) 48 rfl Try.underlying54 info79 rfl (by decide) (by omega) v261 y260 l0_0 _ _ _ (fun _ => True) (fun _ => False) rfl rfl ?aO ?aR (fun _ _ h => h) (fun _ h => h.elim) ?aF ?aB ?aS ?aL ?_;(case aR => repeat (first | exact (Kd.C_below HR0_0.out HB.out) | (with_reducible refine Kd.C_alloc ?_ _) | (with_reducible refine Kd.C_drewN ?_ _) | (with_reducible refine Kd.C_drew ?_)));(case aB => exact (by repeat (with_reducible first | exact HB.out | apply below_alloc | apply pw_below_drewN | apply below_drew1 | refine below_set ?_ GE258.out | refine below_set ?_ GE259.out)));(case aF => exact (fun _ _ => trivial));(case aO => exact (by (with_reducible repeat (first | apply Kd.R_alloc | apply Kd.R_drewN | apply Kd.R_drew));exact HO262.out));(case aS => exact (below_size (by repeat (with_reducible first | exact HB.out | apply below_alloc | apply pw_below_drewN | apply below_drew1 | refine below_set ?_ GE258.out | refine below_set ?_ GE259.out))));(case aL => have:=LMc2.out;omega);intro v264 w10 ho hb hg hat;rw [← Ny263.out] at ho;have n0_:=Aside0.mk (blk_grown (g:=gb258) (o:=.cells #[.slice A0_0 l0_0.length c0_0,.int .i64 a0_1,.int .i64 a0_2,.slice A0_3 l0_3.length c0_3] 56 (0,0)) (by (with_reducible repeat (first | refine blk_drewN ?_ _ | refine blk_drew ?_ | refine blk_alloc ?_ _));exact BK258.out) hg (Kd.R_ne HO262.out BK258.out (by decide)));have n1_:=Aside0.mk (blk_grown (g:=gb259) (o:=.cells #[.slice none 0 0,.int .i64 0,.int .i64 0,.slice none 0 0] 56 (0,0)) (by (with_reducible repeat (first | refine blk_drewN ?_ _ | refine blk_drew ?_ | refine blk_alloc ?_ _));exact BK259.out) hg (Kd.R_ne HO262.out BK259.out (by decide)));have n2_:=Aside0.mk (hb);have n3_:=Aside0.mk (ho);clear BK258;clear BK259;clear HB;clear HO262;have BK258:=n0_;have BK259:=n1_;have HB:=n2_;have HO265:=n3_;clear n0_ n1_ n2_ n3_;clear ho hb hg hat;obtain ⟨Ao11,co11,eo11⟩:=Kd.R_slice HO265.out;subst eo11;have hcz12_0 : w10.cell? ⟨gb258,0,none⟩ = some (.slice A0_0 l0_0.length c0_0):=(blk_cell BK258.out 0).trans rfl;have hcz12_1 : w10.cell? ⟨gb258,1,none⟩ = some (.int .i64 a0_1):=(blk_cell BK258.out 1).trans rfl;have hcz12_2 : w10.cell? ⟨gb258,2,none⟩ = some (.int .i64 a0_2):=(blk_cell BK258.out 2).trans rfl;have hcz12_3 : w10.cell? ⟨gb258,3,none⟩ = some (.slice A0_3 l0_3.length c0_3):=(blk_cell BK258.out 3).trans rfl;have hfz12_0:=blk_frozen BK258.out 0;have hfz12_1:=blk_frozen BK258.out 1;have hfz12_2:=blk_frozen BK258.out 2;have hfz12_3:=blk_frozen BK258.out 3) | ((with_reducible refine gate_dst (N:=8) rfl ?_);refine Kd.R_lit (Kd.int .i64) _ 3 ?hg (N:=8) ?hd (xs:=([] : List Int)) (inner:=[]) (ok:=fun _ => True) (okp:=fun _ => True) ?hr ?hp (fun _ hk => hk) trivial (Below.refl _ _) (Nat.le_refl _) (by simp) ?_;(case hd => rfl);(case hg => rfl);(case hr => first | (go_simp;done) | (go_simp;rfl));(case hp => exact (Reps.none _ _));intro v267 w13 ho14 hb hg_ hnew_;clear hg_ hnew_;(first | rw [← Ny266.out] at ho14 | (simp only [Int.reduceToNat] at ho14;rw [← Ny266.out] at ho14));have n0_:=Aside0.mk (Kd.R_below (by (with_reducible repeat (first | apply Kd.R_alloc | apply Kd.R_drewN | apply Kd.R_drew));exact (Kd.R_mono (Kd.R_far (p:=⟨gb258,0,none⟩) (Kd.R_types HO265.out BK258.out (by decide)) (fun _ hk => hk.2) (.slice Ao11 y263.length co11)) (fun _ h_ => h_.1))) hb);have n1_:=Aside0.mk (Kd.R_lower ho14 (below_size (by repeat (with_reducible first | exact HB.out | apply below_alloc | apply pw_below_drewN | apply below_drew1 | refine below_set ?_ GE258.out | refine below_set ?_ GE259.out))));have n2_:=Aside0.mk (blk_below (g:=gb258) (o:=.cells #[.slice Ao11 y263.length co11,.int .i64 a0_1,.int .i64 a0_2,.slice A0_3 l0_3.length c0_3] 56 (0,0)) (by (with_reducible repeat (first | refine blk_drewN ?_ _ | refine blk_drew ?_ | refine blk_alloc ?_ _));refine blk_put (cs:=#[.slice A0_0 l0_0.length c0_0,.int .i64 a0_1,.int .i64 a0_2,.slice A0_3 l0_3.length c0_3]) ?_ 0 _ rfl;(with_reducible repeat (first | refine blk_drewN ?_ _ | refine blk_drew ?_ | refine blk_alloc ?_ _));exact BK258.out) hb);have n3_:=Aside0.mk (blk_below (g:=gb259) (o:=.cells #[.slice none 0 0,.int .i64 0,.int .i64 0,.slice none 0 0] 56 (0,0)) (by (with_reducible repeat (first | refine blk_drewN ?_ _ | refine blk_drew ?_ | refine blk_alloc ?_ _));refine blk_far ?_ NB259_258.out _;(with_reducible repeat (first | refine blk_drewN ?_ _ | refine blk_drew ?_ | refine blk_alloc ?_ _));exact BK259.out) hb);have n4_:=Aside0.mk (below_step (by repeat (with_reducible first | exact HB.out | apply below_alloc | apply pw_below_drewN | apply below_drew1 | refine below_set ?_ GE258.out | refine below_set ?_ GE259.out)) hb);clear HO265;clear BK258;clear BK259;clear HB;have HO265:=n0_;have HO268:=n1_;have BK258:=n2_;have BK259:=n3_;have HB:=n4_;clear n0_ n1_ n2_ n3_ n4_;clear hb ho14;have hcz15_0 : w13.cell? ⟨gb258,0,none⟩ = some (.slice Ao11 y263.length co11):=(blk_cell BK258.out 0).trans rfl;have hcz15_1 : w13.cell? ⟨gb258,1,none⟩ = some (.int .i64 a0_1):=(blk_cell BK258.out 1).trans rfl;have hcz15_2 : w13.cell? ⟨gb258,2,none⟩ = some (.int .i64 a0_2):=(blk_cell BK258.out 2).trans rfl;have hcz15_3 : w13.cell? ⟨gb258,3,none⟩ = some (.slice A0_3 l0_3.length c0_3):=(blk_cell BK258.out 3).trans rfl;have hfz15_0:=blk_frozen BK258.out 0;have hfz15_1:=blk_frozen BK258.out 1;have hfz15_2:=blk_frozen BK258.out 2;have hfz15_3:=blk_frozen BK258.out 3) | ((with_reducible refine gate_builtin (b:=.append) (xs:=#[.tmp 8,.tmp 10]) rfl ?_);at_builtin;refine Kd.R_append_rows (Kd.int .i64) (w0:=w) w.heap.size rfl (.tmp 8) (.tmp 10) 37 3 (.int .i64 0) 8 rfl Try.underlying37 info3 rfl (by decide) (by omega) v267 y266 l0_3 _ _ _ (fun _ => True) (fun _ => False) rfl rfl ?aO ?aR (fun _ _ h => h) (fun _ h => h.elim) ?aF ?aB ?aS ?aL ?_;(case aR => repeat (first | exact (Kd.C_below HR0_3.out HB.out) | (with_reducible refine Kd.C_alloc ?_ _) | (with_reducible refine Kd.C_drewN ?_ _) | (with_reducible refine Kd.C_drew ?_)));(case aB => exact (by repeat (with_reducible first | exact HB.out | apply below_alloc | apply pw_below_drewN | apply below_drew1 | refine below_set ?_ GE258.out | refine below_set ?_ GE259.out)));(case aF => exact (fun _ _ => trivial));(case aO => exact (by (with_reducible repeat (first | apply Kd.R_alloc | apply Kd.R_drewN | apply Kd.R_drew));exact HO268.out));(case aS => exact (below_size (by repeat (with_reducible first | exact HB.out | apply below_alloc | apply pw_below_drewN | apply below_drew1 | refine below_set ?_ GE258.out | refine below_set ?_ GE259.out))));(case aL => have:=LMc3.out;omega);intro v270 w16 ho hb hg hat;rw [← Ny269.out] at ho;have n0_:=Aside0.mk (blk_grown (g:=gb258) (o:=.cells #[.slice Ao11 y263.length co11,.int .i64 a0_1,.int .i64 a0_2,.slice A0_3 l0_3.length c0_3] 56 (0,0)) (by (with_reducible repeat (first | refine blk_drewN ?_ _ | refine blk_drew ?_ | refine blk_alloc ?_ _));exact BK258.out) hg (Kd.R_ne HO268.out BK258.out (by decide)));have n1_:=Aside0.mk (blk_grown (g:=gb259) (o:=.cells #[.slice none 0 0,.int .i64 0,.int .i64 0,.slice none 0 0] 56 (0,0)) (by (with_reducible repeat (first | refine blk_drewN ?_ _ | refine blk_drew ?_ | refine blk_alloc ?_ _));exact BK259.out) hg (Kd.R_ne HO268.out BK259.out (by decide)));have n2_:=Aside0.mk (Kd.R_over' (by (with_reducible repeat (first | apply Kd.R_alloc | apply Kd.R_drewN | apply Kd.R_drew));exact HO265.out) (Kd.R_typed (by (with_reducible repeat (first | apply Kd.R_alloc | apply Kd.R_drewN | apply Kd.R_drew));exact HO268.out)) (by decide) hg);have n3_:=Aside0.mk (hb);have n4_:=Aside0.mk (ho);clear BK258;clear BK259;clear HO265;clear HB;clear HO268;have BK258:=n0_;have BK259:=n1_;have HO265:=n2_;have HB:=n3_;have HO271:=n4_;clear n0_ n1_ n2_ n3_ n4_;clear ho hb hg hat;obtain ⟨Ao17,co17,eo17⟩:=Kd.R_slice HO271.out;subst eo17;have hcz18_0 : w16.cell? ⟨gb258,0,none⟩ = some (.slice Ao11 y263.length co11):=(blk_cell BK258.out 0).trans rfl;have hcz18_1 : w16.cell? ⟨gb258,1,none⟩ = some (.int .i64 a0_1):=(blk_cell BK258.out 1).trans rfl;have hcz18_2 : w16.cell? ⟨gb258,2,none⟩ = some (.int .i64 a0_2):=(blk_cell BK258.out 2).trans rfl;have hcz18_3 : w16.cell? ⟨gb258,3,none⟩ = some (.slice A0_3 l0_3.length c0_3):=(blk_cell BK258.out 3).trans rfl;have hfz18_0:=blk_frozen BK258.out 0;have hfz18_1:=blk_frozen BK258.out 1;have hfz18_2:=blk_frozen BK258.out 2;have hfz18_3:=blk_frozen BK258.out 3;have hcz19_0 : w16.cell? ⟨gb259,0,none⟩ = some (.slice none 0 0):=(blk_cell BK259.out 0).trans rfl;have hcz19_1 : w16.cell? ⟨gb259,1,none⟩ = some (.int .i64 0):=(blk_cell BK259.out 1).trans rfl;have hcz19_2 : w16.cell? ⟨gb259,2,none⟩ = some (.int .i64 0):=(blk_cell BK259.out 2).trans rfl;have hcz19_3 : w16.cell? ⟨gb259,3,none⟩ = some (.slice none 0 0):=(blk_cell BK259.out 3).trans rfl;have hfz19_0:=blk_frozen BK259.out 0;have hfz19_1:=blk_frozen BK259.out 1;have hfz19_2:=blk_frozen BK259.out 2;have hfz19_3:=blk_frozen BK259.out 3))
 refine bodyPost_ret (results_cell_row rfl _ _ gb259 56 #[.slice Ao11 y263.length co11,.int .i64 a0_1,.int .i64 a0_2,.slice Ao17 y269.length co17] (0,0) _ rfl (by (with_reducible repeat (first | refine blk_drewN ?_ _ | refine blk_drew ?_ | refine blk_alloc ?_ _));refine blk_put (cs:=#[.slice Ao11 y263.length co11,.int .i64 a0_1,.int .i64 a0_2,.slice none 0 0]) ?_ 3 _ rfl;(with_reducible repeat (first | refine blk_drewN ?_ _ | refine blk_drew ?_ | refine blk_alloc ?_ _));refine blk_put (cs:=#[.slice Ao11 y263.length co11,.int .i64 a0_1,.int .i64 0,.slice none 0 0]) ?_ 2 _ rfl;(with_reducible repeat (first | refine blk_drewN ?_ _ | refine blk_drew ?_ | refine blk_alloc ?_ _));refine blk_put (cs:=#[.slice Ao11 y263.length co11,.int .i64 0,.int .i64 0,.slice none 0 0]) ?_ 1 _ rfl;(with_reducible repeat (first | refine blk_drewN ?_ _ | refine blk_drew ?_ | refine blk_alloc ?_ _));refine blk_put (cs:=#[.slice none 0 0,.int .i64 0,.int .i64 0,.slice none 0 0]) ?_ 0 _ rfl;(with_reducible repeat (first | refine blk_drewN ?_ _ | refine blk_drew ?_ | refine blk_alloc ?_ _));refine blk_far ?_ NB259_258.out _;(with_reducible repeat (first | refine blk_drewN ?_ _ | refine blk_drew ?_ | refine blk_alloc ?_ _));exact BK259.out) Try.underlying56 rfl (by kernel_rfl)) rfl ?_
 exact ⟨_,_,by first | rfl | (simp [*,errW_none,errW_some] <;> rfl),by (with_reducible repeat (first | apply Kd.R_alloc | apply Kd.R_drewN | apply Kd.R_drew));exact Kd.R_mono (Kd.R_far (p:=⟨gb259,3,none⟩) (Kd.R_far (p:=⟨gb259,2,none⟩) (Kd.R_far (p:=⟨gb259,1,none⟩) (Kd.R_far (p:=⟨gb259,0,none⟩) (Kd.R_far (p:=⟨gb258,3,none⟩) (Kd.R_types (Kd.R_types HO265.out BK258.out (by decide)) BK259.out (by decide)) (fun _ hk => hk.1.2) (.slice Ao17 y269.length co17)) (fun _ hk => hk.2) (.slice Ao11 y263.length co11)) (fun _ hk => hk.2) (.int .i64 a0_1)) (fun _ hk => hk.2) (.int .i64 a0_2)) (fun _ hk => hk.2) (.slice Ao17 y269.length co17)) (fun _ hk => trivial),by (with_reducible repeat (first | apply Kd.R_alloc | apply Kd.R_drewN | apply Kd.R_drew));exact Kd.R_mono (Kd.R_far (p:=⟨gb259,3,none⟩) (Kd.R_far (p:=⟨gb259,2,none⟩) (Kd.R_far (p:=⟨gb259,1,none⟩) (Kd.R_far (p:=⟨gb259,0,none⟩) (Kd.R_far (p:=⟨gb258,3,none⟩) (Kd.R_types (Kd.R_types HO271.out BK258.out (by decide)) BK259.out (by decide)) (fun _ hk => hk.1.2) (.slice Ao17 y269.length co17)) (fun _ hk => hk.2) (.slice Ao11 y263.length co11)) (fun _ hk => hk.2) (.int .i64 a0_1)) (fun _ hk => hk.2) (.int .i64 a0_2)) (fun _ hk => hk.2) (.slice Ao17 y269.length co17)) (fun _ hk => trivial),by repeat (with_reducible first | exact HB.out | apply below_alloc | apply pw_below_drewN | apply below_drew1 | refine below_set ?_ GE258.out | refine below_set ?_ GE259.out)⟩

/-! ### spec_l6Trim: function 54 (by hand: blocks with rows of their own are made, written and laid behind others) -/
/-- What holds between the rounds: what is laid out so far, the numbers, the list. -/
structure SpTrInv (b B : Nat) (w W : World) (vo vn vl : Value) (out : List S56) (ns ls : List Int) : Prop where
 below : Below B w W
 hBW : B ≤ W.heap.size
 out : Kd.S k56 56 W B (fun k => some k ≠ vn.ownBlock ∧ some k ≠ vl.ownBlock) vo out
 ns : (Kd.int .i64).R 3 W b (fun k => some k = vn.ownBlock) vn ns
 ls : (Kd.int .i64).R 3 W b (fun k => some k = vl.ownBlock) vl ls
theorem SpTr_weak {w0 w w1 : World} {B : Nat} (h : Below w0.heap.size w0 w) (hB : w0.heap.size ≤ B) (k : Below B w w1) : Below w0.heap.size w0 w1:=h.trans ⟨k.os,k.tape,k.output,k.size,fun i hi => k.block i (Nat.lt_of_lt_of_le hi hB)⟩
theorem SpTrInv.step {b B : Nat} {w W W' : World} {vo vn vl : Value} {out : List S56} {ns ls : List Int} (h : SpTrInv b B w W vo vn vl out ns ls) (hb : Below W.heap.size W W') : SpTrInv b B w W' vo vn vl out ns ls:=⟨below_then h.below h.hBW hb,Nat.le_trans h.hBW hb.size,Kd.S_below h.out hb,Kd.R_below h.ns hb,Kd.R_below h.ls hb⟩
/-- The same, within a round: a block in a variable, with two rows of its own. -/
structure SpTrIn (b B : Nat) (w W : World) (m gb : Nat) (vo vn vl v0 v3 : Value) (out : List S56) (ns ls : List Int) (code : List S79) (go tst : Int) (nx : List Int) : Prop where
 below : Below B w W
 hm : B ≤ m
 hmW : m ≤ W.heap.size
 out : Kd.S k56 56 W B (fun k => (some k ≠ vn.ownBlock ∧ some k ≠ vl.ownBlock) ∧ k < m) vo out
 ns : (Kd.int .i64).R 3 W b (fun k => some k = vn.ownBlock) vn ns
 ls : (Kd.int .i64).R 3 W b (fun k => some k = vl.ownBlock) vl ls
 nlt : ∀ k,some k = vn.ownBlock → k < m
 llt : ∀ k,some k = vl.ownBlock → k < m
 r0 : k79.R 79 W m (fun k => some k = v0.ownBlock) v0 code
 r3 : (Kd.int .i64).R 3 W m (fun k => some k = v3.ownBlock) v3 nx
 hgb : m ≤ gb
 box : W.heap[gb]? = some (.cells #[v0,.int .i64 go,.int .i64 tst,v3] 56 (0,0))
section
variable {b B : Nat} {w W W' : World} {m gb : Nat} {vo vn vl v0 v3 : Value} {out : List S56} {ns ls : List Int} {code : List S79} {go tst : Int} {nx : List Int}
theorem SpTrIn.step (h : SpTrIn b B w W m gb vo vn vl v0 v3 out ns ls code go tst nx) (hb : Below W.heap.size W W') : SpTrIn b B w W' m gb vo vn vl v0 v3 out ns ls code go tst nx :=
 ⟨below_then h.below (Nat.le_trans h.hm h.hmW) hb,h.hm,Nat.le_trans h.hmW hb.size,Kd.S_below h.out hb,Kd.R_below h.ns hb,Kd.R_below h.ls hb,h.nlt,h.llt,Kd.R_below h.r0 hb,Kd.R_below h.r3 hb,h.hgb,blk_below h.box hb⟩
theorem SpTrIn.drewN (h : SpTrIn b B w W m gb vo vn vl v0 v3 out ns ls code go tst nx) (n : Nat) : SpTrIn b B w (W.drewN n) m gb vo vn vl v0 v3 out ns ls code go tst nx:=h.step (pw_below_drewN (Below.refl _ _) n)
theorem SpTrInv.start {ok0 ok3 : Nat → Prop} (h : SpTrInv b B w W vo vn vl out ns ls) (hb : Below W.heap.size W W') (h0 : k79.R 79 W' W.heap.size ok0 v0 code) (h3 : (Kd.int .i64).R 3 W' W.heap.size ok3 v3 nx) (gb : Nat) (hgb : W.heap.size ≤ gb) (hbx : W'.heap[gb]? = some (.cells #[v0,.int .i64 go,.int .i64 tst,v3] 56 (0,0))) :
  SpTrIn b B w W' W.heap.size gb vo vn vl v0 v3 out ns ls code go tst nx :=
 ⟨below_then h.below h.hBW hb,h.hBW,hb.size,Kd.S_below (Kd.S_mono (Kd.S_bound h.out) (fun k hk => ⟨hk.1,hk.2.2.1⟩)) hb,Kd.R_below h.ns hb,Kd.R_below h.ls hb,fun k hk => Kd.R_lt h.ns k hk.symm,fun k hk => Kd.R_lt h.ls k hk.symm,Kd.R_tight rfl h0,Kd.R_tight rfl h3,hgb,hbx⟩
/-- A number of its row is written. -/
theorem SpTrIn.put (h : SpTrIn b B w W m gb vo vn vl v0 v3 out ns ls code go tst nx) (i : Int) (h0 : 0 ≤ i) (h1 : i < nx.length) (x : Int) : ∃ g3 c3,v3 = .slice (some ⟨g3,0,none⟩) nx.length c3 ∧ W.cell? ⟨g3,i.toNat,none⟩ = some (.int .i64 (rd nx i)) ∧ W.frozen? ⟨g3,i.toNat,none⟩ = false ∧
  SpTrIn b B w (W.setCell ⟨g3,i.toNat,none⟩ (.int .i64 x)) m gb vo vn vl v0 v3 out ns ls code go tst (nx.set i.toNat x):=by
 obtain ⟨g3,c3,hv,hbg,_,_⟩:=Kd.R_form h.r3 (by omega)
 have hE:=h.r3
 rw [hv] at hE
 obtain ⟨hc,hf⟩:=Kd.R_celln (0 : Int) hE i h0 h1
 obtain ⟨hp,hg⟩:=Kd.R_putg hE i x
 have hne : ∀ k,k < m → k ≠ g3:=fun k hk e => by omega
 refine ⟨g3,c3,hv,hc,hf,⟨h.below.setCell (Nat.le_trans h.hm hbg) _,h.hm,Nat.le_trans h.hmW (by simp [World.setCell]),Kd.S_far (p:=⟨g3,i.toNat,none⟩) h.out (fun k hk => hne k hk.2) _,Kd.R_far (p:=⟨g3,i.toNat,none⟩) h.ns (fun k hk => hne k (h.nlt k hk)) _,Kd.R_far (p:=⟨g3,i.toNat,none⟩) h.ls (fun k hk => hne k (h.llt k hk)) _,h.nlt,h.llt,?_,?_,h.hgb,blk_far (p:=⟨g3,i.toNat,none⟩) h.box (fun e => ?_) _⟩⟩
 ·refine Kd.R_far (p:=⟨g3,i.toNat,none⟩) h.r0 (fun k hk e => ?_) _
  obtain ⟨c0,e0⟩:=Kd.R_typed h.r0 k hk.symm
  obtain ⟨c1,e1⟩:=Kd.R_typed h.r3 g3 (by rw [hv];rfl)
  have e' : k = g3:=e
  subst e'
  rw [e0] at e1
  injection e1 with e1
  injection e1 with _ e1
  exact absurd e1 (by decide)
 ·rw [hv]
  have:=hp
  rw [hv] at *
  exact this
 ·have e' : gb = g3:=e
  obtain ⟨c1,e1⟩:=Kd.R_typed h.r3 g3 (by rw [hv];rfl)
  subst e'
  rw [h.box] at e1
  injection e1 with e1
  injection e1 with _ e1
  exact absurd e1 (by decide)
/-- It is laid behind the others. -/
theorem SpTrIn.mk_ (h : SpTrIn b B w W m gb vo vn vl v0 v3 out ns ls code go tst nx) : k56.M W B (fun k => some k = v0.ownBlock ∨ some k = v3.ownBlock) ⟨code,go,tst,nx⟩ [v0,.int .i64 go,.int .i64 tst,v3] :=
 k56_mkM W B _ ⟨code,go,tst,nx⟩ (Kd.R_lower (Kd.R_mono h.r0 (fun _ hk => .inl hk)) h.hm) (Kd.R_lower (Kd.R_mono h.r3 (fun _ hk => .inr hk)) h.hm)
theorem SpTrIn.ge (h : SpTrIn b B w W m gb vo vn vl v0 v3 out ns ls code go tst nx) : ∀ k,some k = v0.ownBlock ∨ some k = v3.ownBlock → m ≤ k:=fun k hk => hk.elim (fun e => Kd.R_base h.r0 k e.symm) (fun e => Kd.R_base h.r3 k e.symm)
theorem SpTrIn.aQ (h : SpTrIn b B w W m gb vo vn vl v0 v3 out ns ls code go tst nx) : ∀ k,some k = v0.ownBlock ∨ some k = v3.ownBlock → (some k ≠ vn.ownBlock ∧ some k ≠ vl.ownBlock) ∧ some k ≠ vo.ownBlock:=fun k hk => by
 have hm:=h.ge k hk
 exact ⟨⟨fun e => by have:=h.nlt k e;omega,fun e => by have:=h.llt k e;omega⟩,fun e => by have:=((Kd.S_R h.out).1 k e.symm).2;omega⟩
theorem SpTrIn.aO (h : SpTrIn b B w W m gb vo vn vl v0 v3 out ns ls code go tst nx) : Kd.S k56 56 W B (fun k => (some k ≠ vn.ownBlock ∧ some k ≠ vl.ownBlock) ∧ ¬ (some k = v0.ownBlock ∨ some k = v3.ownBlock)) vo out :=
 Kd.S_mono h.out (fun k hk => ⟨hk.1,fun ho => by have:=h.ge k ho;omega⟩)
theorem SpTrIn.aF (h : SpTrIn b B w W m gb vo vn vl v0 v3 out ns ls code go tst nx) : ∀ k,W.heap.size ≤ k → some k ≠ vn.ownBlock ∧ some k ≠ vl.ownBlock:=fun k hk =>
 ⟨fun e => by have:=Kd.R_lt h.ns k e.symm;omega,fun e => by have:=Kd.R_lt h.ls k e.symm;omega⟩
theorem SpTrIn.app {w1 : World} {v1 : Value} {out1 : List S56} (h : SpTrIn b B w W m gb vo vn vl v0 v3 out ns ls code go tst nx) (hS : Kd.S k56 56 w1 B (fun k => some k ≠ vn.ownBlock ∧ some k ≠ vl.ownBlock) v1 out1) (hb : Below B w w1) (hg : W.grownBy w1 vo.ownBlock) : SpTrInv b B w w1 v1 vn vl out1 ns ls :=
 ⟨hb,Nat.le_trans (Nat.le_trans h.hm h.hmW) hg.size,hS,Kd.R_grown h.ns hg (fun k hk e => ((Kd.S_R h.out).1 k e.symm).1.1 hk),Kd.R_grown h.ls hg (fun k hk e => ((Kd.S_R h.out).1 k e.symm).1.2 hk)⟩
end
mutual
def spec_l6Trim.l1 : Nat → List S56 → List Int → List Int → List S56 → Int → Option (List S56 × List Int)
 | 0,_,_,_,_,_ => none
 | k + 1,f,rs,ns,out,i => if i < (rs.length : Int) then (if 0 ≤ i then (if 0 ≤ rd rs i then (if rd rs i < (f.length : Int) then ((spec_l6Own.f (rd_T56 f (rd rs i)).f0 (rd_T56 f (rd rs i)).f1 (rd_T56 f (rd rs i)).f2 (rd_T56 f (rd rs i)).f3).bind fun p => (spec_l6Trim.l2 k f rs ns out i p.1 p.2.1 p.2.2.1 p.2.2.2 0)) else none) else none) else none) else some (out,ns)
def spec_l6Trim.l2 : Nat → List S56 → List Int → List Int → List S56 → Int → List S79 → Int → Int → List Int → Int → Option (List S56 × List Int)
 | 0,_,_,_,_,_,_,_,_,_,_ => none
 | k + 1,f,rs,ns,out,i,code,go,tst,nx,j => if j < (nx.length : Int) then (if 0 ≤ j then (if 0 ≤ rd nx j then (if rd nx j < (ns.length : Int) then (spec_l6Trim.l2 k f rs ns out i code go tst (nx.set j.toNat (rd ns (rd nx j))) (wrap64 (j + 1))) else none) else none) else none) else (if out.length < 2199023255551 then (spec_l6Trim.l1 k f rs ns (out ++ [⟨code,go,tst,nx⟩]) (wrap64 (i + 1))) else none)
end
def spec_l6Trim.l0 : Nat → List S56 → List Int → List Int → Int → Int → Option (List S56 × List Int)
 | 0,_,_,_,_,_ => none
 | k + 1,f,rs,ns,n,i => if i < (f.length : Int) then ((spec_l1Has.f k rs i).bind fun b => (if b = true then (if ns.length < 17592186044415 then (spec_l6Trim.l0 k f rs (ns ++ [n]) (wrap64 (n + 1)) (wrap64 (i + 1))) else none) else (if ns.length < 17592186044415 then (spec_l6Trim.l0 k f rs (ns ++ [-1]) n (wrap64 (i + 1))) else none))) else (spec_l6Trim.l1 k f rs ns [] 0)
def spec_l6Trim.f (k : Nat) (f : List S56) : Option (List S56 × List Int):=(spec_l6Reach.f k f).bind fun rs => (spec_l6Trim.l0 k f rs [] 0 0)
theorem spec_l6Trim.mono_l : ∀ k,(∀ y0 y1 y2 y3 y4,LeO (spec_l6Trim.l1 k y0 y1 y2 y3 y4) (spec_l6Trim.l1 (k + 1) y0 y1 y2 y3 y4)) ∧ (∀ y0 y1 y2 y3 y4 y5 y6 y7 y8 y9,LeO (spec_l6Trim.l2 k y0 y1 y2 y3 y4 y5 y6 y7 y8 y9) (spec_l6Trim.l2 (k + 1) y0 y1 y2 y3 y4 y5 y6 y7 y8 y9))
 | 0 => ⟨fun _ _ _ _ _ r h => by simp [spec_l6Trim.l1] at h,fun _ _ _ _ _ _ _ _ _ _ r h => by simp [spec_l6Trim.l2] at h⟩
 | k + 1 => by
  obtain ⟨ih1,ih2⟩:=spec_l6Trim.mono_l k
  refine ⟨?_,?_⟩
  ·intro y0 y1 y2 y3 y4
   unfold spec_l6Trim.l1
   repeat' first
    | (with_reducible exact ih2 _ _ _ _ _ _ _ _ _ _)
    | (with_reducible exact LeO.refl _)
    | (with_reducible exact LeO.none _)
    | (with_reducible refine LeO.ite ?_ ?_)
    | (with_reducible refine LeO.bind ?_ (fun _ => ?_))
  ·intro y0 y1 y2 y3 y4 y5 y6 y7 y8 y9
   unfold spec_l6Trim.l2
   repeat' first
    | (with_reducible exact ih2 _ _ _ _ _ _ _ _ _ _)
    | (with_reducible exact ih1 _ _ _ _ _)
    | (with_reducible exact LeO.refl _)
    | (with_reducible exact LeO.none _)
    | (with_reducible refine LeO.ite ?_ ?_)
    | (with_reducible refine LeO.bind ?_ (fun _ => ?_))
theorem spec_l6Trim.mono_0 : ∀ k,(∀ y0 y1 y2 y3 y4,LeO (spec_l6Trim.l0 k y0 y1 y2 y3 y4) (spec_l6Trim.l0 (k + 1) y0 y1 y2 y3 y4))
 | 0 => fun _ _ _ _ _ r h => by simp [spec_l6Trim.l0] at h
 | k + 1 => by
  have ih0:=spec_l6Trim.mono_0 k
  have ih1:=(spec_l6Trim.mono_l k).1
  intro y0 y1 y2 y3 y4
  unfold spec_l6Trim.l0
  repeat' first
    | (with_reducible exact ih0 _ _ _ _ _)
    | (with_reducible exact ih1 _ _ _ _ _)
    | (with_reducible exact spec_l1Has.mono _ _ _)
    | (with_reducible exact LeO.refl _)
    | (with_reducible exact LeO.none _)
    | (with_reducible refine LeO.ite ?_ ?_)
    | (with_reducible refine LeO.bind ?_ (fun _ => ?_))
theorem spec_l6Trim.mono : ∀ a0 k,LeO (spec_l6Trim.f k a0) (spec_l6Trim.f (k + 1) a0):=fun _ k => LeO.bind (spec_l6Reach.mono _ _) (fun _ => spec_l6Trim.mono_0 k _ _ _ _ _)
set_option maxHeartbeats 8000000 in
set_option maxRecDepth 100000 in
theorem spec_l6Trim.calls (k : Nat) (A0 : Option Addr) (c0 : Nat) (l0 : List S56) (r1 : List S56) (r2 : List Int) (w : World) (hr0 : Kd.C k56 w A0 l0.length l0) (hc0 : l0.length ≤ c0) (h : spec_l6Trim.f k l0 = some (r1,r2)) :
  Calls Try.prog 54 #[.slice A0 l0.length c0] w fun e w' => ∃ (v0_ v1_ : Value) (m_ : Nat),e = .returned (.tuple #[v0_,v1_]) ∧ w.heap.size ≤ m_ ∧ m_ ≤ w'.heap.size ∧ Kd.S k56 56 w' m_ (fun _ => True) v0_ r1 ∧ Kd.R (Kd.int .i64) 3 w' w.heap.size (fun k_ => k_ < m_) v1_ r2 ∧ Below w.heap.size w w':=by
 have hu56:=Try.underlying56
 have HR0:=Aside0.mk hr0
 have HC0:=Aside0.mk hc0
 clear hr0 hc0
 unfold spec_l6Trim.f at h
 obtain ⟨rs,A1,H⟩:=Option.bind_eq_some_iff.mp h
 have A:=Aside0.mk A1
 have H':=Aside0.mk H
 clear h A1 H
 go_enter Try.func54,Try.ntmps54
 go_wp2_with (first | (go_at_call 49;(refine (spec_l6Reach.calls k _ _ l0 rs _ HR0.out HC0.out A.out).mono ?_);rintro e w2 ⟨vl,rfl,ho,hb⟩;obtain ⟨Al,cl,el⟩:=Kd.R_slice ho;subst el;have HLS:=Aside0.mk (Kd.R_tight rfl ho);have HB:=Aside0.mk hb;clear ho hb))
 have HN:=Aside0.mk (Kd.R_nil (Kd.int .i64) 3 w2 w.heap.size (fun k_ => some k_ ≠ (.slice Al rs.length cl : Value).ownBlock))
 go_loopg [5,6,18] k (fun kq v5 v6 v18 w' => ∃ (ns : List Int) (n i : Int),v6 = .int .i64 n ∧ v18 = .int .i64 i ∧ Aside0 (spec_l6Trim.l0 kq l0 rs ns n i = some (r1,r2)) ∧ Aside0 (kq ≤ k) ∧ Aside0 (Below w.heap.size w w') ∧ Aside0 ((Kd.int .i64).R 3 w' w.heap.size (fun k_ => some k_ ≠ (.slice Al rs.length cl : Value).ownBlock) v5 ns) ∧ Aside0 ((Kd.int .i64).R 3 w' w.heap.size (fun k_ => some k_ = (.slice Al rs.length cl : Value).ownBlock) (.slice Al rs.length cl) rs))
 case atStart => exact ⟨[],0,0,rfl,rfl,H',⟨Nat.le_refl _⟩,HB,HN,HLS⟩
 case round =>
  clear H' HB HN HLS
  obtain ⟨ns,n,i,rfl,rfl,HA,HK1,HB,HN,HLS⟩:=hrel
  cases gk with
  | zero => exact absurd HA.out (by simp [spec_l6Trim.l0])
  | succ k1 =>
   have H:=HA.out
   clear HA
   simp only [spec_l6Trim.l0] at H
   obtain ⟨An,cn,en⟩:=Kd.R_slice HN.out
   subst en
   by_cases c3 : i < (l0.length : Int)
   ·rw [if_pos c3] at H
    obtain ⟨b,B1,H⟩:=Option.bind_eq_some_iff.mp H
    have B:=Aside0.mk B1
    have hrl:=Kd.R_reads' HLS.out
    have HLSC:=Aside0.mk hrl.2.2
    have HLSL:=Aside0.mk hrl.2.1
    have c3b0 : decide (i < (l0.length : Int)) = true:=decide_eq_true c3
    have p3:=eq_true c3
    clear B1 hrl c3
    cases b with
    | true =>
     rw [if_pos rfl] at H
     by_cases c9 : ns.length < 17592186044415
     rotate_left
     ·rw [if_neg c9] at H;exact absurd H (by simp)
     rw [if_pos c9] at H
     have H':=Aside0.mk H
     have HLM:=Aside0.mk c9
     clear H c9
     go_wp2_with (first | (go_at_call 78;(with_reducible refine (spec_l1Has.calls k1 _ _ rs i true _ HLSC.out HLSL.out B.out).mono ?_);rintro e w5 ⟨rfl,⟨nd,rfl⟩⟩) | ((with_reducible refine gate_builtin (b:=.append) (xs:=#[.tmp 24,.tmp 26]) rfl ?_);at_builtin;refine Kd.R_append (Kd.int .i64) (w0:=w) w.heap.size rfl (.tmp 24) (.tmp 26) 37 3 (.int .i64 0) 8 rfl Try.underlying37 (by kernel_rfl) rfl (by decide) (by omega) (.slice An ns.length cn) ns n [.int .i64 n] (fun k_ => some k_ ≠ (.slice Al rs.length cl : Value).ownBlock) (fun _ => False) rfl rfl ?aP (fun _ hk => hk.elim) ?aF ?aO ?aB ?aS ?aL ?_;(case aP => exact rfl);(case aF => exact fun k_ hk_ e_ => by have q_:=Kd.R_lt HLS.out k_ e_.symm;have hk2_ : wr.heap.size ≤ k_:=hk_;omega);(case aO => exact Kd.R_drewN HN.out _);(case aB => exact pw_below_drewN HB.out _);(case aS => exact HB.out.size);(case aL => have:=HLM.out;omega);intro v_ w7 ho hb hg hat;have HB7:=Aside0.mk hb;have HN7:=Aside0.mk ho;have HLS7:=Aside0.mk (Kd.R_grown (Kd.R_drewN HLS.out _) hg (fun k_ hk_ e_ => HN.out.1 k_ e_.symm hk_));clear ho hb hg hat))
     go_roundg k1
     case measure => have:=HK1.out;omega
     case rel => exact ⟨_,_,_,rfl,rfl,H',⟨by have:=HK1.out;omega⟩,HB7,HN7,HLS7⟩
    | false =>
     rw [if_neg (by decide)] at H
     by_cases c9 : ns.length < 17592186044415
     rotate_left
     ·rw [if_neg c9] at H;exact absurd H (by simp)
     rw [if_pos c9] at H
     have H':=Aside0.mk H
     have HLM:=Aside0.mk c9
     clear H c9
     go_wp2_with (first | (go_at_call 78;(with_reducible refine (spec_l1Has.calls k1 _ _ rs i false _ HLSC.out HLSL.out B.out).mono ?_);rintro e w5 ⟨rfl,⟨nd,rfl⟩⟩) | ((with_reducible refine gate_builtin (b:=.append) (xs:=#[.tmp 30,.tmp 31]) rfl ?_);at_builtin;refine Kd.R_append (Kd.int .i64) (w0:=w) w.heap.size rfl (.tmp 30) (.tmp 31) 37 3 (.int .i64 0) 8 rfl Try.underlying37 (by kernel_rfl) rfl (by decide) (by omega) (.slice An ns.length cn) ns (-1) [.int .i64 (-1)] (fun k_ => some k_ ≠ (.slice Al rs.length cl : Value).ownBlock) (fun _ => False) rfl rfl ?aP (fun _ hk => hk.elim) ?aF ?aO ?aB ?aS ?aL ?_;(case aP => exact rfl);(case aF => exact fun k_ hk_ e_ => by have q_:=Kd.R_lt HLS.out k_ e_.symm;have hk2_ : wr.heap.size ≤ k_:=hk_;omega);(case aO => exact Kd.R_drewN HN.out _);(case aB => exact pw_below_drewN HB.out _);(case aS => exact HB.out.size);(case aL => have:=HLM.out;omega);intro v_ w7 ho hb hg hat;have HB7:=Aside0.mk hb;have HN7:=Aside0.mk ho;have HLS7:=Aside0.mk (Kd.R_grown (Kd.R_drewN HLS.out _) hg (fun k_ hk_ e_ => HN.out.1 k_ e_.symm hk_));clear ho hb hg hat))
     go_roundg k1
     case measure => have:=HK1.out;omega
     case rel => exact ⟨_,_,_,rfl,rfl,H',⟨by have:=HK1.out;omega⟩,HB7,HN7,HLS7⟩
   rw [if_neg c3] at H
   have H':=Aside0.mk H
   have c3b0 : decide (i < (l0.length : Int)) = false:=decide_eq_false c3
   clear H c3
   go_wp2
   obtain ⟨wz,hwz⟩ : ∃ wz : World,wz = wr:=⟨_,rfl⟩
   have HBz:=Aside0.mk (show Below w.heap.size w wz from hwz ▸ HB.out)
   obtain ⟨m0,hm0⟩ : ∃ m0,m0 = wz.heap.size:=⟨_,rfl⟩
   have HM0:=Aside0.mk (show w.heap.size ≤ m0 from hm0 ▸ HBz.out.size)
   have HNL:=Aside0.mk (show ∀ k_,some k_ = (.slice An ns.length cn : Value).ownBlock → k_ < m0 from fun k_ e_ => by rw [hm0,hwz];exact Kd.R_lt HN.out k_ e_.symm)
   have HI0:=Aside0.mk (show SpTrInv w.heap.size m0 wz wr (.slice none 0 0) (.slice An ns.length cn) (.slice Al rs.length cl) [] ns rs from ⟨by rw [hwz];exact Below.refl _ _,by rw [hm0,hwz];exact Nat.le_refl _,Kd.S_nil _ _ _ _ _,Kd.R_tight rfl HN.out,HLS.out⟩)
   clear hwz hm0 HB HN HLS
   have HK1':=Aside0.mk HK1.out
   go_loopg [8,36] k1 (fun kq v8 v36 w' => ∃ (out : List S56) (i : Int),v36 = .int .i64 i ∧ Aside0 (spec_l6Trim.l1 kq l0 rs ns out i = some (r1,r2)) ∧ Aside0 (kq ≤ k1) ∧ Aside0 (SpTrInv w.heap.size m0 wz w' v8 (.slice An ns.length cn) (.slice Al rs.length cl) out ns rs))
   case atStart => exact ⟨_,0,rfl,H',⟨Nat.le_refl _⟩,HI0⟩
   case round =>
    clear H' HI0
    obtain ⟨out,i,rfl,HA,HKB,HI⟩:=hrel
    cases gk with
    | zero => exact absurd HA.out (by simp [spec_l6Trim.l1])
    | succ kb =>
     have H:=HA.out
     clear HA
     simp only [spec_l6Trim.l1] at H
     obtain ⟨Ao,co,eo⟩:=Kd.S_slice HI.out.out
     subst eo
     by_cases c3 : i < (rs.length : Int)
     rotate_left
     ·rw [if_neg c3] at H
      simp only [Option.some.injEq,Prod.mk.injEq] at H
      obtain ⟨rfl,rfl⟩:=H
      have c3b0 : decide (i < (rs.length : Int)) = false:=decide_eq_false c3
      clear c3
      go_wp2
      go_ret2
      exact ⟨_,_,m0,rfl,HM0.out,HI.out.hBW,Kd.S_mono HI.out.out (fun _ _ => trivial),Kd.R_mono HI.out.ns (fun k_ e_ => HNL.out k_ e_),SpTr_weak HBz.out HM0.out HI.out.below⟩
     rw [if_pos c3] at H
     by_cases c4 : 0 ≤ i
     rotate_left
     ·rw [if_neg c4] at H;exact absurd H (by simp)
     rw [if_pos c4] at H
     by_cases c5 : 0 ≤ rd rs i
     rotate_left
     ·rw [if_neg c5] at H;exact absurd H (by simp)
     rw [if_pos c5] at H
     by_cases c6 : rd rs i < (l0.length : Int)
     rotate_left
     ·rw [if_neg c6] at H;exact absurd H (by simp)
     rw [if_pos c6] at H
     obtain ⟨kk,hkk⟩ : ∃ kk,kk = rd rs i:=⟨_,rfl⟩
     have hrr:=Kd.R_reads' HI.out.ls
     obtain ⟨adr,e1,hx1⟩:=Kd.at_int hrr.2.2 i c4 c3
     cases e1
     rw [← hkk] at H c5 c6 hx1
     obtain ⟨ad2,A0_,c0_,A3_,c3_,e2,hx00,hx10,hx20,hx30,hl0,hc0,hl3,hc3⟩:=at_T56 HR0.out kk c5 c6
     cases e2
     obtain ⟨xs,hxs⟩ : ∃ xs,xs = rd_T56 l0 kk:=⟨_,rfl⟩
     rw [← hxs] at H hx00 hx10 hx20 hx30 hl0 hc0 hl3 hc3
     have HBW:=Aside0.mk (SpTr_weak HBz.out HM0.out HI.out.below)
     have hxa:=pw_cell_below HBW.out hx00
     have hxb:=pw_cell_below HBW.out hx10
     have hxc:=pw_cell_below HBW.out hx20
     have hxd:=pw_cell_below HBW.out hx30
     have HL0_:=Aside0.mk hl0
     have HC0_:=Aside0.mk hc0
     have HL3_:=Aside0.mk hl3
     have HC3_:=Aside0.mk hc3
     obtain ⟨⟨code,go,tst,nx⟩,B1,H⟩:=Option.bind_eq_some_iff.mp H
     have B:=Aside0.mk B1
     have H':=Aside0.mk H
     clear B1 H
     have c3b0 : decide (i < (rs.length : Int)) = true:=decide_eq_true c3
     have c4b0 : decide (0 ≤ i) = true:=decide_eq_true c4
     have c5b0 : decide (0 ≤ kk) = true:=decide_eq_true c5
     have c6b0 : decide (kk < (l0.length : Int)) = true:=decide_eq_true c6
     have p3:=eq_true c3
     have p4:=eq_true c4
     have p5:=eq_true c5
     have p6:=eq_true c6
     clear hrr c3 c4 c5 c6 hkk hxs hx00 hx10 hx20 hx30 hl0 hc0 hl3 hc3
     go_wp2_with (first | (go_at_call 80;(refine (spec_l6Own.calls A0_ c0_ xs.f0 xs.f1 xs.f2 A3_ c3_ xs.f3 code go tst nx _ (Kd.C_below HC0_.out HBW.out) HL0_.out (Kd.C_below HC3_.out HBW.out) HL3_.out B.out).mono ?_);rintro e w5 ⟨v0,v3,rfl,ho0,ho3,hb⟩;obtain ⟨Ac,cc,ec⟩:=Kd.R_slice ho0;obtain ⟨A3n,c3n,e3n⟩:=Kd.R_slice ho3;subst ec;subst e3n;have HIN:=Aside0.mk (HI.out.start (below_alloc hb (.cells #[.slice Ac code.length cc,.int .i64 go,.int .i64 tst,.slice A3n nx.length c3n] 56)) (Kd.R_alloc ho0 _) (Kd.R_alloc ho3 _) w5.heap.size hb.size (heap_alloc_new w5 (.cells #[.slice Ac code.length cc,.int .i64 go,.int .i64 tst,.slice A3n nx.length c3n] 56)));clear ho0 ho3 hb))
     clear hx1 hxa hxb hxc hxd c3b0 c4b0 c5b0 c6b0 p3 p4 p5 p6
     obtain ⟨m,HIN⟩ : ∃ m,Aside0 (SpTrIn w.heap.size m0 wz (w5.alloc (.cells #[.slice Ac code.length cc,.int .i64 go,.int .i64 tst,.slice A3n nx.length c3n] 56)) m w5.heap.size (.slice Ao out.length co) (.slice An ns.length cn) (.slice (some adr) rs.length cl) (.slice Ac code.length cc) (.slice A3n nx.length c3n) out ns rs code go tst nx):=⟨_,HIN⟩
     go_loopg [48] kb (fun kq v48 w' => ∃ (nx' : List Int) (j : Int),v48 = .int .i64 j ∧ Aside0 (spec_l6Trim.l2 kq l0 rs ns out i code go tst nx' j = some (r1,r2)) ∧ Aside0 (kq ≤ kb) ∧ Aside0 (nx.length = nx'.length) ∧ Aside0 (SpTrIn w.heap.size m0 wz w' m w5.heap.size (.slice Ao out.length co) (.slice An ns.length cn) (.slice (some adr) rs.length cl) (.slice Ac code.length cc) (.slice A3n nx.length c3n) out ns rs code go tst nx'))
     case atStart => exact ⟨nx,0,rfl,H',⟨Nat.le_refl _⟩,⟨rfl⟩,HIN⟩
     case round =>
      clear H' HIN
      obtain ⟨nx',j,rfl,HA,HKC,HLN,HIN⟩:=hrel
      cases gk with
      | zero => exact absurd HA.out (by simp [spec_l6Trim.l2])
      | succ kc =>
       have H:=HA.out
       clear HA
       simp only [spec_l6Trim.l2] at H
       have hbx3 : wr.cell? ⟨w5.heap.size,3,none⟩ = some (.slice A3n nx.length c3n):=(blk_cell HIN.out.box 3).trans rfl
       by_cases c5 : j < (nx'.length : Int)
       rotate_left
       ·rw [if_neg c5] at H
        by_cases c9 : out.length < 2199023255551
        rotate_left
        ·rw [if_neg c9] at H;exact absurd H (by simp)
        rw [if_pos c9] at H
        have H':=Aside0.mk H
        have HLO:=Aside0.mk c9
        have c5n : ¬ j < (nx.length : Int):=by have:=HLN.out;omega
        have c5b : decide (j < (nx.length : Int)) = false:=decide_eq_false c5n
        have hbx0 : wr.cell? ⟨w5.heap.size,0,none⟩ = some (.slice Ac code.length cc):=(blk_cell HIN.out.box 0).trans rfl
        have hbx1 : wr.cell? ⟨w5.heap.size,1,none⟩ = some (.int .i64 go):=(blk_cell HIN.out.box 1).trans rfl
        have hbx2 : wr.cell? ⟨w5.heap.size,2,none⟩ = some (.int .i64 tst):=(blk_cell HIN.out.box 2).trans rfl
        clear H c5 c5n c9
        go_wp2_with (first | ((with_reducible refine gate_builtin (b:=.append) (xs:=#[.tmp 62,.tmp 64]) rfl ?_);at_builtin;refine Kd.S_append k56 (w0:=wz) m0 rfl (.tmp 62) (.tmp 64) 25 56 (.agg #[.slice none 0 0,.int .i64 0,.int .i64 0,.slice none 0 0]) 64 rfl Try.underlying25 (by kernel_rfl) rfl (by decide) (by omega) (.slice Ao out.length co) out ⟨code,go,tst,nx'⟩ [.slice Ac code.length cc,.int .i64 go,.int .i64 tst,.slice A3n nx.length c3n] (fun k_ => some k_ ≠ (.slice An ns.length cn : Value).ownBlock ∧ some k_ ≠ (.slice (some adr) rs.length cl : Value).ownBlock) (fun k_ => some k_ = (.slice Ac code.length cc : Value).ownBlock ∨ some k_ = (.slice A3n nx.length c3n : Value).ownBlock) rfl rfl ?aP ?aQ ?aF ?aO ?aB ?aS ?aL ?_;(case aP => exact HIN.out.mk_);(case aQ => exact HIN.out.aQ);(case aF => exact HIN.out.aF);(case aO => exact HIN.out.aO);(case aB => exact HIN.out.below);(case aS => exact Nat.le_trans HIN.out.hm HIN.out.hmW);(case aL => have:=HLO.out;omega);intro v_ w9 ho hb hg hat;have HI9:=Aside0.mk (HIN.out.app ho hb hg);clear ho hb hg hat))
        go_roundg kc
        case measure => have:=HKB.out;have:=HKC.out;omega
        case rel => exact ⟨_,_,rfl,H',⟨by have:=HKB.out;have:=HKC.out;omega⟩,HI9⟩
       rw [if_pos c5] at H
       by_cases c6 : 0 ≤ j
       rotate_left
       ·rw [if_neg c6] at H;exact absurd H (by simp)
       rw [if_pos c6] at H
       by_cases c7 : 0 ≤ rd nx' j
       rotate_left
       ·rw [if_neg c7] at H;exact absurd H (by simp)
       rw [if_pos c7] at H
       by_cases c8 : rd nx' j < (ns.length : Int)
       rotate_left
       ·rw [if_neg c8] at H;exact absurd H (by simp)
       rw [if_pos c8] at H
       have H':=Aside0.mk H
       obtain ⟨g3,c3',hv3,hy1,hfy,hput⟩:=HIN.out.put j c6 c5 (rd ns (rd nx' j))
       injection hv3 with hv3 hv3a hv3b
       clear hv3a hv3b
       subst hv3
       obtain ⟨adn,e3,hy2⟩:=Kd.at_int (Kd.R_reads' HIN.out.ns).2.2 (rd nx' j) c7 c8
       cases e3
       have HP:=Aside0.mk hput
       have c5n : j < (nx.length : Int):=by have:=HLN.out;omega
       have c5b : decide (j < (nx.length : Int)) = true:=decide_eq_true c5n
       have c6b : decide (0 ≤ j) = true:=decide_eq_true c6
       have c7b : decide (0 ≤ rd nx' j) = true:=decide_eq_true c7
       have c8b : decide (rd nx' j < (ns.length : Int)) = true:=decide_eq_true c8
       have p5:=eq_true c5n
       have p6:=eq_true c6
       have p7:=eq_true c7
       have p8:=eq_true c8
       have hln2 : nx.length = (nx'.set j.toNat (rd ns (rd nx' j))).length:=by rw [List.length_set];exact HLN.out
       have HLN2:=Aside0.mk hln2
       clear hln2
       obtain ⟨y1,hyy⟩ : ∃ y1,y1 = rd nx' j:=⟨_,rfl⟩
       rw [← hyy] at hy1 hy2 c7b c8b p7 p8 HP HLN2 H'
       clear H hput c5 c5n c6 c7 c8 HIN hyy
       go_upto_region 20 with (fail)
       go_region
       all_goals
        go_wp2
        go_roundg kc
        case measure => have:=HKC.out;omega
        case rel => exact ⟨_,_,rfl,H',⟨by have:=HKC.out;omega⟩,HLN2,⟨by first | exact HP.out | exact HP.out.drewN _⟩⟩


end Go.Proofs.Ythgkhfhfahifmaa.Q
