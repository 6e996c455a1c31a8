-- WRITTEN BY A PROGRAM OF THIS SESSION
import Derived.Test.YthgkhfhfahifmaaQ0
import Derived.Test.YthgkhfhfahifmaaQ12
import Derived.Test.YthgkhfhfahifmaaQ13
import Derived.Test.YthgkhfhfahifmaaQ14
import Derived.Test.YthgkhfhfahifmaaQ15
import Derived.Test.YthgkhfhfahifmaaQ16
import Derived.Test.YthgkhfhfahifmaaQ17
namespace Go.Proofs.Ythgkhfhfahifmaa.Q
open Go.RowKit Go.Proofs.YthgkhfhfahifmaaW.PrintWords Go.Proofs.YthgkhfhfahifmaaW.PrintLast Go.Proofs.YthgkhfhfahifmaaW.PrintMore
attribute [local go_sem] max2_int min2_int max_two min_two max_three min_three max_four min_four   -- for this text's walks alone
set_option linter.unusedVariables false
set_option linter.unusedSimpArgs false

/-! ### impl_joinOnce: function 59 (by hand: a pointer into a row of blocks, which is written) -/
def impl_joinOnce.l0 : Nat → List S56 → List (List Int) → List Int → Int → Option (Bool × List S56)
 | 0,_,_,_,_ => none
 | k + 1,fs,pr,ls,i => if i < (ls.length : Int) then (if 0 ≤ i then (if 0 ≤ rd ls i then (if rd ls i < (fs.length : Int) then (if (rd_T56 fs (rd ls i)).f1 = 1 then (if 0 < (rd_T56 fs (rd ls i)).f3.length then (if rd (rd_T56 fs (rd ls i)).f3 0 = rd ls i then (impl_joinOnce.l0 k fs pr ls (wrap64 (i + 1))) else (if rd (rd_T56 fs (rd ls i)).f3 0 = 0 then (impl_joinOnce.l0 k fs pr ls (wrap64 (i + 1))) else (if 0 ≤ rd (rd_T56 fs (rd ls i)).f3 0 then (if rd (rd_T56 fs (rd ls i)).f3 0 < (pr.length : Int) then (if 1 < (pr.getD (rd (rd_T56 fs (rd ls i)).f3 0).toNat []).length then (impl_joinOnce.l0 k fs pr ls (wrap64 (i + 1))) else (if rd (rd_T56 fs (rd ls i)).f3 0 < (fs.length : Int) then (if 60 < wrap64 (((rd_T56 fs (rd ls i)).f0.length : Int) + ((rd_T56 fs (rd (rd_T56 fs (rd ls i)).f3 0)).f0.length : Int)) then (impl_joinOnce.l0 k fs pr ls (wrap64 (i + 1))) else ((slices_Concat_impl_Flat.f [(rd_T56 fs (rd ls i)).f0,(rd_T56 fs (rd (rd_T56 fs (rd ls i)).f3 0)).f0]).bind fun c => (slices_Clone_int_int.f (rd_T56 fs (rd (rd_T56 fs (rd ls i)).f3 0)).f3).bind fun nx => some (true,fs.set (rd ls i).toNat ⟨c,(rd_T56 fs (rd (rd_T56 fs (rd ls i)).f3 0)).f1,(rd_T56 fs (rd (rd_T56 fs (rd ls i)).f3 0)).f2,nx⟩))) else none)) else none) else none))) else none) else (impl_joinOnce.l0 k fs pr ls (wrap64 (i + 1)))) else none) else none) else none) else some (false,fs)
def impl_joinOnce.f (k : Nat) (fs : List S56) : Option (Bool × List S56):=(impl_nexts.f k fs).bind fun a => (impl_preds.f k a).bind fun pr => (impl_reach.f k a 0 []).bind fun b => (impl_listOf.f k b).bind fun ls => (impl_joinOnce.l0 k fs pr ls 0)
theorem impl_joinOnce.mono_l : ∀ k,(∀ y0 y1 y2 y3,LeO (impl_joinOnce.l0 k y0 y1 y2 y3) (impl_joinOnce.l0 (k + 1) y0 y1 y2 y3))
 | 0 => fun _ _ _ _ r h => by simp [impl_joinOnce.l0] at h
 | k + 1 => by
  have ih0:=impl_joinOnce.mono_l k
  ·intro y0 y1 y2 y3
   unfold impl_joinOnce.l0
   repeat' first
   | (with_reducible exact ih0 _ _ _ _)
   | (with_reducible exact impl_nexts.mono _ _)
   | (with_reducible exact impl_preds.mono _ _)
   | (with_reducible exact impl_reach.mono _ _ _ _)
   | (with_reducible exact impl_listOf.mono _ _)
   | (with_reducible exact LeO.refl _)
   | (with_reducible exact LeO.none _)
   | (with_reducible refine LeO.ite ?_ ?_)
   | (with_reducible refine LeO.bind ?_ (fun _ => ?_))
theorem impl_joinOnce.mono : ∀ a0 k,LeO (impl_joinOnce.f k a0) (impl_joinOnce.f (k + 1) a0):=by
 intro a0 k
 have ih0:=impl_joinOnce.mono_l k
 unfold impl_joinOnce.f
 repeat' first
   | (with_reducible exact ih0 _ _ _ _)
   | (with_reducible exact impl_nexts.mono _ _)
   | (with_reducible exact impl_preds.mono _ _)
   | (with_reducible exact impl_reach.mono _ _ _ _)
   | (with_reducible exact impl_listOf.mono _ _)
   | (with_reducible exact LeO.refl _)
   | (with_reducible exact LeO.none _)
   | (with_reducible refine LeO.ite ?_ ?_)
   | (with_reducible refine LeO.bind ?_ (fun _ => ?_))
/-- Two rows in a literal. -/
theorem C_lit2F {W : World} {A B : Option Addr} {xs ys : List S79} {c d : Nat} (hx : k79.C W A xs.length xs) (hc : xs.length ≤ c) (hy : k79.C W B ys.length ys) (hd : ys.length ≤ d) : Kd.C (Kd.slice 79 k79) (W.alloc (.cells #[.slice A xs.length c,.slice B ys.length d] 54)) (some ⟨W.heap.size,0,none⟩) [xs,ys].length [xs,ys]:=by
 have hb:=below_alloc (Below.refl W.heap.size W) (.cells #[.slice A xs.length c,.slice B ys.length d] 54)
 refine ⟨rfl,by simp,fun _ => ⟨_,rfl,fun j p hj => ?_⟩⟩
 match j,hj with
 | 0,hj =>
  simp only [List.getElem?_cons_zero,Option.some.injEq] at hj
  subst hj
  refine ⟨[.slice A xs.length c],rfl,⟨A,c,rfl,hc,Kd.C_below hx hb⟩,fun i u hu => ?_⟩
  match i,hu with
  | 0,hu => rw [add_plain,blk_cell (heap_alloc_new W _)];simpa using hu
 | 1,hj =>
  simp only [List.getElem?_cons_succ,List.getElem?_cons_zero,Option.some.injEq] at hj
  subst hj
  refine ⟨[.slice B ys.length d],rfl,⟨B,d,rfl,hd,Kd.C_below hy hb⟩,fun i u hu => ?_⟩
  match i,hu with
  | 0,hu => rw [add_plain,blk_cell (heap_alloc_new W _)];simpa [Kd.slice] using hu
set_option maxHeartbeats 8000000 in
set_option maxRecDepth 100000 in
theorem impl_joinOnce.calls (k : Nat) (P : Nat → Prop) (vf : Value) (fs : List S56) (r1 : Bool) (r2 : List S56) (w0 w : World) (hB : Below w0.heap.size w0 w) (hf : Kd.S k56 56 w w0.heap.size P vf fs) (h : impl_joinOnce.f k fs = some (r1,r2)) :
  Calls Try.prog 59 #[vf] w fun e w' => e = .returned (.bool r1) ∧ Kd.S k56 56 w' w0.heap.size (fun k => P k ∨ w.heap.size ≤ k) vf r2 ∧ Below w0.heap.size w0 w':=by
 have hu56:=Try.underlying56
 obtain ⟨Af,cf,rfl⟩:=Kd.S_slice hf
 unfold impl_joinOnce.f at h
 obtain ⟨a,A1,h⟩:=Option.bind_eq_some_iff.mp h
 obtain ⟨pr,A2,h⟩:=Option.bind_eq_some_iff.mp h
 obtain ⟨b,A3,h⟩:=Option.bind_eq_some_iff.mp h
 obtain ⟨ls,A4,H⟩:=Option.bind_eq_some_iff.mp h
 have X1:=Aside0.mk A1
 have X2:=Aside0.mk A2
 have X3:=Aside0.mk A3
 have X4:=Aside0.mk A4
 have H':=Aside0.mk H
 have HF:=Aside0.mk hf
 have HB0:=Aside0.mk hB
 have HRD:=Aside0.mk (Kd.S_reads' hf)
 have HB:=Aside0.mk (Below.refl w.heap.size w)
 clear h A1 A2 A3 A4 H hf hB
 go_enter Try.func59,Try.ntmps59
 go_wp2_with (first | (go_at_call 47;(refine (impl_nexts.calls k (fun k_ => k_ < w.heap.size) _ _ fs a _ (Kd.V_mk HRD.out.2.1 (Kd.F_below (Kd.C_F k56_heap HRD.out.2.2) HB.out)) X1.out).mono ?_);rintro e w3 ⟨v3,rfl,ho,hb⟩;obtain ⟨A3,c3,e3⟩:=Kd.N_slice ho;subst e3;have HA:=Aside0.mk (Kd.N_reads' ho);have HB3:=Aside0.mk (below_step HB.out hb);have HW4:=Aside0.mk hb;clear ho hb) | (go_at_call 53;(refine (impl_preds.calls k _ _ a pr _ HA.out.2.2 HA.out.2.1 X2.out).mono ?_);rintro e w4 ⟨v4,rfl,ho,hb⟩;have HP:=Aside0.mk (Kd.S_lower ho HB3.out.size);obtain ⟨A4,c4,e4⟩:=Kd.S_slice ho;subst e4;clear HB;have HB:=Aside0.mk (below_step HB3.out hb);clear ho hb HB3 HA) | (go_at_call 51;(refine (impl_reach.calls k _ _ a 0 none 0 [] b _ HA.out.2.2 HA.out.2.1 (by first | exact Kd.C_nil _ _ | exact (Kd.R_reads' (Kd.R_nil _ 3 _ 0 (fun _ => True))).2.2) (Nat.le_refl _) X3.out).mono ?_);rintro e w5 ⟨v5,rfl,ho,hb⟩;obtain ⟨A5,c5,e5⟩:=Kd.R_slice ho;subst e5;have HQ:=Aside0.mk (Kd.R_reads' ho);have HB5:=Aside0.mk (below_step HB3.out hb);have HW45:=Aside0.mk (below_step HW4.out hb);clear ho hb) | (go_at_call 50;(refine (impl_listOf.calls k _ _ b ls _ HQ.out.2.2 HQ.out.2.1 X4.out).mono ?_);rintro e w6 ⟨v6,rfl,ho,hb⟩;have HL:=Aside0.mk (Kd.R_lower ho HB5.out.size);obtain ⟨A6,c6,e6⟩:=Kd.R_slice ho;subst e6;have HB6:=Aside0.mk (below_step HB5.out hb);have HW46:=Aside0.mk (below_step HW45.out hb);clear ho hb))
 have HP6:=Aside0.mk (Kd.S_below HP.out (by first | exact HW46.out | exact Below.refl _ _))
 clear HP HA HQ HB3 HB5 HB
 have HB:=Aside0.mk (Below.refl w6.heap.size w6)
 go_loopg [16] k (fun kq v16 w' => ∃ (i : Int),v16 = .int .i64 i ∧ Aside0 (impl_joinOnce.l0 kq fs pr ls i = some (r1,r2)) ∧ Aside0 (kq ≤ k) ∧ Aside0 (Below w6.heap.size w6 w'))
 case atStart => exact ⟨0,rfl,H',⟨Nat.le_refl _⟩,HB⟩
 case round =>
  clear H' HB
  obtain ⟨i,rfl,HA,HK1,HB⟩:=hrel
  cases gk with
  | zero => exact absurd HA.out (by simp [impl_joinOnce.l0])
  | succ k1 =>
   have H:=HA.out
   clear HA
   simp only [impl_joinOnce.l0] at H
   by_cases c1 : i < (ls.length : Int)
   rotate_left
   ·rw [if_neg c1] at H
    simp only [Option.some.injEq,Prod.mk.injEq] at H
    obtain ⟨rfl,rfl⟩:=H
    have q1 : decide (i < (ls.length : Int)) = false:=decide_eq_false c1
    have HBW:=Aside0.mk (below_step HB6.out HB.out)
    clear c1
    go_wp2
    go_ret
    exact ⟨rfl,Kd.S_mono (Kd.S_below HF.out HBW.out) (fun _ h_ => .inl h_),below_weaken HB0.out HB0.out.size HBW.out⟩
   rw [if_pos c1] at H
   by_cases c2 : 0 ≤ i
   rotate_left
   ·rw [if_neg c2] at H;exact absurd H (by simp)
   rw [if_pos c2] at H
   obtain ⟨kk,hkk⟩ : ∃ kk,kk = rd ls i:=⟨_,rfl⟩
   rw [← hkk] at H
   by_cases c3 : 0 ≤ kk
   rotate_left
   ·rw [if_neg c3] at H;exact absurd H (by simp)
   rw [if_pos c3] at H
   by_cases c4 : kk < (fs.length : Int)
   rotate_left
   ·rw [if_neg c4] at H;exact absurd H (by simp)
   rw [if_pos c4] at H
   obtain ⟨a1,e1,hy1⟩:=Kd.at_int (Kd.C_below (Kd.R_reads' HL.out).2.2 HB.out) i c2 c1
   rw [← hkk] at hy1
   cases e1
   have HBW:=Aside0.mk (below_step HB6.out HB.out)
   obtain ⟨g,_,eg,_⟩:=Kd.S_form HF.out (by omega)
   injection eg with eg ega egb
   subst eg
   have HFR:=Aside0.mk (Kd.S_below HF.out HBW.out)
   obtain ⟨B0,d0,v3,hz0,hz1,hz2,hz3,hC0,hD0,hR3,hfr⟩:=J_elem HFR.out kk c3 c4
   obtain ⟨x,hx⟩ : ∃ x,x = rd_T56 fs kk:=⟨_,rfl⟩
   rw [← hx] at hz0 hz1 hz2 hC0 hD0 hR3 H
   have q1 : decide (i < (ls.length : Int)) = true:=decide_eq_true c1
   have q2 : decide (0 ≤ i) = true:=decide_eq_true c2
   have p1:=eq_true c1
   have p2:=eq_true c2
   have p3:=eq_true c3
   have p4:=eq_true c4
   have HC3:=Aside0.mk c3
   have HC4:=Aside0.mk c4
   have HC0:=Aside0.mk hC0
   have HD0:=Aside0.mk hD0
   have HFZ:=Aside0.mk hfr
   clear c1 c2 c3 c4 hkk ega egb hx hC0 hD0 hfr
   by_cases c5 : x.f1 = 1
   rotate_left
   ·rw [if_neg c5] at H
    have p5 : (x.f1 != 1) = true:=bne_iff_ne.mpr c5
    have H':=Aside0.mk H
    clear H c5
    go_wp2
    go_roundg k1
    case measure => have:=HK1.out;omega
    case rel => exact ⟨_,rfl,H',⟨by have:=HK1.out;omega⟩,HB⟩
   rw [if_pos c5] at H
   have p5 : (x.f1 != 1) = false:=bne_eq_false_iff_eq.mpr c5
   clear c5
   by_cases c6 : 0 < x.f3.length
   rotate_left
   ·rw [if_neg c6] at H;exact absurd H (by simp)
   rw [if_pos c6] at H
   obtain ⟨g3,_,eg3,_⟩:=Kd.R_form hR3 c6
   subst eg3
   have hz4:=(Kd.R_celln (0 : Int) hR3 0 (by decide) (by omega)).1
   obtain ⟨to_,hto⟩ : ∃ to_,to_ = rd x.f3 0:=⟨_,rfl⟩
   rw [← hto] at H
   rw [show rdOf (0 : Int) x.f3 0 = to_ from hto.symm,show (0 : Int).toNat = 0 from rfl] at hz4
   have p6:=eq_true c6
   clear c6 hR3 hto
   by_cases c7 : to_ = kk
   ·rw [if_pos c7] at H
    have H':=Aside0.mk H
    have p7 : (to_ == kk) = true:=beq_iff_eq.mpr c7
    clear H c7
    go_wp2
    repeat (go_quiet (fail);try go_wp2)
    go_roundg k1
    case measure => have:=HK1.out;omega
    case rel => exact ⟨_,rfl,H',⟨by have:=HK1.out;omega⟩,⟨by repeat (first | exact HB.out | apply pw_below_drewN | apply below_drew1)⟩⟩
   rw [if_neg c7] at H
   have p7 : (to_ == kk) = false:=beq_eq_false_iff_ne.mpr c7
   by_cases c8 : to_ = 0
   ·rw [if_pos c8] at H
    have H':=Aside0.mk H
    have p8 : (to_ == 0) = true:=beq_iff_eq.mpr c8
    clear H c7 c8
    go_wp2
    repeat (go_quiet (fail);try go_wp2)
    go_roundg k1
    case measure => have:=HK1.out;omega
    case rel => exact ⟨_,rfl,H',⟨by have:=HK1.out;omega⟩,⟨by repeat (first | exact HB.out | apply pw_below_drewN | apply below_drew1)⟩⟩
   rw [if_neg c8] at H
   have p8 : (to_ == 0) = false:=beq_eq_false_iff_ne.mpr c8
   by_cases c9 : 0 ≤ to_
   rotate_left
   ·rw [if_neg c9] at H;exact absurd H (by simp)
   rw [if_pos c9] at H
   by_cases c10 : to_ < (pr.length : Int)
   rotate_left
   ·rw [if_neg c10] at H;exact absurd H (by simp)
   rw [if_pos c10] at H
   obtain ⟨_,A9,c9_,e9,hz5,hl9,hr9⟩:=at_row (Kd.C_below (Kd.S_reads' HP6.out).2.2 HB.out) to_ c9 c10
   cases e9
   obtain ⟨y,hy⟩ : ∃ y,y = pr.getD to_.toNat []:=⟨_,rfl⟩
   rw [← hy] at hz5 H
   have p9:=eq_true c9
   have p10:=eq_true c10
   have HC9:=Aside0.mk c9
   clear c7 c8 c9 c10 hl9 hr9 hy
   by_cases c11 : 1 < y.length
   ·rw [if_pos c11] at H
    have H':=Aside0.mk H
    have p11 : decide (1 < y.length) = true:=decide_eq_true c11
    have p11b : decide (1 < (y.length : Int)) = true:=decide_eq_true (by omega)
    clear H c11
    go_wp2
    repeat (go_quiet (fail);try go_wp2)
    go_roundg k1
    case measure => have:=HK1.out;omega
    case rel => exact ⟨_,rfl,H',⟨by have:=HK1.out;omega⟩,⟨by repeat (first | exact HB.out | apply pw_below_drewN | apply below_drew1)⟩⟩
   rw [if_neg c11] at H
   have p11 : decide (1 < y.length) = false:=decide_eq_false c11
   have p11b : decide (1 < (y.length : Int)) = false:=decide_eq_false (by omega)
   by_cases c12 : to_ < (fs.length : Int)
   rotate_left
   ·rw [if_neg c12] at H;exact absurd H (by simp)
   rw [if_pos c12] at H
   obtain ⟨B1,d1,v4,hu0,hu1,hu2,hu3,hC1,hD1,hR4,_⟩:=J_elem HFR.out to_ HC9.out c12
   obtain ⟨z,hz⟩ : ∃ z,z = rd_T56 fs to_:=⟨_,rfl⟩
   rw [← hz] at hu0 hu1 hu2 hC1 hD1 hR4 H
   have p12:=eq_true c12
   have HC1:=Aside0.mk hC1
   have HD1:=Aside0.mk hD1
   have HR4:=Aside0.mk hR4
   obtain ⟨B4,d4,e4⟩:=Kd.R_slice hR4
   subst e4
   clear c11 c12 hz hC1 hD1 hR4
   by_cases c13 : 60 < wrap64 ((x.f0.length : Int) + (z.f0.length : Int))
   ·rw [if_pos c13] at H
    have H':=Aside0.mk H
    have p13 : decide (60 < wrap64 ((x.f0.length : Int) + (z.f0.length : Int))) = true:=decide_eq_true c13
    clear H c13
    go_wp2
    repeat (go_quiet (fail);try go_wp2)
    go_roundg k1
    case measure => have:=HK1.out;omega
    case rel => exact ⟨_,rfl,H',⟨by have:=HK1.out;omega⟩,⟨by repeat (first | exact HB.out | apply pw_below_drewN | apply below_drew1)⟩⟩
   rw [if_neg c13] at H
   have p13 : decide (60 < wrap64 ((x.f0.length : Int) + (z.f0.length : Int))) = false:=decide_eq_false c13
   clear c13
   obtain ⟨cc,C1,H⟩:=Option.bind_eq_some_iff.mp H
   obtain ⟨nn,C2,H⟩:=Option.bind_eq_some_iff.mp H
   simp only [Option.some.injEq,Prod.mk.injEq] at H
   obtain ⟨rfl,rfl⟩:=H
   have D1:=Aside0.mk C1
   have D2:=Aside0.mk C2
   have HGL:=Aside0.mk (show g < wr.heap.size from Kd.R_lt (Kd.S_R HFR.out) g (by simp [Value.ownBlock]))
   have HGB:=Aside0.mk (show w0.heap.size ≤ g from Kd.R_base (Kd.S_R HFR.out) g (by simp [Value.ownBlock]))
   have HSB:=Aside0.mk (show w0.heap.size ≤ wr.heap.size from Nat.le_trans HB0.out.size HBW.out.size)
   have HSW:=Aside0.mk HBW.out.size
   have HBr:=Aside0.mk (below_weaken HB0.out HB0.out.size HBW.out)
   clear C1 C2
   go_wp2
   repeat (go_quiet (fail);try go_wp2)
   have HU1:=Aside0.mk hu1
   have HU2:=Aside0.mk hu2
   have HU3:=Aside0.mk hu3
   have HZ1:=Aside0.mk hz1
   have HZ2:=Aside0.mk hz2
   have HZ3:=Aside0.mk hz3
   have HB8:=Aside0.mk (show Below wr.heap.size wr (wr.drewN nq) from pw_below_drewN (Below.refl _ _) nq)
   generalize wr.drewN nq = wq at HB8 ⊢
   replace hz0:=pw_cell_below HB8.out hz0
   replace hz1:=pw_cell_below HB8.out hz1
   replace hz2:=pw_cell_below HB8.out hz2
   replace hz3:=pw_cell_below HB8.out hz3
   replace hu0:=pw_cell_below HB8.out hu0
   replace hu1:=pw_cell_below HB8.out hu1
   replace hu2:=pw_cell_below HB8.out hu2
   replace hu3:=pw_cell_below HB8.out hu3
   have HBd:=Aside0.mk (show Below wr.heap.size wr (World.drew wq) from below_drew HB8.out)
   have HZ:=Aside0.mk (show ∀ j : Nat,wq.frozen? ⟨g,kk.toNat * 4 + j,none⟩ = false from fun j => (frozen_below HB8.out HGL.out).trans (HFZ.out j))
   have HZ0:=Aside0.mk hz0
   clear hy1 hz4 hz5
   go_cut [75] (fun v75 wc => ∃ (W1 : World) (E0 : Option Addr) (s0 : Nat),wc = W1.setCell ⟨g,kk.toNat * 4,none⟩ (.slice E0 cc.length s0) ∧ Aside0 (Below wr.heap.size wr W1) ∧ Aside0 (k79.R 79 W1 wr.heap.size (fun _ => True) (.slice E0 cc.length s0) cc))
   case first =>
    go_region_with (go_at_call 83;(refine (slices_Concat_impl_Flat.calls _ _ [x.f0,z.f0] cc _ (C_lit2F (Kd.C_below HC0.out HBd.out) HD0.out (Kd.C_below HC1.out HBd.out) HD1.out) (Nat.le_refl _) D1.out).mono ?_);rintro e w10 ⟨v0,rfl,ho,hb⟩;have HX0:=Aside0.mk (Kd.R_lower ho (below_alloc (Below.refl (World.drew wq).heap.size (World.drew wq)) _).size);have HB10:=Aside0.mk (below_step (below_alloc (Below.refl (World.drew wq).heap.size (World.drew wq)) _) hb);have hk0 : w10.cell? ⟨g,kk.toNat * 4,none⟩ = some (.slice B0 x.f0.length d0):=pw_cell_below HB10.out HZ0.out;have hf0 : w10.frozen? ⟨g,kk.toNat * 4,none⟩ = false:=(frozen_below HB10.out (Nat.lt_of_lt_of_le HGL.out HBd.out.size)).trans (HZ.out 0);obtain ⟨E0,s0,es0⟩:=Kd.R_slice ho;subst es0;clear ho hb)
    all_goals go_wp2
    all_goals go_meet
    all_goals exact ⟨_,_,_,rfl,⟨below_step HBd.out HB10.out⟩,⟨Kd.R_lower HX0.out HBd.out.size⟩⟩
   case rest =>
    obtain ⟨W1,E0,s0,rfl,HW1,HX0⟩:=hcut
    clear hz0 hz1 hz2 hz3 hu0 hu1 hu2 hu3 HZ HZ0 HBd HB8
    have oth : ∀ (a b : Nat) (u v : Value),W1.cell? ⟨g,a,none⟩ = some v → b ≠ a → (W1.setCell ⟨g,b,none⟩ u).cell? ⟨g,a,none⟩ = some v:=fun a b u v h_ hne => oth2 W1 a b u v h_ hne
    have hz1:=oth _ (kk.toNat * 4) (.slice E0 cc.length s0) _ (pw_cell_below HW1.out HZ1.out) (by omega)
    have hz2:=oth _ (kk.toNat * 4) (.slice E0 cc.length s0) _ (pw_cell_below HW1.out HZ2.out) (by omega)
    have hz3:=oth _ (kk.toNat * 4) (.slice E0 cc.length s0) _ (pw_cell_below HW1.out HZ3.out) (by omega)
    have hu1:=oth _ (kk.toNat * 4) (.slice E0 cc.length s0) _ (pw_cell_below HW1.out HU1.out) (by omega)
    have hu2:=oth _ (kk.toNat * 4) (.slice E0 cc.length s0) _ (pw_cell_below HW1.out HU2.out) (by omega)
    have hu3:=oth _ (kk.toNat * 4) (.slice E0 cc.length s0) _ (pw_cell_below HW1.out HU3.out) (by omega)
    have HN4:=Aside0.mk (Kd.R_far (p:=⟨g,kk.toNat * 4,none⟩) (Kd.R_below HR4.out HW1.out) (fun k_ h_ => h_) (.slice E0 cc.length s0))
    have HFZ2:=Aside0.mk (show ∀ j : Nat,(W1.setCell ⟨g,kk.toNat * 4,none⟩ (.slice E0 cc.length s0)).frozen? ⟨g,kk.toNat * 4 + j,none⟩ = false from fun j => (frz_set _ _ _ _).trans ((frozen_below HW1.out HGL.out).trans (HFZ.out j)))
    have HG2:=Aside0.mk (show g < (W1.setCell ⟨g,kk.toNat * 4,none⟩ (.slice E0 cc.length s0)).heap.size by have:=HGL.out;have:=HW1.out.size;simp [World.setCell];omega)
    have FIN:=Aside0.mk (fun (W3 : World) (v3 : Value) => J_put (P:=P) (W3:=W3) (v3:=v3) (nx:=nn) (go:=z.f1) (tst:=z.f2) HFR.out HSB.out HC3.out HC4.out HW1.out HX0.out)
    have HSZ:=Aside0.mk (show w0.heap.size ≤ (W1.setCell ⟨g,kk.toNat * 4,none⟩ (.slice E0 cc.length s0)).heap.size by have:=HSB.out;have:=HW1.out.size;simp [World.setCell];omega)
    have HBZ:=Aside0.mk (show Below w0.heap.size w0 (W1.setCell ⟨g,kk.toNat * 4,none⟩ (.slice E0 cc.length s0)) from (below_then HBr.out HSB.out HW1.out).setCell HGB.out _)
    generalize W1.setCell ⟨g,kk.toNat * 4,none⟩ (.slice E0 cc.length s0) = W2 at *
    clear oth HW1 HX0 HFR HFZ
    have HZ1:=Aside0.mk hz1
    have HZ2:=Aside0.mk hz2
    have HZ3:=Aside0.mk hz3
    have HV1:=Aside0.mk hu1
    have HV2:=Aside0.mk hu2
    have HV3:=Aside0.mk hu3
    clear hz1 hz2 hz3 hu1 hu2 hu3
    go_wp2
    have HB0:=Aside0.mk (show Below W2.heap.size W2 W2.drew from below_drew (Below.refl _ _))
    refine start_ (n:=28) (S:=fun w' => w'.cell? ⟨g,to_.toNat * 4 + 1,none⟩ = some (.int .i64 z.f1) ∧ w'.cell? ⟨g,to_.toNat * 4 + 2,none⟩ = some (.int .i64 z.f2) ∧ w'.cell? ⟨g,to_.toNat * 4 + 3,none⟩ = some (.slice B4 z.f3.length d4)) (ds:=[21,24,27]) #[false,false,false,false,false,false,false,false,false,false,false,false,false,false,false,false,false,false,false,false,false,false,false,false,false,false,false,false] (by kernel_rfl) rfl rfl ?_ (fun hHeld => ?_)
    ·exact ⟨pw_cell_below HB0.out HV1.out,pw_cell_below HB0.out HV2.out,pw_cell_below HB0.out HV3.out⟩
    generalize hw8 : World.drew W2 = w8 at HB0 hHeld ⊢
    clear hw8
    refine pure_ (i:=0) (N:=some 78) (v:=?_) (a':=?_) #[true,false,false,false,false,false,false,false,false,false,false,false,false,false,false,false,false,false,false,false,false,false,false,false,false,false,false,false] rfl rfl (by kernel_rfl) (fun _ _ _ h => h) (Or.inl ⟨by rfl,?_⟩) ?_ ?_
    rotate_left
    ·intro w'
     go_simp
     with_reducible rfl
    rotate_left
    ·simp only [Act.put,List.setIfInBounds_toArray,List.set_cons_zero,List.set_cons_succ,i64_w,i32_w]
     rfl
    refine pure_ (i:=1) (N:=some 79) (v:=?_) (a':=?_) #[true,true,false,false,false,false,false,false,false,false,false,false,false,false,false,false,false,false,false,false,false,false,false,false,false,false,false,false] rfl rfl (by kernel_rfl) (fun _ _ _ h => h) (Or.inl ⟨by rfl,?_⟩) ?_ ?_
    rotate_left
    ·intro w'
     go_simp
     with_reducible rfl
    rotate_left
    ·simp only [Act.put,List.setIfInBounds_toArray,List.set_cons_zero,List.set_cons_succ,i64_w,i32_w]
     rfl
    refine pure_ (i:=2) (N:=some 80) (v:=?_) (a':=?_) #[true,true,true,false,false,false,false,false,false,false,false,false,false,false,false,false,false,false,false,false,false,false,false,false,false,false,false,false] rfl rfl (by kernel_rfl) (fun _ _ _ h => h) (Or.inl ⟨by rfl,?_⟩) ?_ ?_
    rotate_left
    ·intro w'
     go_simp
     with_reducible rfl
    rotate_left
    ·simp only [Act.put,List.setIfInBounds_toArray,List.set_cons_zero,List.set_cons_succ,i64_w,i32_w]
     rfl
    refine pure_ (i:=3) (N:=some 81) (v:=?_) (a':=?_) #[true,true,true,true,false,false,false,false,false,false,false,false,false,false,false,false,false,false,false,false,false,false,false,false,false,false,false,false] rfl rfl (by kernel_rfl) (fun _ _ _ h => h) (Or.inl ⟨by rfl,?_⟩) ?_ ?_
    rotate_left
    ·intro w'
     go_simp
     with_reducible rfl
    rotate_left
    ·simp only [Act.put,List.setIfInBounds_toArray,List.set_cons_zero,List.set_cons_succ,i64_w,i32_w]
     rfl
    refine pure_ (i:=4) (N:=some 82) (v:=?_) (a':=?_) #[true,true,true,true,true,false,false,false,false,false,false,false,false,false,false,false,false,false,false,false,false,false,false,false,false,false,false,false] rfl rfl (by kernel_rfl) (fun _ _ _ h => h) (Or.inl ⟨by rfl,?_⟩) ?_ ?_
    rotate_left
    ·intro w'
     go_simp
     with_reducible rfl
    rotate_left
    ·simp only [Act.put,List.setIfInBounds_toArray,List.set_cons_zero,List.set_cons_succ,i64_w,i32_w]
     rfl
    refine pure_ (i:=5) (N:=some 83) (v:=?_) (a':=?_) #[true,true,true,true,true,true,false,false,false,false,false,false,false,false,false,false,false,false,false,false,false,false,false,false,false,false,false,false] rfl rfl (by kernel_rfl) (fun _ _ _ h => h) (Or.inl ⟨by rfl,?_⟩) ?_ ?_
    rotate_left
    ·intro w'
     go_simp
     with_reducible rfl
    rotate_left
    ·simp only [Act.put,List.setIfInBounds_toArray,List.set_cons_zero,List.set_cons_succ,i64_w,i32_w]
     rfl
    refine pure_ (i:=6) (N:=some 84) (v:=?_) (a':=?_) #[true,true,true,true,true,true,true,false,false,false,false,false,false,false,false,false,false,false,false,false,false,false,false,false,false,false,false,false] rfl rfl (by kernel_rfl) (fun _ _ _ h => h) (Or.inl ⟨by rfl,?_⟩) ?_ ?_
    rotate_left
    ·intro w'
     go_simp
     with_reducible rfl
    rotate_left
    ·simp only [Act.put,List.setIfInBounds_toArray,List.set_cons_zero,List.set_cons_succ,i64_w,i32_w]
     rfl
    refine pure_ (i:=8) (N:=some 86) (v:=?_) (a':=?_) #[true,true,true,true,true,true,true,false,true,false,false,false,false,false,false,false,false,false,false,false,false,false,false,false,false,false,false,false] rfl rfl (by kernel_rfl) (fun _ _ _ h => h) (Or.inl ⟨by rfl,?_⟩) ?_ ?_
    rotate_left
    ·intro w'
     go_simp
     with_reducible rfl
    rotate_left
    ·simp only [Act.put,List.setIfInBounds_toArray,List.set_cons_zero,List.set_cons_succ,i64_w,i32_w]
     rfl
    refine pure_ (i:=9) (N:=some 87) (v:=?_) (a':=?_) #[true,true,true,true,true,true,true,false,true,true,false,false,false,false,false,false,false,false,false,false,false,false,false,false,false,false,false,false] rfl rfl (by kernel_rfl) (fun _ _ _ h => h) (Or.inl ⟨by rfl,?_⟩) ?_ ?_
    rotate_left
    ·intro w'
     go_simp
     with_reducible rfl
    rotate_left
    ·simp only [Act.put,List.setIfInBounds_toArray,List.set_cons_zero,List.set_cons_succ,i64_w,i32_w]
     rfl
    refine pure_ (i:=10) (N:=some 88) (v:=?_) (a':=?_) #[true,true,true,true,true,true,true,false,true,true,true,false,false,false,false,false,false,false,false,false,false,false,false,false,false,false,false,false] rfl rfl (by kernel_rfl) (fun _ _ _ h => h) (Or.inl ⟨by rfl,?_⟩) ?_ ?_
    rotate_left
    ·intro w'
     go_simp
     with_reducible rfl
    rotate_left
    ·simp only [Act.put,List.setIfInBounds_toArray,List.set_cons_zero,List.set_cons_succ,i64_w,i32_w]
     rfl
    refine pure_ (i:=11) (N:=some 89) (v:=?_) (a':=?_) #[true,true,true,true,true,true,true,false,true,true,true,true,false,false,false,false,false,false,false,false,false,false,false,false,false,false,false,false] rfl rfl (by kernel_rfl) (fun _ _ _ h => h) (Or.inl ⟨by rfl,?_⟩) ?_ ?_
    rotate_left
    ·intro w'
     go_simp
     with_reducible rfl
    rotate_left
    ·simp only [Act.put,List.setIfInBounds_toArray,List.set_cons_zero,List.set_cons_succ,i64_w,i32_w]
     rfl
    refine pure_ (i:=13) (N:=some 91) (v:=?_) (a':=?_) #[true,true,true,true,true,true,true,false,true,true,true,true,false,true,false,false,false,false,false,false,false,false,false,false,false,false,false,false] rfl rfl (by kernel_rfl) (fun _ _ _ h => h) (Or.inl ⟨by rfl,?_⟩) ?_ ?_
    rotate_left
    ·intro w'
     go_simp
     with_reducible rfl
    rotate_left
    ·simp only [Act.put,List.setIfInBounds_toArray,List.set_cons_zero,List.set_cons_succ,i64_w,i32_w]
     rfl
    refine pure_ (i:=14) (N:=some 92) (v:=?_) (a':=?_) #[true,true,true,true,true,true,true,false,true,true,true,true,false,true,true,false,false,false,false,false,false,false,false,false,false,false,false,false] rfl rfl (by kernel_rfl) (fun _ _ _ h => h) (Or.inl ⟨by rfl,?_⟩) ?_ ?_
    rotate_left
    ·intro w'
     go_simp
     with_reducible rfl
    rotate_left
    ·simp only [Act.put,List.setIfInBounds_toArray,List.set_cons_zero,List.set_cons_succ,i64_w,i32_w]
     rfl
    refine pure_ (i:=15) (N:=some 93) (v:=?_) (a':=?_) #[true,true,true,true,true,true,true,false,true,true,true,true,false,true,true,true,false,false,false,false,false,false,false,false,false,false,false,false] rfl rfl (by kernel_rfl) (fun _ _ _ h => h) (Or.inl ⟨by rfl,?_⟩) ?_ ?_
    rotate_left
    ·intro w'
     go_simp
     with_reducible rfl
    rotate_left
    ·simp only [Act.put,List.setIfInBounds_toArray,List.set_cons_zero,List.set_cons_succ,i64_w,i32_w]
     rfl
    refine pure_ (i:=16) (N:=some 94) (v:=?_) (a':=?_) #[true,true,true,true,true,true,true,false,true,true,true,true,false,true,true,true,true,false,false,false,false,false,false,false,false,false,false,false] rfl rfl (by kernel_rfl) (fun _ _ _ h => h) (Or.inl ⟨by rfl,?_⟩) ?_ ?_
    rotate_left
    ·intro w'
     go_simp
     with_reducible rfl
    rotate_left
    ·simp only [Act.put,List.setIfInBounds_toArray,List.set_cons_zero,List.set_cons_succ,i64_w,i32_w]
     rfl
    refine take_ (i:=7) (N:=some 85) (v:=?_) (a':=?_) #[true,true,true,true,true,true,true,true,true,true,true,true,false,true,true,true,true,false,false,false,false,false,false,false,false,false,false,false] rfl rfl (by kernel_rfl) (fun _ _ _ h => h) (Or.inl ⟨by rfl,?_⟩) hHeld ?_ ?_
    rotate_left
    ·rintro w' ⟨s0,s1,s2⟩
     go_simp
     with_reducible rfl
    rotate_left
    ·simp only [Act.put,List.setIfInBounds_toArray,List.set_cons_zero,List.set_cons_succ,i64_w,i32_w]
     rfl
    refine take_ (i:=12) (N:=some 90) (v:=?_) (a':=?_) #[true,true,true,true,true,true,true,true,true,true,true,true,true,true,true,true,true,false,false,false,false,false,false,false,false,false,false,false] rfl rfl (by kernel_rfl) (fun _ _ _ h => h) (Or.inl ⟨by rfl,?_⟩) hHeld ?_ ?_
    rotate_left
    ·rintro w' ⟨s0,s1,s2⟩
     go_simp
     with_reducible rfl
    rotate_left
    ·simp only [Act.put,List.setIfInBounds_toArray,List.set_cons_zero,List.set_cons_succ,i64_w,i32_w]
     rfl
    refine take_ (i:=17) (N:=some 95) (v:=?_) (a':=?_) #[true,true,true,true,true,true,true,true,true,true,true,true,true,true,true,true,true,true,false,false,false,false,false,false,false,false,false,false] rfl rfl (by kernel_rfl) (fun _ _ _ h => h) (Or.inl ⟨by rfl,?_⟩) hHeld ?_ ?_
    rotate_left
    ·rintro w' ⟨s0,s1,s2⟩
     go_simp
     with_reducible rfl
    rotate_left
    ·simp only [Act.put,List.setIfInBounds_toArray,List.set_cons_zero,List.set_cons_succ,i64_w,i32_w]
     rfl
    refine one_ (i:=18) (N:=some 96) #[true,true,true,true,true,true,true,true,true,true,true,true,true,true,true,true,true,true,true,false,false,false,false,false,false,false,false,false] rfl rfl (by kernel_rfl) (by decide) (fun K hK => ?_)
    refine goes_ Try.func75 (by kernel_rfl) rfl #[.slice B4 z.f3.length d4] (by rfl) rfl rfl (by simp only [List.map_toArray,List.map_cons,List.map_nil];rfl) ?_
    with_reducible refine (slices_Clone_int_int.calls B4 d4 z.f3 nn _ (Kd.C_below (Kd.R_reads' HN4.out).2.2 HB0.out) (Kd.R_reads' HN4.out).2.1 D2.out).mono ?_
    rintro e w12 ⟨vn,rfl,ho,hb⟩
    obtain ⟨E3,s3,es3⟩:=Kd.R_slice ho
    subst es3
    refine ⟨_,rfl,?_⟩
    have HB12:=Aside0.mk (below_step HB0.out hb)
    have HX3:=Aside0.mk (Kd.R_lower ho HB0.out.size)
    clear ho hb
    refine hK.out _ _ ?_ (fun hHeld => ?_)
    ·exact ⟨pw_cell_below HB12.out HV1.out,pw_cell_below HB12.out HV2.out,pw_cell_below HB12.out HV3.out⟩
    clear hK K
    refine norm_ (a':=?_) ?_ ?_
    rotate_left
    ·show Act.put _ (some 96) _ = _
     simp only [Act.put,List.setIfInBounds_toArray,List.set_cons_zero,List.set_cons_succ,i64_w,i32_w]
     rfl
    refine pure_ (i:=19) (N:=some 97) (v:=?_) (a':=?_) #[true,true,true,true,true,true,true,true,true,true,true,true,true,true,true,true,true,true,true,true,false,false,false,false,false,false,false,false] rfl rfl (by kernel_rfl) (fun _ _ _ h => h) (Or.inl ⟨by rfl,?_⟩) ?_ ?_
    rotate_left
    ·intro w'
     go_simp
     with_reducible rfl
    rotate_left
    ·simp only [Act.put,List.setIfInBounds_toArray,List.set_cons_zero,List.set_cons_succ,i64_w,i32_w]
     rfl
    refine pure_ (i:=20) (N:=some 98) (v:=?_) (a':=?_) #[true,true,true,true,true,true,true,true,true,true,true,true,true,true,true,true,true,true,true,true,true,false,false,false,false,false,false,false] rfl rfl (by kernel_rfl) (fun _ _ _ h => h) (Or.inl ⟨by rfl,?_⟩) ?_ ?_
    rotate_left
    ·intro w'
     go_simp
     with_reducible rfl
    rotate_left
    ·simp only [Act.put,List.setIfInBounds_toArray,List.set_cons_zero,List.set_cons_succ,i64_w,i32_w]
     rfl
    refine last_ (i:=21) (N:=none) #[true,true,true,true,true,true,true,true,true,true,true,true,true,true,true,true,true,true,true,true,true,true,false,false,false,false,false,false] rfl rfl (by kernel_rfl) (by decide) (fun K hK => ?_)
    have hk1:=pw_cell_below HB12.out HZ1.out
    have hf1:=(frozen_below HB12.out HG2.out).trans (HFZ2.out 1)
    refine skip_ (w1:=?_) (by rfl) rfl ?_ ?_
    rotate_left
    ·go_simp
     rfl
    refine hK.out _ _ ?_
    clear hK K
    refine pure_ (i:=22) (N:=some 99) (v:=?_) (a':=?_) #[true,true,true,true,true,true,true,true,true,true,true,true,true,true,true,true,true,true,true,true,true,true,true,false,false,false,false,false] rfl rfl (by kernel_rfl) (fun _ _ _ h => h) (Or.inl ⟨by rfl,?_⟩) ?_ ?_
    rotate_left
    ·intro w'
     go_simp
     with_reducible rfl
    rotate_left
    ·simp only [Act.put,List.setIfInBounds_toArray,List.set_cons_zero,List.set_cons_succ,i64_w,i32_w]
     rfl
    refine pure_ (i:=23) (N:=some 100) (v:=?_) (a':=?_) #[true,true,true,true,true,true,true,true,true,true,true,true,true,true,true,true,true,true,true,true,true,true,true,true,false,false,false,false] rfl rfl (by kernel_rfl) (fun _ _ _ h => h) (Or.inl ⟨by rfl,?_⟩) ?_ ?_
    rotate_left
    ·intro w'
     go_simp
     with_reducible rfl
    rotate_left
    ·simp only [Act.put,List.setIfInBounds_toArray,List.set_cons_zero,List.set_cons_succ,i64_w,i32_w]
     rfl
    refine last_ (i:=24) (N:=none) #[true,true,true,true,true,true,true,true,true,true,true,true,true,true,true,true,true,true,true,true,true,true,true,true,true,false,false,false] rfl rfl (by kernel_rfl) (by decide) (fun K hK => ?_)
    have hk2:=oth2 w12 _ (kk.toNat * 4 + 1) (.int .i64 z.f1) _ (pw_cell_below HB12.out HZ2.out) (by omega)
    have hf2:=(frz_set w12 ⟨g,kk.toNat * 4 + 1,none⟩ ⟨g,kk.toNat * 4 + 2,none⟩ (.int .i64 z.f1)).trans ((frozen_below HB12.out HG2.out).trans (HFZ2.out 2))
    refine skip_ (w1:=?_) (by rfl) rfl ?_ ?_
    rotate_left
    ·go_simp
     rfl
    refine hK.out _ _ ?_
    clear hK K
    refine pure_ (i:=25) (N:=some 101) (v:=?_) (a':=?_) #[true,true,true,true,true,true,true,true,true,true,true,true,true,true,true,true,true,true,true,true,true,true,true,true,true,true,false,false] rfl rfl (by kernel_rfl) (fun _ _ _ h => h) (Or.inl ⟨by rfl,?_⟩) ?_ ?_
    rotate_left
    ·intro w'
     go_simp
     with_reducible rfl
    rotate_left
    ·simp only [Act.put,List.setIfInBounds_toArray,List.set_cons_zero,List.set_cons_succ,i64_w,i32_w]
     rfl
    refine pure_ (i:=26) (N:=some 102) (v:=?_) (a':=?_) #[true,true,true,true,true,true,true,true,true,true,true,true,true,true,true,true,true,true,true,true,true,true,true,true,true,true,true,false] rfl rfl (by kernel_rfl) (fun _ _ _ h => h) (Or.inl ⟨by rfl,?_⟩) ?_ ?_
    rotate_left
    ·intro w'
     go_simp
     with_reducible rfl
    rotate_left
    ·simp only [Act.put,List.setIfInBounds_toArray,List.set_cons_zero,List.set_cons_succ,i64_w,i32_w]
     rfl
    refine last_ (i:=27) (N:=none) #[true,true,true,true,true,true,true,true,true,true,true,true,true,true,true,true,true,true,true,true,true,true,true,true,true,true,true,true] rfl rfl (by kernel_rfl) (by decide) (fun K hK => ?_)
    have hk3:=oth2 (w12.setCell ⟨g,kk.toNat * 4 + 1,none⟩ (.int .i64 z.f1)) _ (kk.toNat * 4 + 2) (.int .i64 z.f2) _ (oth2 w12 _ (kk.toNat * 4 + 1) (.int .i64 z.f1) _ (pw_cell_below HB12.out HZ3.out) (by omega)) (by omega)
    have hf3:=(frz_set (w12.setCell ⟨g,kk.toNat * 4 + 1,none⟩ (.int .i64 z.f1)) ⟨g,kk.toNat * 4 + 2,none⟩ ⟨g,kk.toNat * 4 + 3,none⟩ (.int .i64 z.f2)).trans ((frz_set w12 ⟨g,kk.toNat * 4 + 1,none⟩ ⟨g,kk.toNat * 4 + 3,none⟩ (.int .i64 z.f1)).trans ((frozen_below HB12.out HG2.out).trans (HFZ2.out 3)))
    refine skip_ (w1:=?_) (by rfl) rfl ?_ ?_
    rotate_left
    ·go_simp
     rfl
    refine hK.out _ _ ?_
    clear hK K
    refine done_ (by kernel_rfl) ?_
    go_wp2
    go_ret
    exact ⟨rfl,Kd.S_mono (FIN.out _ _ HB12.out HX3.out) (fun k_ h_ => h_.elim .inl (fun h_ => .inr (Nat.le_trans HSW.out h_))),((below_then HBZ.out HSZ.out HB12.out).setCell HGB.out _ |>.setCell HGB.out _).setCell HGB.out _⟩

/-! ### impl_JoinFlow: function 34 (by hand: a callee writes the row) -/
def impl_JoinFlow.l0 : Nat → List S56 → Option (List S56 × Bool)
 | 0,_ => none
 | k + 1,x => (impl_joinOnce.f k x).bind fun q => (if q.1 = true then (impl_JoinFlow.l0 k q.2) else ((impl_trim.f k q.2).bind fun r => some (r.1,true)))
def impl_JoinFlow.f (k : Nat) (l : List S56) : Option (List S56 × Bool):=(impl_GoodFlow.f k l).bind fun t => (if t = true then ((impl_cloneFlow.f k l).bind fun x => (impl_JoinFlow.l0 k x)) else some ([],false))
theorem impl_JoinFlow.mono_l : ∀ k,(∀ y0,LeO (impl_JoinFlow.l0 k y0) (impl_JoinFlow.l0 (k + 1) y0))
 | 0 => fun _ r h => by simp [impl_JoinFlow.l0] at h
 | k + 1 => by
  have ih0:=impl_JoinFlow.mono_l k
  ·intro y0
   unfold impl_JoinFlow.l0
   repeat' first
   | (with_reducible exact ih0 _)
   | (with_reducible exact impl_GoodFlow.mono _ _)
   | (with_reducible exact impl_joinOnce.mono _ _)
   | (with_reducible exact impl_trim.mono _ _)
   | (with_reducible exact impl_cloneFlow.mono _ _)
   | (with_reducible exact LeO.refl _)
   | (with_reducible exact LeO.none _)
   | (with_reducible refine LeO.ite ?_ ?_)
   | (with_reducible refine LeO.bind ?_ (fun _ => ?_))
theorem impl_JoinFlow.mono : ∀ a0 k,LeO (impl_JoinFlow.f k a0) (impl_JoinFlow.f (k + 1) a0):=by
 intro a0 k
 have ih0:=impl_JoinFlow.mono_l k
 unfold impl_JoinFlow.f
 repeat' first
   | (with_reducible exact ih0 _)
   | (with_reducible exact impl_GoodFlow.mono _ _)
   | (with_reducible exact impl_joinOnce.mono _ _)
   | (with_reducible exact impl_trim.mono _ _)
   | (with_reducible exact impl_cloneFlow.mono _ _)
   | (with_reducible exact LeO.refl _)
   | (with_reducible exact LeO.none _)
   | (with_reducible refine LeO.ite ?_ ?_)
   | (with_reducible refine LeO.bind ?_ (fun _ => ?_))
set_option maxHeartbeats 8000000 in
set_option maxRecDepth 100000 in
theorem impl_JoinFlow.calls (k : Nat) (A0 : Option Addr) (c0 : Nat) (l0 : List S56) (r1 : List S56) (r2 : Bool) (w : World) (hr0 : Kd.C k56 w A0 l0.length l0) (hc0 : l0.length ≤ c0) (h : impl_JoinFlow.f k l0 = some (r1,r2)) :
  Calls Try.prog 34 #[.slice A0 l0.length c0] w fun e w' => ∃ v0_ : Value,e = .returned (.tuple #[v0_,.bool r2]) ∧ Kd.S k56 56 w' w.heap.size (fun _ => True) v0_ r1 ∧ Below w.heap.size w w':=by
 have HR0:=Aside0.mk hr0
 have HC0:=Aside0.mk hc0
 clear hr0 hc0
 unfold impl_JoinFlow.f at h
 obtain ⟨t,A1,H⟩:=Option.bind_eq_some_iff.mp h
 have A:=Aside0.mk A1
 clear h A1
 cases t with
 | false =>
  rw [if_neg (by decide)] at H
  simp only [Option.some.injEq,Prod.mk.injEq] at H
  obtain ⟨rfl,rfl⟩:=H
  go_enter Try.func34,Try.ntmps34
  go_wp2_with (first | (go_at_call 12;(refine (impl_GoodFlow.calls k _ _ l0 false _ HR0.out HC0.out A.out).mono ?_);rintro e w2 ⟨rfl,hb⟩;have HB2:=Aside0.mk hb;clear hb))
  go_ret2
  exact ⟨_,rfl,Kd.S_nil _ _ _ _ _,HB2.out⟩
 | true =>
  rw [if_pos rfl] at H
  obtain ⟨x,B1,H⟩:=Option.bind_eq_some_iff.mp H
  have B:=Aside0.mk B1
  have H':=Aside0.mk H
  clear B1 H
  go_enter Try.func34,Try.ntmps34
  go_wp2_with (first | (go_at_call 12;(refine (impl_GoodFlow.calls k _ _ l0 true _ HR0.out HC0.out A.out).mono ?_);rintro e w2 ⟨rfl,hb⟩;have HB2:=Aside0.mk hb;clear hb) | (go_at_call 58;(refine (impl_cloneFlow.calls k _ _ l0 x _ (Kd.C_below HR0.out HB2.out) HC0.out B.out).mono ?_);rintro e w3 ⟨v3,rfl,ho,hb⟩;have HS:=Aside0.mk (Kd.S_lower ho HB2.out.size);have HB3:=Aside0.mk (below_step HB2.out hb);obtain ⟨n3,hn3⟩ : ∃ n,n = x.length:=⟨_,rfl⟩;obtain ⟨A3,c3,e3⟩:=Kd.S_slice ho;rw [← hn3] at e3;subst e3;clear ho hb hn3 HB2))
  go_loopg [11] k (fun kq v11 w' => ∃ (x : List S56),Aside0 (impl_JoinFlow.l0 kq x = some (r1,r2)) ∧ Aside0 (kq ≤ k) ∧ Aside0 (Below w.heap.size w w') ∧ Aside0 (Kd.S k56 56 w' w.heap.size (fun _ => True) (.slice A3 n3 c3) x))
  case atStart => exact ⟨x,H',⟨Nat.le_refl _⟩,HB3,HS⟩
  case round =>
   clear H' HB3 HS
   obtain ⟨x,HA,HK1,HB,HS⟩:=hrel
   cases gk with
   | zero => exact absurd HA.out (by simp [impl_JoinFlow.l0])
   | succ k1 =>
    have H:=HA.out
    clear HA
    simp only [impl_JoinFlow.l0] at H
    obtain ⟨⟨q1,q2⟩,C1,H⟩:=Option.bind_eq_some_iff.mp H
    have C:=Aside0.mk C1
    dsimp only at H
    clear C1
    cases q1 with
    | true =>
     rw [if_pos rfl] at H
     have H':=Aside0.mk H
     clear H
     go_wp2_with (go_at_call 59;(refine (impl_joinOnce.calls k1 _ _ x true q2 w _ HB.out HS.out C.out).mono ?_);rintro e w5 ⟨rfl,hs,hb⟩;have HS2:=Aside0.mk (Kd.S_mono hs (fun _ _ => trivial));have HB2:=Aside0.mk hb;clear hs hb HB HS)
     go_roundg k1
     case measure => have:=HK1.out;omega
     case rel => exact ⟨_,H',⟨by have:=HK1.out;omega⟩,HB2,HS2⟩
    | false =>
     rw [if_neg (by decide)] at H
     obtain ⟨⟨a1,a2⟩,D1,H⟩:=Option.bind_eq_some_iff.mp H
     simp only [Option.some.injEq,Prod.mk.injEq] at H
     obtain ⟨rfl,rfl⟩:=H
     have D:=Aside0.mk D1
     clear D1
     go_wp2_with (first | (go_at_call 59;(refine (impl_joinOnce.calls k1 _ _ x false q2 w _ HB.out HS.out C.out).mono ?_);rintro e w5 ⟨rfl,hs,hb⟩;have HS2:=Aside0.mk (Kd.S_reads' hs);have HB2:=Aside0.mk hb;clear hs hb HB HS) | (go_at_call 55;(rw [HS2.out.1];refine (impl_trim.calls k1 _ _ q2 a1 a2 _ HS2.out.2.2 (by rw [← HS2.out.1];exact HS2.out.2.1) D.out).mono ?_);rintro e w6 ⟨v3,v4,m,rfl,hm1,hm2,ho1,ho2,hb⟩;have HS3:=Aside0.mk (Kd.S_lower ho1 (Nat.le_trans HB2.out.size hm1));have HB3:=Aside0.mk (below_step HB2.out hb);clear ho1 ho2 hb hm1 hm2))
     go_ret2
     exact ⟨_,rfl,HS3.out,HB3.out⟩

end Go.Proofs.Ythgkhfhfahifmaa.Q
