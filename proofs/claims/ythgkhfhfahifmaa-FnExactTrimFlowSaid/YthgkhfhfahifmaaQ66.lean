-- WRITTEN BY A PROGRAM OF THIS SESSION
import Derived.Test.YthgkhfhfahifmaaWMi3
import Derived.Test.YthgkhfhfahifmaaQ0
import Derived.Test.YthgkhfhfahifmaaQ6
import Derived.Test.YthgkhfhfahifmaaQ61
import Derived.Test.YthgkhfhfahifmaaQ65
namespace Go.Proofs.Ythgkhfhfahifmaa.Q
open Go.RowKit Go.Proofs.YthgkhfhfahifmaaW.PrintWords Go.Proofs.YthgkhfhfahifmaaW.PrintLast Go.Proofs.YthgkhfhfahifmaaW.PrintMore
attribute [local go_sem] max2_int min2_int max_two min_two max_three min_three max_four min_four   -- for this text's walks alone
set_option linter.unusedVariables false
set_option linter.unusedSimpArgs false

/-! ### impl_TrimFlow: function 31 (by hand: two rows come back, the numbers' blocks ahead of the others) -/
def impl_TrimFlow.f (k : Nat) (l : List S56) : Option (List S56 × List Int × Bool):=(impl_GoodFlow.f k l).bind fun t => (if t = true then ((impl_trim.f k l).bind fun a => some (a.1,a.2,true)) else some ([],[],false))
theorem impl_TrimFlow.mono : ∀ a0 k,LeO (impl_TrimFlow.f k a0) (impl_TrimFlow.f (k + 1) a0):=by
 intro a0 k
 unfold impl_TrimFlow.f
 repeat' first
   | (with_reducible exact impl_GoodFlow.mono _ _)
   | (with_reducible exact impl_trim.mono _ _)
   | (with_reducible exact LeO.refl _)
   | (with_reducible exact LeO.none _)
   | (with_reducible refine LeO.ite ?_ ?_)
   | (with_reducible refine LeO.bind ?_ (fun _ => ?_))
set_option maxHeartbeats 8000000 in
set_option maxRecDepth 100000 in
theorem impl_TrimFlow.calls (k : Nat) (A0 : Option Addr) (c0 : Nat) (l0 : List S56) (r1 : List S56) (r2 : List Int) (r3 : Bool) (w : World) (hr0 : Kd.C k56 w A0 l0.length l0) (hc0 : l0.length ≤ c0) (h : impl_TrimFlow.f k l0 = some (r1,r2,r3)) :
  Calls Try.prog 31 #[.slice A0 l0.length c0] w fun e w' => ∃ (v0_ v1_ : Value) (m_ : Nat),e = .returned (.tuple #[v0_,v1_,.bool r3]) ∧ w.heap.size ≤ m_ ∧ m_ ≤ w'.heap.size ∧ Kd.S k56 56 w' m_ (fun _ => True) v0_ r1 ∧ Kd.R (Kd.int .i64) 3 w' w.heap.size (fun k_ => k_ < m_) v1_ r2 ∧ Below w.heap.size w w':=by
 have HR0:=Aside0.mk hr0
 have HC0:=Aside0.mk hc0
 clear hr0 hc0
 unfold impl_TrimFlow.f at h
 obtain ⟨t,A1,H⟩:=Option.bind_eq_some_iff.mp h
 have A:=Aside0.mk A1
 clear h A1
 cases t with
 | false =>
  rw [if_neg (by decide)] at H
  simp only [Option.some.injEq,Prod.mk.injEq] at H
  obtain ⟨rfl,rfl,rfl⟩:=H
  go_enter Try.func31,Try.ntmps31
  go_wp2_with (first | (go_at_call 12;(refine (impl_GoodFlow.calls k _ _ l0 false _ HR0.out HC0.out A.out).mono ?_);rintro e w2 ⟨rfl,hb⟩;have HB2:=Aside0.mk hb;clear hb))
  go_ret3
  exact ⟨_,_,w2.heap.size,rfl,HB2.out.size,Nat.le_refl _,Kd.S_nil _ _ _ _ _,Kd.R_nil _ _ _ _ _,HB2.out⟩
 | true =>
  rw [if_pos rfl] at H
  obtain ⟨a,D1,H⟩:=Option.bind_eq_some_iff.mp H
  obtain ⟨a1,a2⟩:=a
  simp only [Option.some.injEq,Prod.mk.injEq] at H
  obtain ⟨rfl,rfl,rfl⟩:=H
  have D:=Aside0.mk D1
  clear D1
  go_enter Try.func31,Try.ntmps31
  go_wp2_with (first | (go_at_call 12;(refine (impl_GoodFlow.calls k _ _ l0 true _ HR0.out HC0.out A.out).mono ?_);rintro e w2 ⟨rfl,hb⟩;have HB2:=Aside0.mk hb;clear hb) | (go_at_call 55;(refine (impl_trim.calls k _ _ l0 a1 a2 _ (Kd.C_below HR0.out HB2.out) HC0.out D.out).mono ?_);rintro e w3 ⟨v3,v4,m,rfl,hm1,hm2,ho1,ho2,hb⟩;have HM1:=Aside0.mk hm1;have HM2:=Aside0.mk hm2;have HS1:=Aside0.mk ho1;have HS2:=Aside0.mk (Kd.R_lower ho2 HB2.out.size);have HB3:=Aside0.mk (below_step HB2.out hb);clear ho1 ho2 hb hm1 hm2))
  go_ret3
  exact ⟨_,_,m,rfl,Nat.le_trans HB2.out.size HM1.out,HM2.out,HS1.out,HS2.out,HB3.out⟩

/-! ### laws_heldFlatS: function 56 -/
def laws_heldFlatS.l0 : Nat → List (S79) → Int → Int → Option (Int)
 | 0,_,_,_ => none
 | k + 1,x0,x1,x5 => if x5 < (x0.length : Int) then (if 0 ≤ x5 then (if ((rd_T79 x0 x5).f0) = x1 then (if ((rd_T79 x0 x5).f1) = (wrap64 (x1 + 1)) then (if ((rd_T79 x0 x5).f2) = (wrap64 ((wrap64 (x1 + 1)) + 1)) then (if ((rd_T79 x0 x5).f3) = (wrap64 ((wrap64 ((wrap64 (x1 + 1)) + 1)) + 1)) then (if ((rd_T79 x0 x5).f4) = (wrap64 ((wrap64 ((wrap64 ((wrap64 (x1 + 1)) + 1)) + 1)) + 1)) then (if ((rd_T79 x0 x5).f5) = (wrap64 ((wrap64 ((wrap64 ((wrap64 ((wrap64 (x1 + 1)) + 1)) + 1)) + 1)) + 1)) then (laws_heldFlatS.l0 k x0 (wrap64 ((wrap64 ((wrap64 ((wrap64 ((wrap64 ((wrap64 (x1 + 1)) + 1)) + 1)) + 1)) + 1)) + 1)) (wrap64 (x5 + 1))) else (some (-1))) else (some (-1))) else (some (-1))) else (some (-1))) else (some (-1))) else (some (-1))) else (none)) else (some x1)
def laws_heldFlatS.f (k : Nat) (l0 : List (S79)) (a1 : Int) : Option (Int):=laws_heldFlatS.l0 k l0 a1 0
theorem laws_heldFlatS.mono_l : ∀ k,(∀ y0 y1 y2,LeO (laws_heldFlatS.l0 k y0 y1 y2) (laws_heldFlatS.l0 (k + 1) y0 y1 y2))
 | 0 => fun _ _ _ r h => by simp [laws_heldFlatS.l0] at h
 | k + 1 => by
  have ih0:=laws_heldFlatS.mono_l k
  ·intro y0 y1 y2
   unfold laws_heldFlatS.l0
   repeat' first
   | (with_reducible exact ih0 _ _ _)
   | (with_reducible exact LeO.refl _)
   | (with_reducible exact LeO.none _)
   | (with_reducible refine LeO.ite ?_ ?_)
   | (with_reducible refine LeO.bind ?_ (fun _ => ?_))
   | exact ih0 _ _ _
   | exact LeO.none _
   | refine LeO.ite ?_ ?_
   | refine LeO.bind ?_ (fun _ => ?_)
theorem laws_heldFlatS.mono : ∀ a0 a1 k,LeO (laws_heldFlatS.f k a0 a1) (laws_heldFlatS.f (k + 1) a0 a1):=by
 intro a0 a1 k
 have ih0:=laws_heldFlatS.mono_l k
 unfold laws_heldFlatS.f
 repeat' first
   | (with_reducible exact ih0 _ _ _)
   | (with_reducible exact LeO.refl _)
   | (with_reducible exact LeO.none _)
   | (with_reducible refine LeO.ite ?_ ?_)
   | (with_reducible refine LeO.bind ?_ (fun _ => ?_))
   | exact ih0 _ _ _
   | exact LeO.none _
   | refine LeO.ite ?_ ?_
   | refine LeO.bind ?_ (fun _ => ?_)
set_option maxHeartbeats 8000000 in
set_option maxRecDepth 100000 in
theorem laws_heldFlatS.calls (k : Nat) (A0 : Option Addr) (c0 : Nat) (l0 : List (S79)) (a1 : Int) (r : Int) (w : World) (hr0 : Kd.C k79 w A0 l0.length l0) (hc0 : l0.length ≤ c0) (h : laws_heldFlatS.f k l0 a1 = some r) :
  Calls Try.prog 56 #[.slice A0 l0.length c0,.int .i64 a1] w fun e w' => e = .returned (.int .i64 r) ∧ Drawn0 w w':=by
 have HR0:=Aside0.mk hr0
 have HC0:=Aside0.mk hc0
 clear hr0 hc0
 have H : (laws_heldFlatS.l0 k l0 a1 0) = some r:=h
 clear h
 have H':=Aside0.mk H
 clear H
 go_enter Try.func56,Try.ntmps56
 go_wp2
 go_loopg [1,5] k (fun kq v1 v5 w' => ∃ (x1_1 : Int) (x5_1 : Int),v1 = .int .i64 x1_1 ∧ v5 = .int .i64 x5_1 ∧ Aside0 (laws_heldFlatS.l0 kq l0 x1_1 x5_1 = some r) ∧ Aside0 (kq ≤ k) ∧ Drawn0 w w')
 case atStart => exact ⟨(a1),(0),(by first | rfl | (simp;done) | (simp [*];done)),(by first | rfl | (simp;done) | (simp [*];done)),H',⟨Nat.le_refl _⟩,by repeat (first | exact Drawn0.refl _ | apply Drawn0.step)⟩
 case round =>
  clear H'
  try clear p2
  obtain ⟨x1_1,x5_1,rfl,rfl,HA,HK1,⟨m1,rfl⟩⟩:=hrel
  cases gk with
  | zero => exact absurd HA.out (by simp [laws_heldFlatS.l0])
  | succ k1 =>
   have H:=HA.out
   clear HA
   simp only [laws_heldFlatS.l0] at H
   by_cases c3 : x5_1 < (l0.length : Int)
   ·rw [if_pos c3] at H
    have c3b0 : decide (x5_1 < (l0.length : Int)) = true:=decide_eq_true c3
    clear c3
    by_cases c4 : 0 ≤ x5_1
    ·rw [if_pos c4] at H
     have c4b0 : decide (0 ≤ x5_1) = true:=decide_eq_true c4
     clear c4
     by_cases c5 : ((rd_T79 l0 x5_1).f0) = x1_1
     ·rw [if_pos c5] at H
      have c5b0 : (((rd_T79 l0 x5_1).f0) == x1_1) = true:=beq_iff_eq.mpr c5
      have c5b1 : (((rd_T79 l0 x5_1).f0) != x1_1) = false:=bne_eq_false_iff_eq.mpr c5
      clear c5
      by_cases c6 : ((rd_T79 l0 x5_1).f1) = (wrap64 (x1_1 + 1))
      ·rw [if_pos c6] at H
       have c6b0 : (((rd_T79 l0 x5_1).f1) == (wrap64 (x1_1 + 1))) = true:=beq_iff_eq.mpr c6
       have c6b1 : (((rd_T79 l0 x5_1).f1) != (wrap64 (x1_1 + 1))) = false:=bne_eq_false_iff_eq.mpr c6
       clear c6
       by_cases c7 : ((rd_T79 l0 x5_1).f2) = (wrap64 ((wrap64 (x1_1 + 1)) + 1))
       ·rw [if_pos c7] at H
        have c7b0 : (((rd_T79 l0 x5_1).f2) == (wrap64 ((wrap64 (x1_1 + 1)) + 1))) = true:=beq_iff_eq.mpr c7
        have c7b1 : (((rd_T79 l0 x5_1).f2) != (wrap64 ((wrap64 (x1_1 + 1)) + 1))) = false:=bne_eq_false_iff_eq.mpr c7
        clear c7
        by_cases c8 : ((rd_T79 l0 x5_1).f3) = (wrap64 ((wrap64 ((wrap64 (x1_1 + 1)) + 1)) + 1))
        ·rw [if_pos c8] at H
         have c8b0 : (((rd_T79 l0 x5_1).f3) == (wrap64 ((wrap64 ((wrap64 (x1_1 + 1)) + 1)) + 1))) = true:=beq_iff_eq.mpr c8
         have c8b1 : (((rd_T79 l0 x5_1).f3) != (wrap64 ((wrap64 ((wrap64 (x1_1 + 1)) + 1)) + 1))) = false:=bne_eq_false_iff_eq.mpr c8
         clear c8
         by_cases c9 : ((rd_T79 l0 x5_1).f4) = (wrap64 ((wrap64 ((wrap64 ((wrap64 (x1_1 + 1)) + 1)) + 1)) + 1))
         ·rw [if_pos c9] at H
          have c9b0 : (((rd_T79 l0 x5_1).f4) == (wrap64 ((wrap64 ((wrap64 ((wrap64 (x1_1 + 1)) + 1)) + 1)) + 1))) = true:=beq_iff_eq.mpr c9
          have c9b1 : (((rd_T79 l0 x5_1).f4) != (wrap64 ((wrap64 ((wrap64 ((wrap64 (x1_1 + 1)) + 1)) + 1)) + 1))) = false:=bne_eq_false_iff_eq.mpr c9
          clear c9
          by_cases c10 : ((rd_T79 l0 x5_1).f5) = (wrap64 ((wrap64 ((wrap64 ((wrap64 ((wrap64 (x1_1 + 1)) + 1)) + 1)) + 1)) + 1))
          ·rw [if_pos c10] at H
           have c10b0 : (((rd_T79 l0 x5_1).f5) == (wrap64 ((wrap64 ((wrap64 ((wrap64 ((wrap64 (x1_1 + 1)) + 1)) + 1)) + 1)) + 1))) = true:=beq_iff_eq.mpr c10
           have c10b1 : (((rd_T79 l0 x5_1).f5) != (wrap64 ((wrap64 ((wrap64 ((wrap64 ((wrap64 (x1_1 + 1)) + 1)) + 1)) + 1)) + 1))) = false:=bne_eq_false_iff_eq.mpr c10
           clear c10
           have H':=Aside0.mk H
           clear H
           have p316 : 0 ≤ (x5_1 : Int):=of_decide_eq_true (by first | (with_reducible assumption) | assumption)
           have q316 : x5_1 < (l0.length : Int):=of_decide_eq_true (by first | (with_reducible assumption) | assumption)
           obtain ⟨ad316,e316,hx316_0,hx316_1,hx316_2,hx316_3,hx316_4,hx316_5⟩:=at_T79 HR0.out x5_1 p316 q316
           cases e316
           replace p316:=eq_true p316
           replace q316:=eq_true q316
           have p317 : 0 ≤ (x5_1 : Int):=of_decide_eq_true (by first | (with_reducible assumption) | assumption)
           have q317 : x5_1 < (l0.length : Int):=of_decide_eq_true (by first | (with_reducible assumption) | assumption)
           obtain ⟨ad317,e317,hx317_0,hx317_1,hx317_2,hx317_3,hx317_4,hx317_5⟩:=at_T79 HR0.out x5_1 p317 q317
           obtain rfl : ad316 = ad317:=(by injection e317)
           replace p317:=eq_true p317
           replace q317:=eq_true q317
           have p318 : 0 ≤ (x5_1 : Int):=of_decide_eq_true (by first | (with_reducible assumption) | assumption)
           have q318 : x5_1 < (l0.length : Int):=of_decide_eq_true (by first | (with_reducible assumption) | assumption)
           obtain ⟨ad318,e318,hx318_0,hx318_1,hx318_2,hx318_3,hx318_4,hx318_5⟩:=at_T79 HR0.out x5_1 p318 q318
           obtain rfl : ad316 = ad318:=(by injection e318)
           replace p318:=eq_true p318
           replace q318:=eq_true q318
           have p319 : 0 ≤ (x5_1 : Int):=of_decide_eq_true (by first | (with_reducible assumption) | assumption)
           have q319 : x5_1 < (l0.length : Int):=of_decide_eq_true (by first | (with_reducible assumption) | assumption)
           obtain ⟨ad319,e319,hx319_0,hx319_1,hx319_2,hx319_3,hx319_4,hx319_5⟩:=at_T79 HR0.out x5_1 p319 q319
           obtain rfl : ad316 = ad319:=(by injection e319)
           replace p319:=eq_true p319
           replace q319:=eq_true q319
           have p320 : 0 ≤ (x5_1 : Int):=of_decide_eq_true (by first | (with_reducible assumption) | assumption)
           have q320 : x5_1 < (l0.length : Int):=of_decide_eq_true (by first | (with_reducible assumption) | assumption)
           obtain ⟨ad320,e320,hx320_0,hx320_1,hx320_2,hx320_3,hx320_4,hx320_5⟩:=at_T79 HR0.out x5_1 p320 q320
           obtain rfl : ad316 = ad320:=(by injection e320)
           replace p320:=eq_true p320
           replace q320:=eq_true q320
           have p321 : 0 ≤ (x5_1 : Int):=of_decide_eq_true (by first | (with_reducible assumption) | assumption)
           have q321 : x5_1 < (l0.length : Int):=of_decide_eq_true (by first | (with_reducible assumption) | assumption)
           obtain ⟨ad321,e321,hx321_0,hx321_1,hx321_2,hx321_3,hx321_4,hx321_5⟩:=at_T79 HR0.out x5_1 p321 q321
           obtain rfl : ad316 = ad321:=(by injection e321)
           replace p321:=eq_true p321
           replace q321:=eq_true q321
           go_wp2
           go_roundg k1
           case measure => have:=HK1.out;omega
           case rel => exact ⟨(wrap64 ((wrap64 ((wrap64 ((wrap64 ((wrap64 ((wrap64 (x1_1 + 1)) + 1)) + 1)) + 1)) + 1)) + 1)),(wrap64 (x5_1 + 1)),(by first | rfl | (simp;done) | (simp [*];done)),(by first | rfl | (simp;done) | (simp [*];done)),H',⟨by have:=HK1.out;omega⟩,by repeat (first | exact Drawn0.refl _ | apply Drawn0.step)⟩
          ·rw [if_neg c10] at H
           have c10b0 : (((rd_T79 l0 x5_1).f5) == (wrap64 ((wrap64 ((wrap64 ((wrap64 ((wrap64 (x1_1 + 1)) + 1)) + 1)) + 1)) + 1))) = false:=beq_eq_false_iff_ne.mpr c10
           have c10b1 : (((rd_T79 l0 x5_1).f5) != (wrap64 ((wrap64 ((wrap64 ((wrap64 ((wrap64 (x1_1 + 1)) + 1)) + 1)) + 1)) + 1))) = true:=bne_iff_ne.mpr c10
           obtain rfl:=Option.some.inj H
           have p316 : 0 ≤ (x5_1 : Int):=of_decide_eq_true (by first | (with_reducible assumption) | assumption)
           have q316 : x5_1 < (l0.length : Int):=of_decide_eq_true (by first | (with_reducible assumption) | assumption)
           obtain ⟨ad316,e316,hx316_0,hx316_1,hx316_2,hx316_3,hx316_4,hx316_5⟩:=at_T79 HR0.out x5_1 p316 q316
           cases e316
           replace p316:=eq_true p316
           replace q316:=eq_true q316
           have p317 : 0 ≤ (x5_1 : Int):=of_decide_eq_true (by first | (with_reducible assumption) | assumption)
           have q317 : x5_1 < (l0.length : Int):=of_decide_eq_true (by first | (with_reducible assumption) | assumption)
           obtain ⟨ad317,e317,hx317_0,hx317_1,hx317_2,hx317_3,hx317_4,hx317_5⟩:=at_T79 HR0.out x5_1 p317 q317
           obtain rfl : ad316 = ad317:=(by injection e317)
           replace p317:=eq_true p317
           replace q317:=eq_true q317
           have p318 : 0 ≤ (x5_1 : Int):=of_decide_eq_true (by first | (with_reducible assumption) | assumption)
           have q318 : x5_1 < (l0.length : Int):=of_decide_eq_true (by first | (with_reducible assumption) | assumption)
           obtain ⟨ad318,e318,hx318_0,hx318_1,hx318_2,hx318_3,hx318_4,hx318_5⟩:=at_T79 HR0.out x5_1 p318 q318
           obtain rfl : ad316 = ad318:=(by injection e318)
           replace p318:=eq_true p318
           replace q318:=eq_true q318
           have p319 : 0 ≤ (x5_1 : Int):=of_decide_eq_true (by first | (with_reducible assumption) | assumption)
           have q319 : x5_1 < (l0.length : Int):=of_decide_eq_true (by first | (with_reducible assumption) | assumption)
           obtain ⟨ad319,e319,hx319_0,hx319_1,hx319_2,hx319_3,hx319_4,hx319_5⟩:=at_T79 HR0.out x5_1 p319 q319
           obtain rfl : ad316 = ad319:=(by injection e319)
           replace p319:=eq_true p319
           replace q319:=eq_true q319
           have p320 : 0 ≤ (x5_1 : Int):=of_decide_eq_true (by first | (with_reducible assumption) | assumption)
           have q320 : x5_1 < (l0.length : Int):=of_decide_eq_true (by first | (with_reducible assumption) | assumption)
           obtain ⟨ad320,e320,hx320_0,hx320_1,hx320_2,hx320_3,hx320_4,hx320_5⟩:=at_T79 HR0.out x5_1 p320 q320
           obtain rfl : ad316 = ad320:=(by injection e320)
           replace p320:=eq_true p320
           replace q320:=eq_true q320
           have p321 : 0 ≤ (x5_1 : Int):=of_decide_eq_true (by first | (with_reducible assumption) | assumption)
           have q321 : x5_1 < (l0.length : Int):=of_decide_eq_true (by first | (with_reducible assumption) | assumption)
           obtain ⟨ad321,e321,hx321_0,hx321_1,hx321_2,hx321_3,hx321_4,hx321_5⟩:=at_T79 HR0.out x5_1 p321 q321
           obtain rfl : ad316 = ad321:=(by injection e321)
           replace p321:=eq_true p321
           replace q321:=eq_true q321
           go_wp2
           go_ret
           exact ⟨by first | rfl | (simp;done) | (simp [*];done),by repeat (first | exact Drawn0.refl _ | apply Drawn0.step)⟩
         ·rw [if_neg c9] at H
          have c9b0 : (((rd_T79 l0 x5_1).f4) == (wrap64 ((wrap64 ((wrap64 ((wrap64 (x1_1 + 1)) + 1)) + 1)) + 1))) = false:=beq_eq_false_iff_ne.mpr c9
          have c9b1 : (((rd_T79 l0 x5_1).f4) != (wrap64 ((wrap64 ((wrap64 ((wrap64 (x1_1 + 1)) + 1)) + 1)) + 1))) = true:=bne_iff_ne.mpr c9
          obtain rfl:=Option.some.inj H
          have p316 : 0 ≤ (x5_1 : Int):=of_decide_eq_true (by first | (with_reducible assumption) | assumption)
          have q316 : x5_1 < (l0.length : Int):=of_decide_eq_true (by first | (with_reducible assumption) | assumption)
          obtain ⟨ad316,e316,hx316_0,hx316_1,hx316_2,hx316_3,hx316_4,hx316_5⟩:=at_T79 HR0.out x5_1 p316 q316
          cases e316
          replace p316:=eq_true p316
          replace q316:=eq_true q316
          have p317 : 0 ≤ (x5_1 : Int):=of_decide_eq_true (by first | (with_reducible assumption) | assumption)
          have q317 : x5_1 < (l0.length : Int):=of_decide_eq_true (by first | (with_reducible assumption) | assumption)
          obtain ⟨ad317,e317,hx317_0,hx317_1,hx317_2,hx317_3,hx317_4,hx317_5⟩:=at_T79 HR0.out x5_1 p317 q317
          obtain rfl : ad316 = ad317:=(by injection e317)
          replace p317:=eq_true p317
          replace q317:=eq_true q317
          have p318 : 0 ≤ (x5_1 : Int):=of_decide_eq_true (by first | (with_reducible assumption) | assumption)
          have q318 : x5_1 < (l0.length : Int):=of_decide_eq_true (by first | (with_reducible assumption) | assumption)
          obtain ⟨ad318,e318,hx318_0,hx318_1,hx318_2,hx318_3,hx318_4,hx318_5⟩:=at_T79 HR0.out x5_1 p318 q318
          obtain rfl : ad316 = ad318:=(by injection e318)
          replace p318:=eq_true p318
          replace q318:=eq_true q318
          have p319 : 0 ≤ (x5_1 : Int):=of_decide_eq_true (by first | (with_reducible assumption) | assumption)
          have q319 : x5_1 < (l0.length : Int):=of_decide_eq_true (by first | (with_reducible assumption) | assumption)
          obtain ⟨ad319,e319,hx319_0,hx319_1,hx319_2,hx319_3,hx319_4,hx319_5⟩:=at_T79 HR0.out x5_1 p319 q319
          obtain rfl : ad316 = ad319:=(by injection e319)
          replace p319:=eq_true p319
          replace q319:=eq_true q319
          have p320 : 0 ≤ (x5_1 : Int):=of_decide_eq_true (by first | (with_reducible assumption) | assumption)
          have q320 : x5_1 < (l0.length : Int):=of_decide_eq_true (by first | (with_reducible assumption) | assumption)
          obtain ⟨ad320,e320,hx320_0,hx320_1,hx320_2,hx320_3,hx320_4,hx320_5⟩:=at_T79 HR0.out x5_1 p320 q320
          obtain rfl : ad316 = ad320:=(by injection e320)
          replace p320:=eq_true p320
          replace q320:=eq_true q320
          go_wp2
          go_ret
          exact ⟨by first | rfl | (simp;done) | (simp [*];done),by repeat (first | exact Drawn0.refl _ | apply Drawn0.step)⟩
        ·rw [if_neg c8] at H
         have c8b0 : (((rd_T79 l0 x5_1).f3) == (wrap64 ((wrap64 ((wrap64 (x1_1 + 1)) + 1)) + 1))) = false:=beq_eq_false_iff_ne.mpr c8
         have c8b1 : (((rd_T79 l0 x5_1).f3) != (wrap64 ((wrap64 ((wrap64 (x1_1 + 1)) + 1)) + 1))) = true:=bne_iff_ne.mpr c8
         obtain rfl:=Option.some.inj H
         have p316 : 0 ≤ (x5_1 : Int):=of_decide_eq_true (by first | (with_reducible assumption) | assumption)
         have q316 : x5_1 < (l0.length : Int):=of_decide_eq_true (by first | (with_reducible assumption) | assumption)
         obtain ⟨ad316,e316,hx316_0,hx316_1,hx316_2,hx316_3,hx316_4,hx316_5⟩:=at_T79 HR0.out x5_1 p316 q316
         cases e316
         replace p316:=eq_true p316
         replace q316:=eq_true q316
         have p317 : 0 ≤ (x5_1 : Int):=of_decide_eq_true (by first | (with_reducible assumption) | assumption)
         have q317 : x5_1 < (l0.length : Int):=of_decide_eq_true (by first | (with_reducible assumption) | assumption)
         obtain ⟨ad317,e317,hx317_0,hx317_1,hx317_2,hx317_3,hx317_4,hx317_5⟩:=at_T79 HR0.out x5_1 p317 q317
         obtain rfl : ad316 = ad317:=(by injection e317)
         replace p317:=eq_true p317
         replace q317:=eq_true q317
         have p318 : 0 ≤ (x5_1 : Int):=of_decide_eq_true (by first | (with_reducible assumption) | assumption)
         have q318 : x5_1 < (l0.length : Int):=of_decide_eq_true (by first | (with_reducible assumption) | assumption)
         obtain ⟨ad318,e318,hx318_0,hx318_1,hx318_2,hx318_3,hx318_4,hx318_5⟩:=at_T79 HR0.out x5_1 p318 q318
         obtain rfl : ad316 = ad318:=(by injection e318)
         replace p318:=eq_true p318
         replace q318:=eq_true q318
         have p319 : 0 ≤ (x5_1 : Int):=of_decide_eq_true (by first | (with_reducible assumption) | assumption)
         have q319 : x5_1 < (l0.length : Int):=of_decide_eq_true (by first | (with_reducible assumption) | assumption)
         obtain ⟨ad319,e319,hx319_0,hx319_1,hx319_2,hx319_3,hx319_4,hx319_5⟩:=at_T79 HR0.out x5_1 p319 q319
         obtain rfl : ad316 = ad319:=(by injection e319)
         replace p319:=eq_true p319
         replace q319:=eq_true q319
         go_wp2
         go_ret
         exact ⟨by first | rfl | (simp;done) | (simp [*];done),by repeat (first | exact Drawn0.refl _ | apply Drawn0.step)⟩
       ·rw [if_neg c7] at H
        have c7b0 : (((rd_T79 l0 x5_1).f2) == (wrap64 ((wrap64 (x1_1 + 1)) + 1))) = false:=beq_eq_false_iff_ne.mpr c7
        have c7b1 : (((rd_T79 l0 x5_1).f2) != (wrap64 ((wrap64 (x1_1 + 1)) + 1))) = true:=bne_iff_ne.mpr c7
        obtain rfl:=Option.some.inj H
        have p316 : 0 ≤ (x5_1 : Int):=of_decide_eq_true (by first | (with_reducible assumption) | assumption)
        have q316 : x5_1 < (l0.length : Int):=of_decide_eq_true (by first | (with_reducible assumption) | assumption)
        obtain ⟨ad316,e316,hx316_0,hx316_1,hx316_2,hx316_3,hx316_4,hx316_5⟩:=at_T79 HR0.out x5_1 p316 q316
        cases e316
        replace p316:=eq_true p316
        replace q316:=eq_true q316
        have p317 : 0 ≤ (x5_1 : Int):=of_decide_eq_true (by first | (with_reducible assumption) | assumption)
        have q317 : x5_1 < (l0.length : Int):=of_decide_eq_true (by first | (with_reducible assumption) | assumption)
        obtain ⟨ad317,e317,hx317_0,hx317_1,hx317_2,hx317_3,hx317_4,hx317_5⟩:=at_T79 HR0.out x5_1 p317 q317
        obtain rfl : ad316 = ad317:=(by injection e317)
        replace p317:=eq_true p317
        replace q317:=eq_true q317
        have p318 : 0 ≤ (x5_1 : Int):=of_decide_eq_true (by first | (with_reducible assumption) | assumption)
        have q318 : x5_1 < (l0.length : Int):=of_decide_eq_true (by first | (with_reducible assumption) | assumption)
        obtain ⟨ad318,e318,hx318_0,hx318_1,hx318_2,hx318_3,hx318_4,hx318_5⟩:=at_T79 HR0.out x5_1 p318 q318
        obtain rfl : ad316 = ad318:=(by injection e318)
        replace p318:=eq_true p318
        replace q318:=eq_true q318
        go_wp2
        go_ret
        exact ⟨by first | rfl | (simp;done) | (simp [*];done),by repeat (first | exact Drawn0.refl _ | apply Drawn0.step)⟩
      ·rw [if_neg c6] at H
       have c6b0 : (((rd_T79 l0 x5_1).f1) == (wrap64 (x1_1 + 1))) = false:=beq_eq_false_iff_ne.mpr c6
       have c6b1 : (((rd_T79 l0 x5_1).f1) != (wrap64 (x1_1 + 1))) = true:=bne_iff_ne.mpr c6
       obtain rfl:=Option.some.inj H
       have p316 : 0 ≤ (x5_1 : Int):=of_decide_eq_true (by first | (with_reducible assumption) | assumption)
       have q316 : x5_1 < (l0.length : Int):=of_decide_eq_true (by first | (with_reducible assumption) | assumption)
       obtain ⟨ad316,e316,hx316_0,hx316_1,hx316_2,hx316_3,hx316_4,hx316_5⟩:=at_T79 HR0.out x5_1 p316 q316
       cases e316
       replace p316:=eq_true p316
       replace q316:=eq_true q316
       have p317 : 0 ≤ (x5_1 : Int):=of_decide_eq_true (by first | (with_reducible assumption) | assumption)
       have q317 : x5_1 < (l0.length : Int):=of_decide_eq_true (by first | (with_reducible assumption) | assumption)
       obtain ⟨ad317,e317,hx317_0,hx317_1,hx317_2,hx317_3,hx317_4,hx317_5⟩:=at_T79 HR0.out x5_1 p317 q317
       obtain rfl : ad316 = ad317:=(by injection e317)
       replace p317:=eq_true p317
       replace q317:=eq_true q317
       go_wp2
       go_ret
       exact ⟨by first | rfl | (simp;done) | (simp [*];done),by repeat (first | exact Drawn0.refl _ | apply Drawn0.step)⟩
     ·rw [if_neg c5] at H
      have c5b0 : (((rd_T79 l0 x5_1).f0) == x1_1) = false:=beq_eq_false_iff_ne.mpr c5
      have c5b1 : (((rd_T79 l0 x5_1).f0) != x1_1) = true:=bne_iff_ne.mpr c5
      obtain rfl:=Option.some.inj H
      have p316 : 0 ≤ (x5_1 : Int):=of_decide_eq_true (by first | (with_reducible assumption) | assumption)
      have q316 : x5_1 < (l0.length : Int):=of_decide_eq_true (by first | (with_reducible assumption) | assumption)
      obtain ⟨ad316,e316,hx316_0,hx316_1,hx316_2,hx316_3,hx316_4,hx316_5⟩:=at_T79 HR0.out x5_1 p316 q316
      cases e316
      replace p316:=eq_true p316
      replace q316:=eq_true q316
      go_wp2
      go_ret
      exact ⟨by first | rfl | (simp;done) | (simp [*];done),by repeat (first | exact Drawn0.refl _ | apply Drawn0.step)⟩
    ·rw [if_neg c4] at H
     exact absurd H (by simp)
   ·rw [if_neg c3] at H
    have c3b0 : decide (x5_1 < (l0.length : Int)) = false:=decide_eq_false c3
    clear c3
    obtain rfl:=Option.some.inj H
    go_wp2
    go_ret
    exact ⟨by first | rfl | (simp;done) | (simp [*];done),by repeat (first | exact Drawn0.refl _ | apply Drawn0.step)⟩

/-! ### laws_heldBlockS: function 32 -/
def laws_heldBlockS.l0 : Nat → List (S56) → Int → Int → Option (Int)
 | 0,_,_,_ => none
 | k + 1,x0,x1,x5 => if x5 < (x0.length : Int) then (if 0 ≤ x5 then ((laws_heldFlatS.f k ((rd_T56 x0 x5).f0) x1).bind fun t323 => (if t323 < 0 then (some (-1)) else (if ((rd_T56 x0 x5).f1) = t323 then (if ((rd_T56 x0 x5).f2) = (wrap64 (t323 + 1)) then ((laws_heldIntS.f k ((rd_T56 x0 x5).f3) (wrap64 ((wrap64 (t323 + 1)) + 1))).bind fun t327 => (if t327 < 0 then (some (-1)) else (laws_heldBlockS.l0 k x0 t327 (wrap64 (x5 + 1))))) else (some (-1))) else (some (-1))))) else (none)) else (some x1)
def laws_heldBlockS.f (k : Nat) (l0 : List (S56)) (a1 : Int) : Option (Int):=laws_heldBlockS.l0 k l0 a1 0
theorem laws_heldBlockS.mono_l : ∀ k,(∀ y0 y1 y2,LeO (laws_heldBlockS.l0 k y0 y1 y2) (laws_heldBlockS.l0 (k + 1) y0 y1 y2))
 | 0 => fun _ _ _ r h => by simp [laws_heldBlockS.l0] at h
 | k + 1 => by
  have ih0:=laws_heldBlockS.mono_l k
  ·intro y0 y1 y2
   unfold laws_heldBlockS.l0
   repeat' first
   | (with_reducible exact ih0 _ _ _)
   | (with_reducible exact laws_heldFlatS.mono _ _ _)
   | (with_reducible exact laws_heldIntS.mono _ _ _)
   | (with_reducible exact LeO.refl _)
   | (with_reducible exact LeO.none _)
   | (with_reducible refine LeO.ite ?_ ?_)
   | (with_reducible refine LeO.bind ?_ (fun _ => ?_))
   | exact ih0 _ _ _
   | exact laws_heldFlatS.mono _ _ _
   | exact laws_heldIntS.mono _ _ _
   | exact LeO.none _
   | refine LeO.ite ?_ ?_
   | refine LeO.bind ?_ (fun _ => ?_)
theorem laws_heldBlockS.mono : ∀ a0 a1 k,LeO (laws_heldBlockS.f k a0 a1) (laws_heldBlockS.f (k + 1) a0 a1):=by
 intro a0 a1 k
 have ih0:=laws_heldBlockS.mono_l k
 unfold laws_heldBlockS.f
 repeat' first
   | (with_reducible exact ih0 _ _ _)
   | (with_reducible exact laws_heldFlatS.mono _ _ _)
   | (with_reducible exact laws_heldIntS.mono _ _ _)
   | (with_reducible exact LeO.refl _)
   | (with_reducible exact LeO.none _)
   | (with_reducible refine LeO.ite ?_ ?_)
   | (with_reducible refine LeO.bind ?_ (fun _ => ?_))
   | exact ih0 _ _ _
   | exact laws_heldFlatS.mono _ _ _
   | exact laws_heldIntS.mono _ _ _
   | exact LeO.none _
   | refine LeO.ite ?_ ?_
   | refine LeO.bind ?_ (fun _ => ?_)
set_option maxHeartbeats 8000000 in
set_option maxRecDepth 100000 in
theorem laws_heldBlockS.calls (k : Nat) (A0 : Option Addr) (c0 : Nat) (l0 : List (S56)) (a1 : Int) (r : Int) (w : World) (hr0 : Kd.C k56 w A0 l0.length l0) (hc0 : l0.length ≤ c0) (h : laws_heldBlockS.f k l0 a1 = some r) :
  Calls Try.prog 32 #[.slice A0 l0.length c0,.int .i64 a1] w fun e w' => e = .returned (.int .i64 r) ∧ Drawn0 w w':=by
 have HR0:=Aside0.mk hr0
 have HC0:=Aside0.mk hc0
 clear hr0 hc0
 have H : (laws_heldBlockS.l0 k l0 a1 0) = some r:=h
 clear h
 have H':=Aside0.mk H
 clear H
 go_enter Try.func32,Try.ntmps32
 go_wp2
 go_loopg [1,5] k (fun kq v1 v5 w' => ∃ (x1_1 : Int) (x5_1 : Int),v1 = .int .i64 x1_1 ∧ v5 = .int .i64 x5_1 ∧ Aside0 (laws_heldBlockS.l0 kq l0 x1_1 x5_1 = some r) ∧ Aside0 (kq ≤ k) ∧ Drawn0 w w')
 case atStart => exact ⟨(a1),(0),(by first | rfl | (simp;done) | (simp [*];done)),(by first | rfl | (simp;done) | (simp [*];done)),H',⟨Nat.le_refl _⟩,by repeat (first | exact Drawn0.refl _ | apply Drawn0.step)⟩
 case round =>
  clear H'
  try clear p2
  obtain ⟨x1_1,x5_1,rfl,rfl,HA,HK1,⟨m1,rfl⟩⟩:=hrel
  cases gk with
  | zero => exact absurd HA.out (by simp [laws_heldBlockS.l0])
  | succ k1 =>
   have H:=HA.out
   clear HA
   simp only [laws_heldBlockS.l0] at H
   by_cases c3 : x5_1 < (l0.length : Int)
   ·rw [if_pos c3] at H
    have c3b0 : decide (x5_1 < (l0.length : Int)) = true:=decide_eq_true c3
    clear c3
    by_cases c4 : 0 ≤ x5_1
    ·rw [if_pos c4] at H
     have c4b0 : decide (0 ≤ x5_1) = true:=decide_eq_true c4
     clear c4
     replace H:=Option.bind_eq_some_iff.mp H
     obtain ⟨t323,A50,H⟩:=H
     replace H : (if t323 < 0 then (some (-1)) else (if ((rd_T56 l0 x5_1).f1) = t323 then (if ((rd_T56 l0 x5_1).f2) = (wrap64 (t323 + 1)) then ((laws_heldIntS.f k1 ((rd_T56 l0 x5_1).f3) (wrap64 ((wrap64 (t323 + 1)) + 1))).bind fun t327 => (if t327 < 0 then (some (-1)) else (laws_heldBlockS.l0 k1 l0 t327 (wrap64 (x5_1 + 1))))) else (some (-1))) else (some (-1)))) = some r:=H
     have A5:=Aside0.mk A50
     clear A50
     by_cases c6 : t323 < 0
     ·rw [if_pos c6] at H
      have c6b0 : decide (t323 < 0) = true:=decide_eq_true c6
      clear c6
      obtain rfl:=Option.some.inj H
      have p322 : 0 ≤ (x5_1 : Int):=of_decide_eq_true (by first | (with_reducible assumption) | assumption)
      have q322 : x5_1 < (l0.length : Int):=of_decide_eq_true (by first | (with_reducible assumption) | assumption)
      obtain ⟨ad322,A322_0,c322_0,A322_3,c322_3,e322,hx322_0,hx322_1,hx322_2,hx322_3,hl322_0,hi322_0,hl322_3,hi322_3⟩:=at_T56 HR0.out x5_1 p322 q322
      cases e322
      have HR322_0:=Aside0.mk hi322_0
      have HC322_0:=Aside0.mk hl322_0
      clear hi322_0 hl322_0
      have HR322_3:=Aside0.mk hi322_3
      have HC322_3:=Aside0.mk hl322_3
      clear hi322_3 hl322_3
      replace p322:=eq_true p322
      replace q322:=eq_true q322
      go_wp2_with (first | ((with_reducible refine gate_callee (f:=56) rfl ?_);refine goesL_ (some 18) rfl rfl Try.func56 (by kernel_rfl) rfl #[.slice A322_0 ((rd_T56 l0 x5_1).f0).length c322_0,.int .i64 x1_1] rfl (by (try simp only [List.map_toArray,List.map_cons,List.map_nil]);first | done | rfl | (simp only [List.length_drop,List.length_take];rfl)) ?_;(with_reducible refine (laws_heldFlatS.calls k1 _ _ ((rd_T56 l0 x5_1).f0) x1_1 t323 _ ?side1 ?side2 A5.out).mono ?_);(case side1 => repeat (first | exact HR322_0.out | (with_reducible refine Kd.C_alloc ?_ _) | (with_reducible refine Kd.C_drewN ?_ _) | (with_reducible refine Kd.C_drew ?_)));(case side2 => exact HC322_0.out);rintro e w' ⟨rfl,⟨nd,rfl⟩⟩;refine ⟨_,rfl,?_⟩))
      go_ret
      exact ⟨by first | rfl | (simp;done) | (simp [*];done),by repeat (first | exact Drawn0.refl _ | apply Drawn0.step)⟩
     ·rw [if_neg c6] at H
      have c6b0 : decide (t323 < 0) = false:=decide_eq_false c6
      clear c6
      by_cases c7 : ((rd_T56 l0 x5_1).f1) = t323
      ·rw [if_pos c7] at H
       have c7b0 : (((rd_T56 l0 x5_1).f1) == t323) = true:=beq_iff_eq.mpr c7
       have c7b1 : (((rd_T56 l0 x5_1).f1) != t323) = false:=bne_eq_false_iff_eq.mpr c7
       clear c7
       by_cases c8 : ((rd_T56 l0 x5_1).f2) = (wrap64 (t323 + 1))
       ·rw [if_pos c8] at H
        have c8b0 : (((rd_T56 l0 x5_1).f2) == (wrap64 (t323 + 1))) = true:=beq_iff_eq.mpr c8
        have c8b1 : (((rd_T56 l0 x5_1).f2) != (wrap64 (t323 + 1))) = false:=bne_eq_false_iff_eq.mpr c8
        clear c8
        replace H:=Option.bind_eq_some_iff.mp H
        obtain ⟨t327,A90,H⟩:=H
        replace H : (if t327 < 0 then (some (-1)) else (laws_heldBlockS.l0 k1 l0 t327 (wrap64 (x5_1 + 1)))) = some r:=H
        have A9:=Aside0.mk A90
        clear A90
        by_cases c10 : t327 < 0
        ·rw [if_pos c10] at H
         have c10b0 : decide (t327 < 0) = true:=decide_eq_true c10
         clear c10
         obtain rfl:=Option.some.inj H
         have p322 : 0 ≤ (x5_1 : Int):=of_decide_eq_true (by first | (with_reducible assumption) | assumption)
         have q322 : x5_1 < (l0.length : Int):=of_decide_eq_true (by first | (with_reducible assumption) | assumption)
         obtain ⟨ad322,A322_0,c322_0,A322_3,c322_3,e322,hx322_0,hx322_1,hx322_2,hx322_3,hl322_0,hi322_0,hl322_3,hi322_3⟩:=at_T56 HR0.out x5_1 p322 q322
         cases e322
         have HR322_0:=Aside0.mk hi322_0
         have HC322_0:=Aside0.mk hl322_0
         clear hi322_0 hl322_0
         have HR322_3:=Aside0.mk hi322_3
         have HC322_3:=Aside0.mk hl322_3
         clear hi322_3 hl322_3
         replace p322:=eq_true p322
         replace q322:=eq_true q322
         go_wp2_with (first | ((with_reducible refine gate_callee (f:=56) rfl ?_);refine goesL_ (some 18) rfl rfl Try.func56 (by kernel_rfl) rfl #[.slice A322_0 ((rd_T56 l0 x5_1).f0).length c322_0,.int .i64 x1_1] rfl (by (try simp only [List.map_toArray,List.map_cons,List.map_nil]);first | done | rfl | (simp only [List.length_drop,List.length_take];rfl)) ?_;(with_reducible refine (laws_heldFlatS.calls k1 _ _ ((rd_T56 l0 x5_1).f0) x1_1 t323 _ ?side1 ?side2 A5.out).mono ?_);(case side1 => repeat (first | exact HR322_0.out | (with_reducible refine Kd.C_alloc ?_ _) | (with_reducible refine Kd.C_drewN ?_ _) | (with_reducible refine Kd.C_drew ?_)));(case side2 => exact HC322_0.out);rintro e w' ⟨rfl,⟨nd,rfl⟩⟩;refine ⟨_,rfl,?_⟩;have p324 : 0 ≤ (x5_1 : Int):=of_decide_eq_true (by first | (with_reducible assumption) | assumption);have q324 : x5_1 < (l0.length : Int):=of_decide_eq_true (by first | (with_reducible assumption) | assumption);obtain ⟨ad324,A324_0,c324_0,A324_3,c324_3,e324,hx324_0,hx324_1,hx324_2,hx324_3,hl324_0,hi324_0,hl324_3,hi324_3⟩:=at_T56 HR0.out x5_1 p324 q324;obtain rfl : ad322 = ad324:=(by injection e324);have HR324_0:=Aside0.mk hi324_0;have HC324_0:=Aside0.mk hl324_0;clear hi324_0 hl324_0;have HR324_3:=Aside0.mk hi324_3;have HC324_3:=Aside0.mk hl324_3;clear hi324_3 hl324_3;replace p324:=eq_true p324;replace q324:=eq_true q324;have ea_:=Option.some.inj (hx322_0.symm.trans hx324_0);injection ea_ with ea_ en_ ec_;subst ea_;subst ec_;clear en_;have ea_:=Option.some.inj (hx322_3.symm.trans hx324_3);injection ea_ with ea_ en_ ec_;subst ea_;subst ec_;clear en_;have p325 : 0 ≤ (x5_1 : Int):=of_decide_eq_true (by first | (with_reducible assumption) | assumption);have q325 : x5_1 < (l0.length : Int):=of_decide_eq_true (by first | (with_reducible assumption) | assumption);obtain ⟨ad325,A325_0,c325_0,A325_3,c325_3,e325,hx325_0,hx325_1,hx325_2,hx325_3,hl325_0,hi325_0,hl325_3,hi325_3⟩:=at_T56 HR0.out x5_1 p325 q325;obtain rfl : ad322 = ad325:=(by injection e325);have HR325_0:=Aside0.mk hi325_0;have HC325_0:=Aside0.mk hl325_0;clear hi325_0 hl325_0;have HR325_3:=Aside0.mk hi325_3;have HC325_3:=Aside0.mk hl325_3;clear hi325_3 hl325_3;replace p325:=eq_true p325;replace q325:=eq_true q325;have ea_:=Option.some.inj (hx322_0.symm.trans hx325_0);injection ea_ with ea_ en_ ec_;subst ea_;subst ec_;clear en_;have ea_:=Option.some.inj (hx322_3.symm.trans hx325_3);injection ea_ with ea_ en_ ec_;subst ea_;subst ec_;clear en_;have p326 : 0 ≤ (x5_1 : Int):=of_decide_eq_true (by first | (with_reducible assumption) | assumption);have q326 : x5_1 < (l0.length : Int):=of_decide_eq_true (by first | (with_reducible assumption) | assumption);obtain ⟨ad326,A326_0,c326_0,A326_3,c326_3,e326,hx326_0,hx326_1,hx326_2,hx326_3,hl326_0,hi326_0,hl326_3,hi326_3⟩:=at_T56 HR0.out x5_1 p326 q326;obtain rfl : ad322 = ad326:=(by injection e326);have HR326_0:=Aside0.mk hi326_0;have HC326_0:=Aside0.mk hl326_0;clear hi326_0 hl326_0;have HR326_3:=Aside0.mk hi326_3;have HC326_3:=Aside0.mk hl326_3;clear hi326_3 hl326_3;replace p326:=eq_true p326;replace q326:=eq_true q326;have ea_:=Option.some.inj (hx322_0.symm.trans hx326_0);injection ea_ with ea_ en_ ec_;subst ea_;subst ec_;clear en_;have ea_:=Option.some.inj (hx322_3.symm.trans hx326_3);injection ea_ with ea_ en_ ec_;subst ea_;subst ec_;clear en_) | ((with_reducible refine gate_callee (f:=24) rfl ?_);refine goesL_ (some 45) rfl rfl Try.func24 (by kernel_rfl) rfl #[.slice A322_3 ((rd_T56 l0 x5_1).f3).length c322_3,.int .i64 (wrap64 ((wrap64 (t323 + 1)) + 1))] rfl (by (try simp only [List.map_toArray,List.map_cons,List.map_nil]);first | done | rfl | (simp only [List.length_drop,List.length_take];rfl)) ?_;(with_reducible refine (laws_heldIntS.calls k1 _ _ ((rd_T56 l0 x5_1).f3) (wrap64 ((wrap64 (t323 + 1)) + 1)) t327 _ ?side1 ?side2 A9.out).mono ?_);(case side1 => repeat (first | exact HR326_3.out | (with_reducible refine Kd.C_alloc ?_ _) | (with_reducible refine Kd.C_drewN ?_ _) | (with_reducible refine Kd.C_drew ?_)));(case side2 => exact HC326_3.out);rintro e w' ⟨rfl,⟨nd,rfl⟩⟩;refine ⟨_,rfl,?_⟩))
         go_ret
         exact ⟨by first | rfl | (simp;done) | (simp [*];done),by repeat (first | exact Drawn0.refl _ | apply Drawn0.step)⟩
        ·rw [if_neg c10] at H
         have c10b0 : decide (t327 < 0) = false:=decide_eq_false c10
         clear c10
         have H':=Aside0.mk H
         clear H
         have p322 : 0 ≤ (x5_1 : Int):=of_decide_eq_true (by first | (with_reducible assumption) | assumption)
         have q322 : x5_1 < (l0.length : Int):=of_decide_eq_true (by first | (with_reducible assumption) | assumption)
         obtain ⟨ad322,A322_0,c322_0,A322_3,c322_3,e322,hx322_0,hx322_1,hx322_2,hx322_3,hl322_0,hi322_0,hl322_3,hi322_3⟩:=at_T56 HR0.out x5_1 p322 q322
         cases e322
         have HR322_0:=Aside0.mk hi322_0
         have HC322_0:=Aside0.mk hl322_0
         clear hi322_0 hl322_0
         have HR322_3:=Aside0.mk hi322_3
         have HC322_3:=Aside0.mk hl322_3
         clear hi322_3 hl322_3
         replace p322:=eq_true p322
         replace q322:=eq_true q322
         go_wp2_with (first | ((with_reducible refine gate_callee (f:=56) rfl ?_);refine goesL_ (some 18) rfl rfl Try.func56 (by kernel_rfl) rfl #[.slice A322_0 ((rd_T56 l0 x5_1).f0).length c322_0,.int .i64 x1_1] rfl (by (try simp only [List.map_toArray,List.map_cons,List.map_nil]);first | done | rfl | (simp only [List.length_drop,List.length_take];rfl)) ?_;(with_reducible refine (laws_heldFlatS.calls k1 _ _ ((rd_T56 l0 x5_1).f0) x1_1 t323 _ ?side1 ?side2 A5.out).mono ?_);(case side1 => repeat (first | exact HR322_0.out | (with_reducible refine Kd.C_alloc ?_ _) | (with_reducible refine Kd.C_drewN ?_ _) | (with_reducible refine Kd.C_drew ?_)));(case side2 => exact HC322_0.out);rintro e w' ⟨rfl,⟨nd,rfl⟩⟩;refine ⟨_,rfl,?_⟩;have p324 : 0 ≤ (x5_1 : Int):=of_decide_eq_true (by first | (with_reducible assumption) | assumption);have q324 : x5_1 < (l0.length : Int):=of_decide_eq_true (by first | (with_reducible assumption) | assumption);obtain ⟨ad324,A324_0,c324_0,A324_3,c324_3,e324,hx324_0,hx324_1,hx324_2,hx324_3,hl324_0,hi324_0,hl324_3,hi324_3⟩:=at_T56 HR0.out x5_1 p324 q324;obtain rfl : ad322 = ad324:=(by injection e324);have HR324_0:=Aside0.mk hi324_0;have HC324_0:=Aside0.mk hl324_0;clear hi324_0 hl324_0;have HR324_3:=Aside0.mk hi324_3;have HC324_3:=Aside0.mk hl324_3;clear hi324_3 hl324_3;replace p324:=eq_true p324;replace q324:=eq_true q324;have ea_:=Option.some.inj (hx322_0.symm.trans hx324_0);injection ea_ with ea_ en_ ec_;subst ea_;subst ec_;clear en_;have ea_:=Option.some.inj (hx322_3.symm.trans hx324_3);injection ea_ with ea_ en_ ec_;subst ea_;subst ec_;clear en_;have p325 : 0 ≤ (x5_1 : Int):=of_decide_eq_true (by first | (with_reducible assumption) | assumption);have q325 : x5_1 < (l0.length : Int):=of_decide_eq_true (by first | (with_reducible assumption) | assumption);obtain ⟨ad325,A325_0,c325_0,A325_3,c325_3,e325,hx325_0,hx325_1,hx325_2,hx325_3,hl325_0,hi325_0,hl325_3,hi325_3⟩:=at_T56 HR0.out x5_1 p325 q325;obtain rfl : ad322 = ad325:=(by injection e325);have HR325_0:=Aside0.mk hi325_0;have HC325_0:=Aside0.mk hl325_0;clear hi325_0 hl325_0;have HR325_3:=Aside0.mk hi325_3;have HC325_3:=Aside0.mk hl325_3;clear hi325_3 hl325_3;replace p325:=eq_true p325;replace q325:=eq_true q325;have ea_:=Option.some.inj (hx322_0.symm.trans hx325_0);injection ea_ with ea_ en_ ec_;subst ea_;subst ec_;clear en_;have ea_:=Option.some.inj (hx322_3.symm.trans hx325_3);injection ea_ with ea_ en_ ec_;subst ea_;subst ec_;clear en_;have p326 : 0 ≤ (x5_1 : Int):=of_decide_eq_true (by first | (with_reducible assumption) | assumption);have q326 : x5_1 < (l0.length : Int):=of_decide_eq_true (by first | (with_reducible assumption) | assumption);obtain ⟨ad326,A326_0,c326_0,A326_3,c326_3,e326,hx326_0,hx326_1,hx326_2,hx326_3,hl326_0,hi326_0,hl326_3,hi326_3⟩:=at_T56 HR0.out x5_1 p326 q326;obtain rfl : ad322 = ad326:=(by injection e326);have HR326_0:=Aside0.mk hi326_0;have HC326_0:=Aside0.mk hl326_0;clear hi326_0 hl326_0;have HR326_3:=Aside0.mk hi326_3;have HC326_3:=Aside0.mk hl326_3;clear hi326_3 hl326_3;replace p326:=eq_true p326;replace q326:=eq_true q326;have ea_:=Option.some.inj (hx322_0.symm.trans hx326_0);injection ea_ with ea_ en_ ec_;subst ea_;subst ec_;clear en_;have ea_:=Option.some.inj (hx322_3.symm.trans hx326_3);injection ea_ with ea_ en_ ec_;subst ea_;subst ec_;clear en_) | ((with_reducible refine gate_callee (f:=24) rfl ?_);refine goesL_ (some 45) rfl rfl Try.func24 (by kernel_rfl) rfl #[.slice A322_3 ((rd_T56 l0 x5_1).f3).length c322_3,.int .i64 (wrap64 ((wrap64 (t323 + 1)) + 1))] rfl (by (try simp only [List.map_toArray,List.map_cons,List.map_nil]);first | done | rfl | (simp only [List.length_drop,List.length_take];rfl)) ?_;(with_reducible refine (laws_heldIntS.calls k1 _ _ ((rd_T56 l0 x5_1).f3) (wrap64 ((wrap64 (t323 + 1)) + 1)) t327 _ ?side1 ?side2 A9.out).mono ?_);(case side1 => repeat (first | exact HR326_3.out | (with_reducible refine Kd.C_alloc ?_ _) | (with_reducible refine Kd.C_drewN ?_ _) | (with_reducible refine Kd.C_drew ?_)));(case side2 => exact HC326_3.out);rintro e w' ⟨rfl,⟨nd,rfl⟩⟩;refine ⟨_,rfl,?_⟩))
         go_roundg k1
         case measure => have:=HK1.out;omega
         case rel => exact ⟨(t327),(wrap64 (x5_1 + 1)),(by first | rfl | (simp;done) | (simp [*];done)),(by first | rfl | (simp;done) | (simp [*];done)),H',⟨by have:=HK1.out;omega⟩,by repeat (first | exact Drawn0.refl _ | apply Drawn0.step)⟩
       ·rw [if_neg c8] at H
        have c8b0 : (((rd_T56 l0 x5_1).f2) == (wrap64 (t323 + 1))) = false:=beq_eq_false_iff_ne.mpr c8
        have c8b1 : (((rd_T56 l0 x5_1).f2) != (wrap64 (t323 + 1))) = true:=bne_iff_ne.mpr c8
        obtain rfl:=Option.some.inj H
        have p322 : 0 ≤ (x5_1 : Int):=of_decide_eq_true (by first | (with_reducible assumption) | assumption)
        have q322 : x5_1 < (l0.length : Int):=of_decide_eq_true (by first | (with_reducible assumption) | assumption)
        obtain ⟨ad322,A322_0,c322_0,A322_3,c322_3,e322,hx322_0,hx322_1,hx322_2,hx322_3,hl322_0,hi322_0,hl322_3,hi322_3⟩:=at_T56 HR0.out x5_1 p322 q322
        cases e322
        have HR322_0:=Aside0.mk hi322_0
        have HC322_0:=Aside0.mk hl322_0
        clear hi322_0 hl322_0
        have HR322_3:=Aside0.mk hi322_3
        have HC322_3:=Aside0.mk hl322_3
        clear hi322_3 hl322_3
        replace p322:=eq_true p322
        replace q322:=eq_true q322
        go_wp2_with (first | ((with_reducible refine gate_callee (f:=56) rfl ?_);refine goesL_ (some 18) rfl rfl Try.func56 (by kernel_rfl) rfl #[.slice A322_0 ((rd_T56 l0 x5_1).f0).length c322_0,.int .i64 x1_1] rfl (by (try simp only [List.map_toArray,List.map_cons,List.map_nil]);first | done | rfl | (simp only [List.length_drop,List.length_take];rfl)) ?_;(with_reducible refine (laws_heldFlatS.calls k1 _ _ ((rd_T56 l0 x5_1).f0) x1_1 t323 _ ?side1 ?side2 A5.out).mono ?_);(case side1 => repeat (first | exact HR322_0.out | (with_reducible refine Kd.C_alloc ?_ _) | (with_reducible refine Kd.C_drewN ?_ _) | (with_reducible refine Kd.C_drew ?_)));(case side2 => exact HC322_0.out);rintro e w' ⟨rfl,⟨nd,rfl⟩⟩;refine ⟨_,rfl,?_⟩;have p324 : 0 ≤ (x5_1 : Int):=of_decide_eq_true (by first | (with_reducible assumption) | assumption);have q324 : x5_1 < (l0.length : Int):=of_decide_eq_true (by first | (with_reducible assumption) | assumption);obtain ⟨ad324,A324_0,c324_0,A324_3,c324_3,e324,hx324_0,hx324_1,hx324_2,hx324_3,hl324_0,hi324_0,hl324_3,hi324_3⟩:=at_T56 HR0.out x5_1 p324 q324;obtain rfl : ad322 = ad324:=(by injection e324);have HR324_0:=Aside0.mk hi324_0;have HC324_0:=Aside0.mk hl324_0;clear hi324_0 hl324_0;have HR324_3:=Aside0.mk hi324_3;have HC324_3:=Aside0.mk hl324_3;clear hi324_3 hl324_3;replace p324:=eq_true p324;replace q324:=eq_true q324;have ea_:=Option.some.inj (hx322_0.symm.trans hx324_0);injection ea_ with ea_ en_ ec_;subst ea_;subst ec_;clear en_;have ea_:=Option.some.inj (hx322_3.symm.trans hx324_3);injection ea_ with ea_ en_ ec_;subst ea_;subst ec_;clear en_;have p325 : 0 ≤ (x5_1 : Int):=of_decide_eq_true (by first | (with_reducible assumption) | assumption);have q325 : x5_1 < (l0.length : Int):=of_decide_eq_true (by first | (with_reducible assumption) | assumption);obtain ⟨ad325,A325_0,c325_0,A325_3,c325_3,e325,hx325_0,hx325_1,hx325_2,hx325_3,hl325_0,hi325_0,hl325_3,hi325_3⟩:=at_T56 HR0.out x5_1 p325 q325;obtain rfl : ad322 = ad325:=(by injection e325);have HR325_0:=Aside0.mk hi325_0;have HC325_0:=Aside0.mk hl325_0;clear hi325_0 hl325_0;have HR325_3:=Aside0.mk hi325_3;have HC325_3:=Aside0.mk hl325_3;clear hi325_3 hl325_3;replace p325:=eq_true p325;replace q325:=eq_true q325;have ea_:=Option.some.inj (hx322_0.symm.trans hx325_0);injection ea_ with ea_ en_ ec_;subst ea_;subst ec_;clear en_;have ea_:=Option.some.inj (hx322_3.symm.trans hx325_3);injection ea_ with ea_ en_ ec_;subst ea_;subst ec_;clear en_))
        go_ret
        exact ⟨by first | rfl | (simp;done) | (simp [*];done),by repeat (first | exact Drawn0.refl _ | apply Drawn0.step)⟩
      ·rw [if_neg c7] at H
       have c7b0 : (((rd_T56 l0 x5_1).f1) == t323) = false:=beq_eq_false_iff_ne.mpr c7
       have c7b1 : (((rd_T56 l0 x5_1).f1) != t323) = true:=bne_iff_ne.mpr c7
       obtain rfl:=Option.some.inj H
       have p322 : 0 ≤ (x5_1 : Int):=of_decide_eq_true (by first | (with_reducible assumption) | assumption)
       have q322 : x5_1 < (l0.length : Int):=of_decide_eq_true (by first | (with_reducible assumption) | assumption)
       obtain ⟨ad322,A322_0,c322_0,A322_3,c322_3,e322,hx322_0,hx322_1,hx322_2,hx322_3,hl322_0,hi322_0,hl322_3,hi322_3⟩:=at_T56 HR0.out x5_1 p322 q322
       cases e322
       have HR322_0:=Aside0.mk hi322_0
       have HC322_0:=Aside0.mk hl322_0
       clear hi322_0 hl322_0
       have HR322_3:=Aside0.mk hi322_3
       have HC322_3:=Aside0.mk hl322_3
       clear hi322_3 hl322_3
       replace p322:=eq_true p322
       replace q322:=eq_true q322
       go_wp2_with (first | ((with_reducible refine gate_callee (f:=56) rfl ?_);refine goesL_ (some 18) rfl rfl Try.func56 (by kernel_rfl) rfl #[.slice A322_0 ((rd_T56 l0 x5_1).f0).length c322_0,.int .i64 x1_1] rfl (by (try simp only [List.map_toArray,List.map_cons,List.map_nil]);first | done | rfl | (simp only [List.length_drop,List.length_take];rfl)) ?_;(with_reducible refine (laws_heldFlatS.calls k1 _ _ ((rd_T56 l0 x5_1).f0) x1_1 t323 _ ?side1 ?side2 A5.out).mono ?_);(case side1 => repeat (first | exact HR322_0.out | (with_reducible refine Kd.C_alloc ?_ _) | (with_reducible refine Kd.C_drewN ?_ _) | (with_reducible refine Kd.C_drew ?_)));(case side2 => exact HC322_0.out);rintro e w' ⟨rfl,⟨nd,rfl⟩⟩;refine ⟨_,rfl,?_⟩;have p324 : 0 ≤ (x5_1 : Int):=of_decide_eq_true (by first | (with_reducible assumption) | assumption);have q324 : x5_1 < (l0.length : Int):=of_decide_eq_true (by first | (with_reducible assumption) | assumption);obtain ⟨ad324,A324_0,c324_0,A324_3,c324_3,e324,hx324_0,hx324_1,hx324_2,hx324_3,hl324_0,hi324_0,hl324_3,hi324_3⟩:=at_T56 HR0.out x5_1 p324 q324;obtain rfl : ad322 = ad324:=(by injection e324);have HR324_0:=Aside0.mk hi324_0;have HC324_0:=Aside0.mk hl324_0;clear hi324_0 hl324_0;have HR324_3:=Aside0.mk hi324_3;have HC324_3:=Aside0.mk hl324_3;clear hi324_3 hl324_3;replace p324:=eq_true p324;replace q324:=eq_true q324;have ea_:=Option.some.inj (hx322_0.symm.trans hx324_0);injection ea_ with ea_ en_ ec_;subst ea_;subst ec_;clear en_;have ea_:=Option.some.inj (hx322_3.symm.trans hx324_3);injection ea_ with ea_ en_ ec_;subst ea_;subst ec_;clear en_))
       go_ret
       exact ⟨by first | rfl | (simp;done) | (simp [*];done),by repeat (first | exact Drawn0.refl _ | apply Drawn0.step)⟩
    ·rw [if_neg c4] at H
     exact absurd H (by simp)
   ·rw [if_neg c3] at H
    have c3b0 : decide (x5_1 < (l0.length : Int)) = false:=decide_eq_false c3
    clear c3
    obtain rfl:=Option.some.inj H
    go_wp2
    go_ret
    exact ⟨by first | rfl | (simp;done) | (simp [*];done),by repeat (first | exact Drawn0.refl _ | apply Drawn0.step)⟩

end Go.Proofs.Ythgkhfhfahifmaa.Q
