-- WRITTEN BY A PROGRAM OF THIS SESSION
import Derived.Test.YtmljikgegclolaaQ0
import Derived.Test.YtmljikgegclolaaQ2
namespace Go.Proofs.Ytmljikgegclolaa.Q
open Go.RowKit Go.Proofs.YtmljikgegclolaaW.PrintWords Go.Proofs.YtmljikgegclolaaW.PrintLast Go.Proofs.YtmljikgegclolaaW.PrintMore
attribute [local go_sem] max2_int min2_int max_two min_two max_three min_three max_four min_four   -- for this text's walks alone
set_option linter.unusedVariables false
set_option linter.unusedSimpArgs false

/-! ### laws_heldStepS: function 33 -/
def laws_heldStepS.l0 : Nat → List (S56) → Int → Int → Option (Int)
 | 0,_,_,_ => none
 | k + 1,x0,x1,x5 => if x5 < (x0.length : Int) then (if 0 ≤ x5 then (if ((rd_T56 x0 x5).f0) = x1 then (if ((rd_T56 x0 x5).f1) = (wrap64 (x1 + 1)) then ((laws_heldIntS.f k ((rd_T56 x0 x5).f2) (wrap64 ((wrap64 (x1 + 1)) + 1))).bind fun t139 => (if t139 < 0 then (some (-1)) else (laws_heldStepS.l0 k x0 t139 (wrap64 (x5 + 1))))) else (some (-1))) else (some (-1))) else (none)) else (some x1)
def laws_heldStepS.f (k : Nat) (l0 : List (S56)) (a1 : Int) : Option (Int):=laws_heldStepS.l0 k l0 a1 0
theorem laws_heldStepS.mono_l : ∀ k,(∀ y0 y1 y2,LeO (laws_heldStepS.l0 k y0 y1 y2) (laws_heldStepS.l0 (k + 1) y0 y1 y2))
 | 0 => fun _ _ _ r h => by simp [laws_heldStepS.l0] at h
 | k + 1 => by
  have ih0:=laws_heldStepS.mono_l k
  ·intro y0 y1 y2
   unfold laws_heldStepS.l0
   repeat' first
   | (with_reducible exact ih0 _ _ _)
   | (with_reducible exact laws_heldIntS.mono _ _ _)
   | (with_reducible exact LeO.refl _)
   | (with_reducible exact LeO.none _)
   | (with_reducible refine LeO.ite ?_ ?_)
   | (with_reducible refine LeO.bind ?_ (fun _ => ?_))
   | exact ih0 _ _ _
   | exact laws_heldIntS.mono _ _ _
   | exact LeO.none _
   | refine LeO.ite ?_ ?_
   | refine LeO.bind ?_ (fun _ => ?_)
theorem laws_heldStepS.mono : ∀ a0 a1 k,LeO (laws_heldStepS.f k a0 a1) (laws_heldStepS.f (k + 1) a0 a1):=by
 intro a0 a1 k
 have ih0:=laws_heldStepS.mono_l k
 unfold laws_heldStepS.f
 repeat' first
   | (with_reducible exact ih0 _ _ _)
   | (with_reducible exact laws_heldIntS.mono _ _ _)
   | (with_reducible exact LeO.refl _)
   | (with_reducible exact LeO.none _)
   | (with_reducible refine LeO.ite ?_ ?_)
   | (with_reducible refine LeO.bind ?_ (fun _ => ?_))
   | exact ih0 _ _ _
   | exact laws_heldIntS.mono _ _ _
   | exact LeO.none _
   | refine LeO.ite ?_ ?_
   | refine LeO.bind ?_ (fun _ => ?_)
set_option maxHeartbeats 8000000 in
set_option maxRecDepth 100000 in
theorem laws_heldStepS.calls (k : Nat) (A0 : Option Addr) (c0 : Nat) (l0 : List (S56)) (a1 : Int) (r : Int) (w : World) (hr0 : Kd.C k56 w A0 l0.length l0) (hc0 : l0.length ≤ c0) (h : laws_heldStepS.f k l0 a1 = some r) :
  Calls Try.prog 33 #[.slice A0 l0.length c0,.int .i64 a1] w fun e w' => e = .returned (.int .i64 r) ∧ Drawn0 w w':=by
 have HR0:=Aside0.mk hr0
 have HC0:=Aside0.mk hc0
 clear hr0 hc0
 have H : (laws_heldStepS.l0 k l0 a1 0) = some r:=h
 clear h
 have H':=Aside0.mk H
 clear H
 go_enter Try.func33,Try.ntmps33
 go_wp2
 go_loopg [1,5] k (fun kq v1 v5 w' => ∃ (x1_1 : Int) (x5_1 : Int),v1 = .int .i64 x1_1 ∧ v5 = .int .i64 x5_1 ∧ Aside0 (laws_heldStepS.l0 kq l0 x1_1 x5_1 = some r) ∧ Aside0 (kq ≤ k) ∧ Drawn0 w w')
 case atStart => exact ⟨(a1),(0),(by first | rfl | (simp;done) | (simp [*];done)),(by first | rfl | (simp;done) | (simp [*];done)),H',⟨Nat.le_refl _⟩,by repeat (first | exact Drawn0.refl _ | apply Drawn0.step)⟩
 case round =>
  clear H'
  try clear p2
  obtain ⟨x1_1,x5_1,rfl,rfl,HA,HK1,⟨m1,rfl⟩⟩:=hrel
  cases gk with
  | zero => exact absurd HA.out (by simp [laws_heldStepS.l0])
  | succ k1 =>
   have H:=HA.out
   clear HA
   simp only [laws_heldStepS.l0] at H
   by_cases c3 : x5_1 < (l0.length : Int)
   ·rw [if_pos c3] at H
    have c3b0 : decide (x5_1 < (l0.length : Int)) = true:=decide_eq_true c3
    clear c3
    by_cases c4 : 0 ≤ x5_1
    ·rw [if_pos c4] at H
     have c4b0 : decide (0 ≤ x5_1) = true:=decide_eq_true c4
     clear c4
     by_cases c5 : ((rd_T56 l0 x5_1).f0) = x1_1
     ·rw [if_pos c5] at H
      have c5b0 : (((rd_T56 l0 x5_1).f0) == x1_1) = true:=beq_iff_eq.mpr c5
      have c5b1 : (((rd_T56 l0 x5_1).f0) != x1_1) = false:=bne_eq_false_iff_eq.mpr c5
      clear c5
      by_cases c6 : ((rd_T56 l0 x5_1).f1) = (wrap64 (x1_1 + 1))
      ·rw [if_pos c6] at H
       have c6b0 : (((rd_T56 l0 x5_1).f1) == (wrap64 (x1_1 + 1))) = true:=beq_iff_eq.mpr c6
       have c6b1 : (((rd_T56 l0 x5_1).f1) != (wrap64 (x1_1 + 1))) = false:=bne_eq_false_iff_eq.mpr c6
       clear c6
       replace H:=Option.bind_eq_some_iff.mp H
       obtain ⟨t139,A70,H⟩:=H
       replace H : (if t139 < 0 then (some (-1)) else (laws_heldStepS.l0 k1 l0 t139 (wrap64 (x5_1 + 1)))) = some r:=H
       have A7:=Aside0.mk A70
       clear A70
       by_cases c8 : t139 < 0
       ·rw [if_pos c8] at H
        have c8b0 : decide (t139 < 0) = true:=decide_eq_true c8
        clear c8
        obtain rfl:=Option.some.inj H
        have p136 : 0 ≤ (x5_1 : Int):=of_decide_eq_true (by first | (with_reducible assumption) | assumption)
        have q136 : x5_1 < (l0.length : Int):=of_decide_eq_true (by first | (with_reducible assumption) | assumption)
        obtain ⟨ad136,A136_2,c136_2,e136,hx136_0,hx136_1,hx136_2,hl136_2,hi136_2⟩:=at_T56 HR0.out x5_1 p136 q136
        cases e136
        have HR136_2:=Aside0.mk hi136_2
        have HC136_2:=Aside0.mk hl136_2
        clear hi136_2 hl136_2
        replace p136:=eq_true p136
        replace q136:=eq_true q136
        have p137 : 0 ≤ (x5_1 : Int):=of_decide_eq_true (by first | (with_reducible assumption) | assumption)
        have q137 : x5_1 < (l0.length : Int):=of_decide_eq_true (by first | (with_reducible assumption) | assumption)
        obtain ⟨ad137,A137_2,c137_2,e137,hx137_0,hx137_1,hx137_2,hl137_2,hi137_2⟩:=at_T56 HR0.out x5_1 p137 q137
        obtain rfl : ad136 = ad137:=(by injection e137)
        have HR137_2:=Aside0.mk hi137_2
        have HC137_2:=Aside0.mk hl137_2
        clear hi137_2 hl137_2
        replace p137:=eq_true p137
        replace q137:=eq_true q137
        have ea_:=Option.some.inj (hx136_2.symm.trans hx137_2)
        injection ea_ with ea_ en_ ec_
        subst ea_
        subst ec_
        clear en_
        have p138 : 0 ≤ (x5_1 : Int):=of_decide_eq_true (by first | (with_reducible assumption) | assumption)
        have q138 : x5_1 < (l0.length : Int):=of_decide_eq_true (by first | (with_reducible assumption) | assumption)
        obtain ⟨ad138,A138_2,c138_2,e138,hx138_0,hx138_1,hx138_2,hl138_2,hi138_2⟩:=at_T56 HR0.out x5_1 p138 q138
        obtain rfl : ad136 = ad138:=(by injection e138)
        have HR138_2:=Aside0.mk hi138_2
        have HC138_2:=Aside0.mk hl138_2
        clear hi138_2 hl138_2
        replace p138:=eq_true p138
        replace q138:=eq_true q138
        have ea_:=Option.some.inj (hx136_2.symm.trans hx138_2)
        injection ea_ with ea_ en_ ec_
        subst ea_
        subst ec_
        clear en_
        go_wp2_with (first | ((with_reducible refine gate_callee (f:=24) rfl ?_);refine goesL_ (some 36) rfl rfl Try.func24 (by kernel_rfl) rfl #[.slice A136_2 ((rd_T56 l0 x5_1).f2).length c136_2,.int .i64 (wrap64 ((wrap64 (x1_1 + 1)) + 1))] rfl (by (try simp only [List.map_toArray,List.map_cons,List.map_nil]);first | done | rfl | (simp only [List.length_drop,List.length_take];rfl)) ?_;(with_reducible refine (laws_heldIntS.calls k1 _ _ ((rd_T56 l0 x5_1).f2) (wrap64 ((wrap64 (x1_1 + 1)) + 1)) t139 _ ?side1 ?side2 A7.out).mono ?_);(case side1 => repeat (first | exact HR138_2.out | (with_reducible refine Kd.C_alloc ?_ _) | (with_reducible refine Kd.C_drewN ?_ _) | (with_reducible refine Kd.C_drew ?_)));(case side2 => exact HC138_2.out);rintro e w' ⟨rfl,⟨nd,rfl⟩⟩;refine ⟨_,rfl,?_⟩))
        go_ret
        exact ⟨by first | rfl | (simp;done) | (simp [*];done),by repeat (first | exact Drawn0.refl _ | apply Drawn0.step)⟩
       ·rw [if_neg c8] at H
        have c8b0 : decide (t139 < 0) = false:=decide_eq_false c8
        clear c8
        have H':=Aside0.mk H
        clear H
        have p136 : 0 ≤ (x5_1 : Int):=of_decide_eq_true (by first | (with_reducible assumption) | assumption)
        have q136 : x5_1 < (l0.length : Int):=of_decide_eq_true (by first | (with_reducible assumption) | assumption)
        obtain ⟨ad136,A136_2,c136_2,e136,hx136_0,hx136_1,hx136_2,hl136_2,hi136_2⟩:=at_T56 HR0.out x5_1 p136 q136
        cases e136
        have HR136_2:=Aside0.mk hi136_2
        have HC136_2:=Aside0.mk hl136_2
        clear hi136_2 hl136_2
        replace p136:=eq_true p136
        replace q136:=eq_true q136
        have p137 : 0 ≤ (x5_1 : Int):=of_decide_eq_true (by first | (with_reducible assumption) | assumption)
        have q137 : x5_1 < (l0.length : Int):=of_decide_eq_true (by first | (with_reducible assumption) | assumption)
        obtain ⟨ad137,A137_2,c137_2,e137,hx137_0,hx137_1,hx137_2,hl137_2,hi137_2⟩:=at_T56 HR0.out x5_1 p137 q137
        obtain rfl : ad136 = ad137:=(by injection e137)
        have HR137_2:=Aside0.mk hi137_2
        have HC137_2:=Aside0.mk hl137_2
        clear hi137_2 hl137_2
        replace p137:=eq_true p137
        replace q137:=eq_true q137
        have ea_:=Option.some.inj (hx136_2.symm.trans hx137_2)
        injection ea_ with ea_ en_ ec_
        subst ea_
        subst ec_
        clear en_
        have p138 : 0 ≤ (x5_1 : Int):=of_decide_eq_true (by first | (with_reducible assumption) | assumption)
        have q138 : x5_1 < (l0.length : Int):=of_decide_eq_true (by first | (with_reducible assumption) | assumption)
        obtain ⟨ad138,A138_2,c138_2,e138,hx138_0,hx138_1,hx138_2,hl138_2,hi138_2⟩:=at_T56 HR0.out x5_1 p138 q138
        obtain rfl : ad136 = ad138:=(by injection e138)
        have HR138_2:=Aside0.mk hi138_2
        have HC138_2:=Aside0.mk hl138_2
        clear hi138_2 hl138_2
        replace p138:=eq_true p138
        replace q138:=eq_true q138
        have ea_:=Option.some.inj (hx136_2.symm.trans hx138_2)
        injection ea_ with ea_ en_ ec_
        subst ea_
        subst ec_
        clear en_
        go_wp2_with (first | ((with_reducible refine gate_callee (f:=24) rfl ?_);refine goesL_ (some 36) rfl rfl Try.func24 (by kernel_rfl) rfl #[.slice A136_2 ((rd_T56 l0 x5_1).f2).length c136_2,.int .i64 (wrap64 ((wrap64 (x1_1 + 1)) + 1))] rfl (by (try simp only [List.map_toArray,List.map_cons,List.map_nil]);first | done | rfl | (simp only [List.length_drop,List.length_take];rfl)) ?_;(with_reducible refine (laws_heldIntS.calls k1 _ _ ((rd_T56 l0 x5_1).f2) (wrap64 ((wrap64 (x1_1 + 1)) + 1)) t139 _ ?side1 ?side2 A7.out).mono ?_);(case side1 => repeat (first | exact HR138_2.out | (with_reducible refine Kd.C_alloc ?_ _) | (with_reducible refine Kd.C_drewN ?_ _) | (with_reducible refine Kd.C_drew ?_)));(case side2 => exact HC138_2.out);rintro e w' ⟨rfl,⟨nd,rfl⟩⟩;refine ⟨_,rfl,?_⟩))
        go_roundg k1
        case measure => have:=HK1.out;omega
        case rel => exact ⟨(t139),(wrap64 (x5_1 + 1)),(by first | rfl | (simp;done) | (simp [*];done)),(by first | rfl | (simp;done) | (simp [*];done)),H',⟨by have:=HK1.out;omega⟩,by repeat (first | exact Drawn0.refl _ | apply Drawn0.step)⟩
      ·rw [if_neg c6] at H
       have c6b0 : (((rd_T56 l0 x5_1).f1) == (wrap64 (x1_1 + 1))) = false:=beq_eq_false_iff_ne.mpr c6
       have c6b1 : (((rd_T56 l0 x5_1).f1) != (wrap64 (x1_1 + 1))) = true:=bne_iff_ne.mpr c6
       obtain rfl:=Option.some.inj H
       have p136 : 0 ≤ (x5_1 : Int):=of_decide_eq_true (by first | (with_reducible assumption) | assumption)
       have q136 : x5_1 < (l0.length : Int):=of_decide_eq_true (by first | (with_reducible assumption) | assumption)
       obtain ⟨ad136,A136_2,c136_2,e136,hx136_0,hx136_1,hx136_2,hl136_2,hi136_2⟩:=at_T56 HR0.out x5_1 p136 q136
       cases e136
       have HR136_2:=Aside0.mk hi136_2
       have HC136_2:=Aside0.mk hl136_2
       clear hi136_2 hl136_2
       replace p136:=eq_true p136
       replace q136:=eq_true q136
       have p137 : 0 ≤ (x5_1 : Int):=of_decide_eq_true (by first | (with_reducible assumption) | assumption)
       have q137 : x5_1 < (l0.length : Int):=of_decide_eq_true (by first | (with_reducible assumption) | assumption)
       obtain ⟨ad137,A137_2,c137_2,e137,hx137_0,hx137_1,hx137_2,hl137_2,hi137_2⟩:=at_T56 HR0.out x5_1 p137 q137
       obtain rfl : ad136 = ad137:=(by injection e137)
       have HR137_2:=Aside0.mk hi137_2
       have HC137_2:=Aside0.mk hl137_2
       clear hi137_2 hl137_2
       replace p137:=eq_true p137
       replace q137:=eq_true q137
       have ea_:=Option.some.inj (hx136_2.symm.trans hx137_2)
       injection ea_ with ea_ en_ ec_
       subst ea_
       subst ec_
       clear en_
       go_wp2
       go_ret
       exact ⟨by first | rfl | (simp;done) | (simp [*];done),by repeat (first | exact Drawn0.refl _ | apply Drawn0.step)⟩
     ·rw [if_neg c5] at H
      have c5b0 : (((rd_T56 l0 x5_1).f0) == x1_1) = false:=beq_eq_false_iff_ne.mpr c5
      have c5b1 : (((rd_T56 l0 x5_1).f0) != x1_1) = true:=bne_iff_ne.mpr c5
      obtain rfl:=Option.some.inj H
      have p136 : 0 ≤ (x5_1 : Int):=of_decide_eq_true (by first | (with_reducible assumption) | assumption)
      have q136 : x5_1 < (l0.length : Int):=of_decide_eq_true (by first | (with_reducible assumption) | assumption)
      obtain ⟨ad136,A136_2,c136_2,e136,hx136_0,hx136_1,hx136_2,hl136_2,hi136_2⟩:=at_T56 HR0.out x5_1 p136 q136
      cases e136
      have HR136_2:=Aside0.mk hi136_2
      have HC136_2:=Aside0.mk hl136_2
      clear hi136_2 hl136_2
      replace p136:=eq_true p136
      replace q136:=eq_true q136
      go_wp2
      go_ret
      exact ⟨by first | rfl | (simp;done) | (simp [*];done),by repeat (first | exact Drawn0.refl _ | apply Drawn0.step)⟩
    ·rw [if_neg c4] at H
     exact absurd H (by simp)
   ·rw [if_neg c3] at H
    have c3b0 : decide (x5_1 < (l0.length : Int)) = false:=decide_eq_false c3
    clear c3
    obtain rfl:=Option.some.inj H
    go_wp2
    go_ret
    exact ⟨by first | rfl | (simp;done) | (simp [*];done),by repeat (first | exact Drawn0.refl _ | apply Drawn0.step)⟩

/-! ### spec_l1In: function 59 -/
def spec_l1In.f (a0 : Int) (a1 : Int) (a2 : Int) : Option (Bool):=if a0 ≥ a1 then (some (decide (a0 ≤ a2))) else (some false)
set_option maxHeartbeats 8000000 in
set_option maxRecDepth 100000 in
theorem spec_l1In.calls (a0 : Int) (a1 : Int) (a2 : Int) (r : Bool) (w : World) (h : spec_l1In.f a0 a1 a2 = some r) :
  Calls Try.prog 59 #[.int .i64 a0,.int .i64 a1,.int .i64 a2] w fun e w' => e = .returned (.bool r) ∧ Drawn0 w w':=by
 have H : (if a0 ≥ a1 then (some (decide (a0 ≤ a2))) else (some false)) = some r:=h
 clear h
 by_cases c4 : a0 ≥ a1
 ·rw [if_pos c4] at H
  have c4b0 : decide (a1 ≤ a0) = true:=decide_eq_true c4
  clear c4
  obtain rfl:=Option.some.inj H
  go_enter Try.func59,Try.ntmps59
  go_wp2
  go_ret
  exact ⟨by first | rfl | (simp;done) | (simp [*];done),by repeat (first | exact Drawn0.refl _ | apply Drawn0.step)⟩
 ·rw [if_neg c4] at H
  have c4b0 : decide (a1 ≤ a0) = false:=decide_eq_false c4
  clear c4
  obtain rfl:=Option.some.inj H
  go_enter Try.func59,Try.ntmps59
  go_wp2
  go_ret
  exact ⟨by first | rfl | (simp;done) | (simp [*];done),by repeat (first | exact Drawn0.refl _ | apply Drawn0.step)⟩

/-! ### spec_l3Depth: function 94 -/
def spec_l3Depth.f (a0 : Int) : Option (Bool):=(spec_l1In.f a0 0 8).bind fun t140 => (some t140)
set_option maxHeartbeats 8000000 in
set_option maxRecDepth 100000 in
theorem spec_l3Depth.calls (a0 : Int) (r : Bool) (w : World) (h : spec_l3Depth.f a0 = some r) :
  Calls Try.prog 94 #[.int .i64 a0] w fun e w' => e = .returned (.bool r) ∧ Drawn0 w w':=by
 have H : ((spec_l1In.f a0 0 8).bind fun t140 => (some t140)) = some r:=h
 clear h
 replace H:=Option.bind_eq_some_iff.mp H
 obtain ⟨t140,A20,H⟩:=H
 replace H : (some t140) = some r:=H
 have A2:=Aside0.mk A20
 clear A20
 obtain rfl:=Option.some.inj H
 go_enter Try.func94,Try.ntmps94
 go_wp2_with (first | ((with_reducible refine gate_callee (f:=59) rfl ?_);refine goesL_ (some 4) rfl rfl Try.func59 (by kernel_rfl) rfl #[.int .i64 a0,.int .i64 0,.int .i64 8] rfl (by (try simp only [List.map_toArray,List.map_cons,List.map_nil]);first | done | rfl | (simp only [List.length_drop,List.length_take];rfl)) ?_;(with_reducible refine (spec_l1In.calls a0 0 8 t140 _ A2.out).mono ?_);rintro e w' ⟨rfl,⟨nd,rfl⟩⟩;refine ⟨_,rfl,?_⟩))
 go_ret
 exact ⟨by first | rfl | (simp;done) | (simp [*];done),by repeat (first | exact Drawn0.refl _ | apply Drawn0.step)⟩

end Go.Proofs.Ytmljikgegclolaa.Q
