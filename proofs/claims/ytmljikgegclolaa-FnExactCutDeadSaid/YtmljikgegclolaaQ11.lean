-- WRITTEN BY A PROGRAM OF THIS SESSION
import Derived.Test.YtmljikgegclolaaQ0
import Derived.Test.YtmljikgegclolaaQ10
namespace Go.Proofs.Ytmljikgegclolaa.Q
open Go.RowKit Go.Proofs.YtmljikgegclolaaW.PrintWords Go.Proofs.YtmljikgegclolaaW.PrintLast Go.Proofs.YtmljikgegclolaaW.PrintMore
attribute [local go_sem] max2_int min2_int max_two min_two max_three min_three max_four min_four   -- for this text's walks alone
set_option linter.unusedVariables false
set_option linter.unusedSimpArgs false

/-! ### slices_IndexFunc_int_int__impl_stepOK_1: function 123 -/
def slices_IndexFunc_int_int__impl_stepOK_1.l0 : Nat → List Int → Int → Int → Option (Int)
 | 0,_,_,_ => none
 | k + 1,x0,x7,x8 => if x8 < x7 then (if 0 ≤ x8 then (if x8 < (x0.length : Int) then ((impl_stepOK_1.f (rd x0 x8)).bind fun t288 => (if t288 = true then (some x8) else (slices_IndexFunc_int_int__impl_stepOK_1.l0 k x0 x7 (wrap64 (x8 + 1))))) else (none)) else (none)) else (some (-1))
def slices_IndexFunc_int_int__impl_stepOK_1.f (k : Nat) (l0 : List Int)  : Option (Int):=slices_IndexFunc_int_int__impl_stepOK_1.l0 k l0 (l0.length : Int) 0
theorem slices_IndexFunc_int_int__impl_stepOK_1.mono_l : ∀ k,(∀ y0 y1 y2,LeO (slices_IndexFunc_int_int__impl_stepOK_1.l0 k y0 y1 y2) (slices_IndexFunc_int_int__impl_stepOK_1.l0 (k + 1) y0 y1 y2))
 | 0 => fun _ _ _ r h => by simp [slices_IndexFunc_int_int__impl_stepOK_1.l0] at h
 | k + 1 => by
  have ih0:=slices_IndexFunc_int_int__impl_stepOK_1.mono_l k
  ·intro y0 y1 y2
   unfold slices_IndexFunc_int_int__impl_stepOK_1.l0
   repeat' first
   | (with_reducible exact ih0 _ _ _)
   | (with_reducible exact LeO.refl _)
   | (with_reducible exact LeO.none _)
   | (with_reducible refine LeO.ite ?_ ?_)
   | (with_reducible refine LeO.bind ?_ (fun _ => ?_))
   | exact ih0 _ _ _
   | exact LeO.none _
   | refine LeO.ite ?_ ?_
   | refine LeO.bind ?_ (fun _ => ?_)
theorem slices_IndexFunc_int_int__impl_stepOK_1.mono : ∀ a0 k,LeO (slices_IndexFunc_int_int__impl_stepOK_1.f k a0) (slices_IndexFunc_int_int__impl_stepOK_1.f (k + 1) a0):=by
 intro a0 k
 have ih0:=slices_IndexFunc_int_int__impl_stepOK_1.mono_l k
 unfold slices_IndexFunc_int_int__impl_stepOK_1.f
 repeat' first
   | (with_reducible exact ih0 _ _ _)
   | (with_reducible exact LeO.refl _)
   | (with_reducible exact LeO.none _)
   | (with_reducible refine LeO.ite ?_ ?_)
   | (with_reducible refine LeO.bind ?_ (fun _ => ?_))
   | exact ih0 _ _ _
   | exact LeO.none _
   | refine LeO.ite ?_ ?_
   | refine LeO.bind ?_ (fun _ => ?_)
set_option maxHeartbeats 8000000 in
set_option maxRecDepth 100000 in
theorem slices_IndexFunc_int_int__impl_stepOK_1.calls (k : Nat) (A0 : Option Addr) (c0 : Nat) (l0 : List Int)  (r : Int) (w : World) (hr0 : Kd.C (Kd.int .i64) w A0 l0.length l0) (hc0 : l0.length ≤ c0) (h : slices_IndexFunc_int_int__impl_stepOK_1.f k l0 = some r) :
  Calls Try.prog 102 #[.slice A0 l0.length c0,.func (.func 98) #[] #[]] w fun e w' => e = .returned (.int .i64 r) ∧ Drawn0 w w':=by
 have HR0:=Aside0.mk hr0
 have HC0:=Aside0.mk hc0
 clear hr0 hc0
 have H : (slices_IndexFunc_int_int__impl_stepOK_1.l0 k l0 (l0.length : Int) 0) = some r:=h
 clear h
 have H':=Aside0.mk H
 clear H
 go_enter Try.func102,Try.ntmps102
 go_wp2
 go_loopg [8] k (fun kq v8 w' => ∃ (x8_1 : Int),v8 = .int .i64 x8_1 ∧ Aside0 (slices_IndexFunc_int_int__impl_stepOK_1.l0 kq l0 (l0.length : Int) x8_1 = some r) ∧ Aside0 (kq ≤ k) ∧ Drawn0 w w')
 case atStart => exact ⟨(0),(by first | rfl | (simp;done) | (simp [*];done)),H',⟨Nat.le_refl _⟩,by repeat (first | exact Drawn0.refl _ | apply Drawn0.step)⟩
 case round =>
  clear H'
  try clear c1
  try clear p2
  obtain ⟨x8_1,rfl,HA,HK1,⟨m1,rfl⟩⟩:=hrel
  cases gk with
  | zero => exact absurd HA.out (by simp [slices_IndexFunc_int_int__impl_stepOK_1.l0])
  | succ k1 =>
   have H:=HA.out
   clear HA
   simp only [slices_IndexFunc_int_int__impl_stepOK_1.l0] at H
   by_cases c3 : x8_1 < (l0.length : Int)
   ·rw [if_pos c3] at H
    have c3b0 : decide (x8_1 < (l0.length : Int)) = true:=decide_eq_true c3
    clear c3
    by_cases c4 : 0 ≤ x8_1
    ·rw [if_pos c4] at H
     have c4b0 : decide (0 ≤ x8_1) = true:=decide_eq_true c4
     clear c4
     by_cases c5 : x8_1 < (l0.length : Int)
     ·rw [if_pos c5] at H
      have c5b0 : decide (x8_1 < (l0.length : Int)) = true:=decide_eq_true c5
      clear c5
      replace H:=Option.bind_eq_some_iff.mp H
      obtain ⟨t288,A60,H⟩:=H
      replace H : (if t288 = true then (some x8_1) else (slices_IndexFunc_int_int__impl_stepOK_1.l0 k1 l0 (l0.length : Int) (wrap64 (x8_1 + 1)))) = some r:=H
      have A6:=Aside0.mk A60
      clear A60
      by_cases c7 : t288 = true
      ·subst c7
       have H1 : (some x8_1) = some r:=by rw [if_pos rfl] at H;exact H
       clear H
       have H:=H1
       clear H1
       obtain rfl:=Option.some.inj H
       have p287 : 0 ≤ (x8_1 : Int):=of_decide_eq_true (by first | (with_reducible assumption) | assumption)
       have q287 : x8_1 < (l0.length : Int):=of_decide_eq_true (by first | (with_reducible assumption) | assumption)
       obtain ⟨ad287,e287,hx287_0⟩:=Kd.at_int HR0.out x8_1 p287 q287
       cases e287
       replace p287:=eq_true p287
       replace q287:=eq_true q287
       go_wp2_with (first | (go_at_call 98;(with_reducible refine (impl_stepOK_1.calls (rd l0 x8_1) true _ A6.out).mono ?_);rintro e w' ⟨rfl,⟨nd,rfl⟩⟩))
       go_ret
       exact ⟨by first | rfl | (simp;done) | (simp [*];done),by repeat (first | exact Drawn0.refl _ | apply Drawn0.step)⟩
      ·replace c7:=Bool.eq_false_iff.mpr c7
       subst c7
       have H1 : (slices_IndexFunc_int_int__impl_stepOK_1.l0 k1 l0 (l0.length : Int) (wrap64 (x8_1 + 1))) = some r:=by rw [if_neg (show ¬ (false = true) by decide)] at H;exact H
       clear H
       have H:=H1
       clear H1
       have H':=Aside0.mk H
       clear H
       have p287 : 0 ≤ (x8_1 : Int):=of_decide_eq_true (by first | (with_reducible assumption) | assumption)
       have q287 : x8_1 < (l0.length : Int):=of_decide_eq_true (by first | (with_reducible assumption) | assumption)
       obtain ⟨ad287,e287,hx287_0⟩:=Kd.at_int HR0.out x8_1 p287 q287
       cases e287
       replace p287:=eq_true p287
       replace q287:=eq_true q287
       go_wp2_with (first | (go_at_call 98;(with_reducible refine (impl_stepOK_1.calls (rd l0 x8_1) false _ A6.out).mono ?_);rintro e w' ⟨rfl,⟨nd,rfl⟩⟩))
       go_roundg k1
       case measure => have:=HK1.out;omega
       case rel => exact ⟨(wrap64 (x8_1 + 1)),(by first | rfl | (simp;done) | (simp [*];done)),H',⟨by have:=HK1.out;omega⟩,by repeat (first | exact Drawn0.refl _ | apply Drawn0.step)⟩
     ·rw [if_neg c5] at H
      exact absurd H (by simp)
    ·rw [if_neg c4] at H
     exact absurd H (by simp)
   ·rw [if_neg c3] at H
    have c3b0 : decide (x8_1 < (l0.length : Int)) = false:=decide_eq_false c3
    clear c3
    obtain rfl:=Option.some.inj H
    go_wp2
    go_ret
    exact ⟨by first | rfl | (simp;done) | (simp [*];done),by repeat (first | exact Drawn0.refl _ | apply Drawn0.step)⟩

/-! ### slices_ContainsFunc_int_int__impl_stepOK_1: function 122 -/
def slices_ContainsFunc_int_int__impl_stepOK_1.f (k : Nat) (l0 : List Int)  : Option (Bool):=(slices_IndexFunc_int_int__impl_stepOK_1.f k l0).bind fun t289 => (some (decide (t289 ≥ 0)))
theorem slices_ContainsFunc_int_int__impl_stepOK_1.mono : ∀ a0 k,LeO (slices_ContainsFunc_int_int__impl_stepOK_1.f k a0) (slices_ContainsFunc_int_int__impl_stepOK_1.f (k + 1) a0):=by
 intro a0 k
 unfold slices_ContainsFunc_int_int__impl_stepOK_1.f
 repeat' first
   | (with_reducible exact slices_IndexFunc_int_int__impl_stepOK_1.mono _ _)
   | (with_reducible exact LeO.refl _)
   | (with_reducible exact LeO.none _)
   | (with_reducible refine LeO.ite ?_ ?_)
   | (with_reducible refine LeO.bind ?_ (fun _ => ?_))
   | exact slices_IndexFunc_int_int__impl_stepOK_1.mono _ _
   | exact LeO.none _
   | refine LeO.ite ?_ ?_
   | refine LeO.bind ?_ (fun _ => ?_)
set_option maxHeartbeats 8000000 in
set_option maxRecDepth 100000 in
theorem slices_ContainsFunc_int_int__impl_stepOK_1.calls (k : Nat) (A0 : Option Addr) (c0 : Nat) (l0 : List Int)  (r : Bool) (w : World) (hr0 : Kd.C (Kd.int .i64) w A0 l0.length l0) (hc0 : l0.length ≤ c0) (h : slices_ContainsFunc_int_int__impl_stepOK_1.f k l0 = some r) :
  Calls Try.prog 97 #[.slice A0 l0.length c0,.func (.func 98) #[] #[]] w fun e w' => e = .returned (.bool r) ∧ Drawn0 w w':=by
 have HR0:=Aside0.mk hr0
 have HC0:=Aside0.mk hc0
 clear hr0 hc0
 have H : ((slices_IndexFunc_int_int__impl_stepOK_1.f k l0).bind fun t289 => (some (decide (t289 ≥ 0)))) = some r:=h
 clear h
 replace H:=Option.bind_eq_some_iff.mp H
 obtain ⟨t289,A30,H⟩:=H
 replace H : (some (decide (t289 ≥ 0))) = some r:=H
 have A3:=Aside0.mk A30
 clear A30
 obtain rfl:=Option.some.inj H
 go_enter Try.func97,Try.ntmps97
 go_wp2_with (first | ((with_reducible refine gate_callee (f:=102) rfl ?_);refine goesL_ (some 7) rfl rfl Try.func102 (by kernel_rfl) rfl #[.slice A0 l0.length c0,.func (.func 98) #[] #[]] rfl (by (try simp only [List.map_toArray,List.map_cons,List.map_nil]);first | done | rfl | (simp only [List.length_drop,List.length_take];rfl)) ?_;(with_reducible refine (slices_IndexFunc_int_int__impl_stepOK_1.calls k _ _ l0  t289 _ ?side1 ?side2 A3.out).mono ?_);(case side1 => repeat (first | exact HR0.out | (with_reducible refine Kd.C_alloc ?_ _) | (with_reducible refine Kd.C_drewN ?_ _) | (with_reducible refine Kd.C_drew ?_)));(case side2 => exact HC0.out);rintro e w' ⟨rfl,⟨nd,rfl⟩⟩;refine ⟨_,rfl,?_⟩))
 go_ret
 exact ⟨by first | rfl | (simp;done) | (simp [*];done),by repeat (first | exact Drawn0.refl _ | apply Drawn0.step)⟩

/-! ### impl_stepOK: function 78 -/
mutual
def impl_stepOK.j0 : Nat → Int → Bool → Int → Int → List Int → Option (Bool)
 | 0,_,_,_,_,_ => none
 | k + 1,x26,x32,x291000,x291001,x291002 => if x32 = true then ((impl_within.f x291001 0 7).bind fun t295 => (some t295)) else (if x26 = 20 then (impl_stepOK.j1 k (x26 == 20) x291000 x291001 x291002) else (impl_stepOK.j1 k (x26 == 21) x291000 x291001 x291002))
def impl_stepOK.j1 : Nat → Bool → Int → Int → List Int → Option (Bool)
 | 0,_,_,_,_ => none
 | k + 1,x38,x291000,x291001,x291002 => if x38 = true then ((impl_depthOK.f x291001).bind fun t296 => (some t296)) else ((impl_within.f x291000 1 22).bind fun t297 => (if t297 = true then (some (x291001 == 0)) else (some false)))
end
def impl_stepOK.f (k : Nat) (a0_0 : Int) (a0_1 : Int) (l0_2 : List Int) : Option (Bool):=if a0_0 = 22 then ((impl_depthOK.f a0_1).bind fun t291 => (if t291 = true then ((impl_within.f (l0_2.length : Int) 1 4).bind fun t292 => (if t292 = true then ((slices_ContainsFunc_int_int__impl_stepOK_1.f k l0_2).bind fun t293 => (some (!t293))) else (some false))) else (some false))) else (if (l0_2.length : Int) > 0 then (some false) else (if a0_0 = 1 then ((impl_within.f a0_1 0 65535).bind fun t294 => (some t294)) else (if a0_0 = 2 then (impl_stepOK.j0 k a0_0 (a0_0 == 2) a0_0 a0_1 l0_2) else (impl_stepOK.j0 k a0_0 (a0_0 == 3) a0_0 a0_1 l0_2))))
theorem impl_stepOK.mono_l : ∀ k,(∀ y0 y1 y2 y3 y4,LeO (impl_stepOK.j0 k y0 y1 y2 y3 y4) (impl_stepOK.j0 (k + 1) y0 y1 y2 y3 y4)) ∧ (∀ y0 y1 y2 y3,LeO (impl_stepOK.j1 k y0 y1 y2 y3) (impl_stepOK.j1 (k + 1) y0 y1 y2 y3))
 | 0 => ⟨fun _ _ _ _ _ r h => by simp [impl_stepOK.j0] at h,fun _ _ _ _ r h => by simp [impl_stepOK.j1] at h⟩
 | k + 1 => by
  obtain ⟨ih0,ih1⟩:=impl_stepOK.mono_l k
  refine ⟨?_,?_⟩
  ·intro y0 y1 y2 y3 y4
   unfold impl_stepOK.j0
   repeat' first
   | (with_reducible exact ih0 _ _ _ _ _)
   | (with_reducible exact ih1 _ _ _ _)
   | (with_reducible exact slices_ContainsFunc_int_int__impl_stepOK_1.mono _ _)
   | (with_reducible exact LeO.refl _)
   | (with_reducible exact LeO.none _)
   | (with_reducible refine LeO.ite ?_ ?_)
   | (with_reducible refine LeO.bind ?_ (fun _ => ?_))
   | exact ih0 _ _ _ _ _
   | exact ih1 _ _ _ _
   | exact slices_ContainsFunc_int_int__impl_stepOK_1.mono _ _
   | exact LeO.none _
   | refine LeO.ite ?_ ?_
   | refine LeO.bind ?_ (fun _ => ?_)
  ·intro y0 y1 y2 y3
   unfold impl_stepOK.j1
   repeat' first
   | (with_reducible exact ih0 _ _ _ _ _)
   | (with_reducible exact ih1 _ _ _ _)
   | (with_reducible exact slices_ContainsFunc_int_int__impl_stepOK_1.mono _ _)
   | (with_reducible exact LeO.refl _)
   | (with_reducible exact LeO.none _)
   | (with_reducible refine LeO.ite ?_ ?_)
   | (with_reducible refine LeO.bind ?_ (fun _ => ?_))
   | exact ih0 _ _ _ _ _
   | exact ih1 _ _ _ _
   | exact slices_ContainsFunc_int_int__impl_stepOK_1.mono _ _
   | exact LeO.none _
   | refine LeO.ite ?_ ?_
   | refine LeO.bind ?_ (fun _ => ?_)
theorem impl_stepOK.mono : ∀ a0 a1 a2 k,LeO (impl_stepOK.f k a0 a1 a2) (impl_stepOK.f (k + 1) a0 a1 a2):=by
 intro a0 a1 a2 k
 obtain ⟨ih0,ih1⟩:=impl_stepOK.mono_l k
 unfold impl_stepOK.f
 repeat' first
   | (with_reducible exact ih0 _ _ _ _ _)
   | (with_reducible exact ih1 _ _ _ _)
   | (with_reducible exact slices_ContainsFunc_int_int__impl_stepOK_1.mono _ _)
   | (with_reducible exact LeO.refl _)
   | (with_reducible exact LeO.none _)
   | (with_reducible refine LeO.ite ?_ ?_)
   | (with_reducible refine LeO.bind ?_ (fun _ => ?_))
   | exact ih0 _ _ _ _ _
   | exact ih1 _ _ _ _
   | exact slices_ContainsFunc_int_int__impl_stepOK_1.mono _ _
   | exact LeO.none _
   | refine LeO.ite ?_ ?_
   | refine LeO.bind ?_ (fun _ => ?_)
set_option maxHeartbeats 8000000 in
set_option maxRecDepth 100000 in
theorem impl_stepOK.calls (k : Nat) (a0_0 : Int) (a0_1 : Int) (A0_2 : Option Addr) (c0_2 : Nat) (l0_2 : List Int) (r : Bool) (w : World) (hr0_2 : Kd.C (Kd.int .i64) w A0_2 l0_2.length l0_2) (hc0_2 : l0_2.length ≤ c0_2) (h : impl_stepOK.f k a0_0 a0_1 l0_2 = some r) :
  Calls Try.prog 78 #[.agg #[.int .i64 a0_0,.int .i64 a0_1,.slice A0_2 l0_2.length c0_2]] w fun e w' => e = .returned (.bool r) ∧ Below w.heap.size w w':=by
 have hu56:=Try.underlying56
 have HR0_2:=Aside0.mk hr0_2
 have HC0_2:=Aside0.mk hc0_2
 clear hr0_2 hc0_2
 have HB:=Aside0.mk (Below.refl w.heap.size w)
 have H : (if a0_0 = 22 then ((impl_depthOK.f a0_1).bind fun t291 => (if t291 = true then ((impl_within.f (l0_2.length : Int) 1 4).bind fun t292 => (if t292 = true then ((slices_ContainsFunc_int_int__impl_stepOK_1.f k l0_2).bind fun t293 => (some (!t293))) else (some false))) else (some false))) else (if (l0_2.length : Int) > 0 then (some false) else (if a0_0 = 1 then ((impl_within.f a0_1 0 65535).bind fun t294 => (some t294)) else (if a0_0 = 2 then (impl_stepOK.j0 k a0_0 (a0_0 == 2) a0_0 a0_1 l0_2) else (impl_stepOK.j0 k a0_0 (a0_0 == 3) a0_0 a0_1 l0_2))))) = some r:=h
 clear h
 by_cases c2 : a0_0 = 22
 ·rw [if_pos c2] at H
  have c2b0 : (a0_0 == 22) = true:=beq_iff_eq.mpr c2
  have c2b1 : (a0_0 != 22) = false:=bne_eq_false_iff_eq.mpr c2
  clear c2
  replace H:=Option.bind_eq_some_iff.mp H
  obtain ⟨t291,A30,H⟩:=H
  replace H : (if t291 = true then ((impl_within.f (l0_2.length : Int) 1 4).bind fun t292 => (if t292 = true then ((slices_ContainsFunc_int_int__impl_stepOK_1.f k l0_2).bind fun t293 => (some (!t293))) else (some false))) else (some false)) = some r:=H
  have A3:=Aside0.mk A30
  clear A30
  by_cases c4 : t291 = true
  ·subst c4
   have H1 : ((impl_within.f (l0_2.length : Int) 1 4).bind fun t292 => (if t292 = true then ((slices_ContainsFunc_int_int__impl_stepOK_1.f k l0_2).bind fun t293 => (some (!t293))) else (some false))) = some r:=by rw [if_pos rfl] at H;exact H
   clear H
   have H:=H1
   clear H1
   replace H:=Option.bind_eq_some_iff.mp H
   obtain ⟨t292,A50,H⟩:=H
   replace H : (if t292 = true then ((slices_ContainsFunc_int_int__impl_stepOK_1.f k l0_2).bind fun t293 => (some (!t293))) else (some false)) = some r:=H
   have A5:=Aside0.mk A50
   clear A50
   by_cases c6 : t292 = true
   ·subst c6
    have H1 : ((slices_ContainsFunc_int_int__impl_stepOK_1.f k l0_2).bind fun t293 => (some (!t293))) = some r:=by rw [if_pos rfl] at H;exact H
    clear H
    have H:=H1
    clear H1
    replace H:=Option.bind_eq_some_iff.mp H
    obtain ⟨t293,A70,H⟩:=H
    replace H : (some (!t293)) = some r:=H
    have A7:=Aside0.mk A70
    clear A70
    obtain rfl:=Option.some.inj H
    go_enter Try.func78,Try.ntmps78
    go_wp2_with (first | ((with_reducible refine gate_dst (N:=1) rfl ?_);(try (refine gate_guard (by rfl) ?_;dsimp only));refine box_event ?hg (N:=1) ?hd (cs:=#[.int .i64 a0_0,.int .i64 a0_1,.slice A0_2 l0_2.length c0_2]) (t:=56) ?hr ?_;(case hd => rfl);(case hg => rfl);(case hr => first | (go_simp;done) | (go_simp;rfl));intro gb290 hg w8 hbox hb;have n0_:=Aside0.mk (below_step (by repeat (first | (with_reducible first | exact HB.out | apply below_alloc | apply pw_below_drewN | apply below_drew1) | exact HB.out)) hb);have n1_:=Aside0.mk (hbox);have n2_:=Aside0.mk ((by rw [hg];exact (below_size (by repeat (first | (with_reducible first | exact HB.out | apply below_alloc | apply pw_below_drewN | apply below_drew1) | exact HB.out))) : w.heap.size ≤ gb290));have n3_:=Aside0.mk ((by rw [hg];exact (below_size (by repeat (first | (with_reducible first | exact HB.out | apply below_alloc | apply pw_below_drewN | apply below_drew1) | exact HB.out))) : w.heap.size ≤ gb290));clear HB;have HB:=n0_;have BK290:=n1_;have GW290:=n2_;have GE290:=n3_;clear n0_ n1_ n2_ n3_;clear hb hbox hg;have hcz9_0 : w8.cell? ⟨gb290,0,none⟩ = some (.int .i64 a0_0):=(blk_cell BK290.out 0).trans rfl;have hcz9_1 : w8.cell? ⟨gb290,1,none⟩ = some (.int .i64 a0_1):=(blk_cell BK290.out 1).trans rfl;have hcz9_2 : w8.cell? ⟨gb290,2,none⟩ = some (.slice A0_2 l0_2.length c0_2):=(blk_cell BK290.out 2).trans rfl;have hfz9_0:=blk_frozen BK290.out 0;have hfz9_1:=blk_frozen BK290.out 1;have hfz9_2:=blk_frozen BK290.out 2) | ((with_reducible refine gate_callee (f:=96) rfl ?_);refine goesL_ (some 8) rfl rfl Try.func96 (by kernel_rfl) rfl #[.int .i64 a0_1] rfl (by (try simp only [List.map_toArray,List.map_cons,List.map_nil]);first | done | rfl | (simp only [List.length_drop,List.length_take];rfl)) ?_;(with_reducible refine (impl_depthOK.calls a0_1 true _ A3.out).mono ?_);rintro e w' ⟨rfl,⟨nd,rfl⟩⟩;refine ⟨_,rfl,?_⟩) | (go_at_call 54;(with_reducible refine (impl_within.calls (l0_2.length : Int) 1 4 true _ A5.out).mono ?_);rintro e w' ⟨rfl,⟨nd,rfl⟩⟩) | (go_at_call 97;(with_reducible refine (slices_ContainsFunc_int_int__impl_stepOK_1.calls k _ _ l0_2  t293 _ ?side1 ?side2 A7.out).mono ?_);(case side1 => repeat (first | exact (Kd.C_below HR0_2.out (by repeat (first | (with_reducible first | exact HB.out | apply below_alloc | apply pw_below_drewN | apply below_drew1 | refine below_set ?_ GE290.out) | exact HB.out))) | (with_reducible refine Kd.C_alloc ?_ _) | (with_reducible refine Kd.C_drewN ?_ _) | (with_reducible refine Kd.C_drew ?_)));(case side2 => exact HC0_2.out);rintro e w' ⟨rfl,⟨nd,rfl⟩⟩))
    go_ret
    exact ⟨by first | rfl | (simp [errW_none,errW_some] <;> rfl) | (simp [*,errW_none,errW_some] <;> rfl),by repeat (first | (with_reducible first | exact HB.out | apply below_alloc | apply pw_below_drewN | apply below_drew1 | refine below_set ?_ GE290.out) | exact HB.out)⟩
   ·replace c6:=Bool.eq_false_iff.mpr c6
    subst c6
    have H1 : (some false) = some r:=by rw [if_neg (show ¬ (false = true) by decide)] at H;exact H
    clear H
    have H:=H1
    clear H1
    obtain rfl:=Option.some.inj H
    go_enter Try.func78,Try.ntmps78
    go_wp2_with (first | ((with_reducible refine gate_dst (N:=1) rfl ?_);(try (refine gate_guard (by rfl) ?_;dsimp only));refine box_event ?hg (N:=1) ?hd (cs:=#[.int .i64 a0_0,.int .i64 a0_1,.slice A0_2 l0_2.length c0_2]) (t:=56) ?hr ?_;(case hd => rfl);(case hg => rfl);(case hr => first | (go_simp;done) | (go_simp;rfl));intro gb290 hg w10 hbox hb;have n0_:=Aside0.mk (below_step (by repeat (first | (with_reducible first | exact HB.out | apply below_alloc | apply pw_below_drewN | apply below_drew1) | exact HB.out)) hb);have n1_:=Aside0.mk (hbox);have n2_:=Aside0.mk ((by rw [hg];exact (below_size (by repeat (first | (with_reducible first | exact HB.out | apply below_alloc | apply pw_below_drewN | apply below_drew1) | exact HB.out))) : w.heap.size ≤ gb290));have n3_:=Aside0.mk ((by rw [hg];exact (below_size (by repeat (first | (with_reducible first | exact HB.out | apply below_alloc | apply pw_below_drewN | apply below_drew1) | exact HB.out))) : w.heap.size ≤ gb290));clear HB;have HB:=n0_;have BK290:=n1_;have GW290:=n2_;have GE290:=n3_;clear n0_ n1_ n2_ n3_;clear hb hbox hg;have hcz11_0 : w10.cell? ⟨gb290,0,none⟩ = some (.int .i64 a0_0):=(blk_cell BK290.out 0).trans rfl;have hcz11_1 : w10.cell? ⟨gb290,1,none⟩ = some (.int .i64 a0_1):=(blk_cell BK290.out 1).trans rfl;have hcz11_2 : w10.cell? ⟨gb290,2,none⟩ = some (.slice A0_2 l0_2.length c0_2):=(blk_cell BK290.out 2).trans rfl;have hfz11_0:=blk_frozen BK290.out 0;have hfz11_1:=blk_frozen BK290.out 1;have hfz11_2:=blk_frozen BK290.out 2) | ((with_reducible refine gate_callee (f:=96) rfl ?_);refine goesL_ (some 8) rfl rfl Try.func96 (by kernel_rfl) rfl #[.int .i64 a0_1] rfl (by (try simp only [List.map_toArray,List.map_cons,List.map_nil]);first | done | rfl | (simp only [List.length_drop,List.length_take];rfl)) ?_;(with_reducible refine (impl_depthOK.calls a0_1 true _ A3.out).mono ?_);rintro e w' ⟨rfl,⟨nd,rfl⟩⟩;refine ⟨_,rfl,?_⟩) | (go_at_call 54;(with_reducible refine (impl_within.calls (l0_2.length : Int) 1 4 false _ A5.out).mono ?_);rintro e w' ⟨rfl,⟨nd,rfl⟩⟩))
    go_ret
    exact ⟨by first | rfl | (simp [errW_none,errW_some] <;> rfl) | (simp [*,errW_none,errW_some] <;> rfl),by repeat (first | (with_reducible first | exact HB.out | apply below_alloc | apply pw_below_drewN | apply below_drew1 | refine below_set ?_ GE290.out) | exact HB.out)⟩
  ·replace c4:=Bool.eq_false_iff.mpr c4
   subst c4
   have H1 : (some false) = some r:=by rw [if_neg (show ¬ (false = true) by decide)] at H;exact H
   clear H
   have H:=H1
   clear H1
   obtain rfl:=Option.some.inj H
   go_enter Try.func78,Try.ntmps78
   go_wp2_with (first | ((with_reducible refine gate_dst (N:=1) rfl ?_);(try (refine gate_guard (by rfl) ?_;dsimp only));refine box_event ?hg (N:=1) ?hd (cs:=#[.int .i64 a0_0,.int .i64 a0_1,.slice A0_2 l0_2.length c0_2]) (t:=56) ?hr ?_;(case hd => rfl);(case hg => rfl);(case hr => first | (go_simp;done) | (go_simp;rfl));intro gb290 hg w12 hbox hb;have n0_:=Aside0.mk (below_step (by repeat (first | (with_reducible first | exact HB.out | apply below_alloc | apply pw_below_drewN | apply below_drew1) | exact HB.out)) hb);have n1_:=Aside0.mk (hbox);have n2_:=Aside0.mk ((by rw [hg];exact (below_size (by repeat (first | (with_reducible first | exact HB.out | apply below_alloc | apply pw_below_drewN | apply below_drew1) | exact HB.out))) : w.heap.size ≤ gb290));have n3_:=Aside0.mk ((by rw [hg];exact (below_size (by repeat (first | (with_reducible first | exact HB.out | apply below_alloc | apply pw_below_drewN | apply below_drew1) | exact HB.out))) : w.heap.size ≤ gb290));clear HB;have HB:=n0_;have BK290:=n1_;have GW290:=n2_;have GE290:=n3_;clear n0_ n1_ n2_ n3_;clear hb hbox hg;have hcz13_0 : w12.cell? ⟨gb290,0,none⟩ = some (.int .i64 a0_0):=(blk_cell BK290.out 0).trans rfl;have hcz13_1 : w12.cell? ⟨gb290,1,none⟩ = some (.int .i64 a0_1):=(blk_cell BK290.out 1).trans rfl;have hcz13_2 : w12.cell? ⟨gb290,2,none⟩ = some (.slice A0_2 l0_2.length c0_2):=(blk_cell BK290.out 2).trans rfl;have hfz13_0:=blk_frozen BK290.out 0;have hfz13_1:=blk_frozen BK290.out 1;have hfz13_2:=blk_frozen BK290.out 2) | ((with_reducible refine gate_callee (f:=96) rfl ?_);refine goesL_ (some 8) rfl rfl Try.func96 (by kernel_rfl) rfl #[.int .i64 a0_1] rfl (by (try simp only [List.map_toArray,List.map_cons,List.map_nil]);first | done | rfl | (simp only [List.length_drop,List.length_take];rfl)) ?_;(with_reducible refine (impl_depthOK.calls a0_1 false _ A3.out).mono ?_);rintro e w' ⟨rfl,⟨nd,rfl⟩⟩;refine ⟨_,rfl,?_⟩))
   go_ret
   exact ⟨by first | rfl | (simp [errW_none,errW_some] <;> rfl) | (simp [*,errW_none,errW_some] <;> rfl),by repeat (first | (with_reducible first | exact HB.out | apply below_alloc | apply pw_below_drewN | apply below_drew1 | refine below_set ?_ GE290.out) | exact HB.out)⟩
 ·rw [if_neg c2] at H
  have c2b0 : (a0_0 == 22) = false:=beq_eq_false_iff_ne.mpr c2
  have c2b1 : (a0_0 != 22) = true:=bne_iff_ne.mpr c2
  by_cases c14 : (l0_2.length : Int) > 0
  ·rw [if_pos c14] at H
   have c14b0 : decide (0 < (l0_2.length : Int)) = true:=decide_eq_true c14
   have c14b1 : decide (0 < l0_2.length) = true:=decide_eq_true (by omega)
   clear c14
   obtain rfl:=Option.some.inj H
   go_enter Try.func78,Try.ntmps78
   go_wp2_with (first | ((with_reducible refine gate_dst (N:=1) rfl ?_);(try (refine gate_guard (by rfl) ?_;dsimp only));refine box_event ?hg (N:=1) ?hd (cs:=#[.int .i64 a0_0,.int .i64 a0_1,.slice A0_2 l0_2.length c0_2]) (t:=56) ?hr ?_;(case hd => rfl);(case hg => rfl);(case hr => first | (go_simp;done) | (go_simp;rfl));intro gb290 hg w15 hbox hb;have n0_:=Aside0.mk (below_step (by repeat (first | (with_reducible first | exact HB.out | apply below_alloc | apply pw_below_drewN | apply below_drew1) | exact HB.out)) hb);have n1_:=Aside0.mk (hbox);have n2_:=Aside0.mk ((by rw [hg];exact (below_size (by repeat (first | (with_reducible first | exact HB.out | apply below_alloc | apply pw_below_drewN | apply below_drew1) | exact HB.out))) : w.heap.size ≤ gb290));have n3_:=Aside0.mk ((by rw [hg];exact (below_size (by repeat (first | (with_reducible first | exact HB.out | apply below_alloc | apply pw_below_drewN | apply below_drew1) | exact HB.out))) : w.heap.size ≤ gb290));clear HB;have HB:=n0_;have BK290:=n1_;have GW290:=n2_;have GE290:=n3_;clear n0_ n1_ n2_ n3_;clear hb hbox hg;have hcz16_0 : w15.cell? ⟨gb290,0,none⟩ = some (.int .i64 a0_0):=(blk_cell BK290.out 0).trans rfl;have hcz16_1 : w15.cell? ⟨gb290,1,none⟩ = some (.int .i64 a0_1):=(blk_cell BK290.out 1).trans rfl;have hcz16_2 : w15.cell? ⟨gb290,2,none⟩ = some (.slice A0_2 l0_2.length c0_2):=(blk_cell BK290.out 2).trans rfl;have hfz16_0:=blk_frozen BK290.out 0;have hfz16_1:=blk_frozen BK290.out 1;have hfz16_2:=blk_frozen BK290.out 2))
   go_ret
   exact ⟨by first | rfl | (simp [errW_none,errW_some] <;> rfl) | (simp [*,errW_none,errW_some] <;> rfl),by repeat (first | (with_reducible first | exact HB.out | apply below_alloc | apply pw_below_drewN | apply below_drew1 | refine below_set ?_ GE290.out) | exact HB.out)⟩
  ·rw [if_neg c14] at H
   have c14b0 : decide (0 < (l0_2.length : Int)) = false:=decide_eq_false c14
   have c14b1 : decide (0 < l0_2.length) = false:=decide_eq_false (by omega)
   clear c14
   by_cases c17 : a0_0 = 1
   ·rw [if_pos c17] at H
    have c17b0 : (a0_0 == 1) = true:=beq_iff_eq.mpr c17
    have c17b1 : (a0_0 != 1) = false:=bne_eq_false_iff_eq.mpr c17
    clear c17
    replace H:=Option.bind_eq_some_iff.mp H
    obtain ⟨t294,A180,H⟩:=H
    replace H : (some t294) = some r:=H
    have A18:=Aside0.mk A180
    clear A180
    obtain rfl:=Option.some.inj H
    go_enter Try.func78,Try.ntmps78
    go_wp2_with (first | ((with_reducible refine gate_dst (N:=1) rfl ?_);(try (refine gate_guard (by rfl) ?_;dsimp only));refine box_event ?hg (N:=1) ?hd (cs:=#[.int .i64 a0_0,.int .i64 a0_1,.slice A0_2 l0_2.length c0_2]) (t:=56) ?hr ?_;(case hd => rfl);(case hg => rfl);(case hr => first | (go_simp;done) | (go_simp;rfl));intro gb290 hg w19 hbox hb;have n0_:=Aside0.mk (below_step (by repeat (first | (with_reducible first | exact HB.out | apply below_alloc | apply pw_below_drewN | apply below_drew1) | exact HB.out)) hb);have n1_:=Aside0.mk (hbox);have n2_:=Aside0.mk ((by rw [hg];exact (below_size (by repeat (first | (with_reducible first | exact HB.out | apply below_alloc | apply pw_below_drewN | apply below_drew1) | exact HB.out))) : w.heap.size ≤ gb290));have n3_:=Aside0.mk ((by rw [hg];exact (below_size (by repeat (first | (with_reducible first | exact HB.out | apply below_alloc | apply pw_below_drewN | apply below_drew1) | exact HB.out))) : w.heap.size ≤ gb290));clear HB;have HB:=n0_;have BK290:=n1_;have GW290:=n2_;have GE290:=n3_;clear n0_ n1_ n2_ n3_;clear hb hbox hg;have hcz20_0 : w19.cell? ⟨gb290,0,none⟩ = some (.int .i64 a0_0):=(blk_cell BK290.out 0).trans rfl;have hcz20_1 : w19.cell? ⟨gb290,1,none⟩ = some (.int .i64 a0_1):=(blk_cell BK290.out 1).trans rfl;have hcz20_2 : w19.cell? ⟨gb290,2,none⟩ = some (.slice A0_2 l0_2.length c0_2):=(blk_cell BK290.out 2).trans rfl;have hfz20_0:=blk_frozen BK290.out 0;have hfz20_1:=blk_frozen BK290.out 1;have hfz20_2:=blk_frozen BK290.out 2) | ((with_reducible refine gate_callee (f:=54) rfl ?_);refine goesL_ (some 31) rfl rfl Try.func54 (by kernel_rfl) rfl #[.int .i64 a0_1,.int .i64 0,.int .i64 65535] rfl (by (try simp only [List.map_toArray,List.map_cons,List.map_nil]);first | done | rfl | (simp only [List.length_drop,List.length_take];rfl)) ?_;(with_reducible refine (impl_within.calls a0_1 0 65535 t294 _ A18.out).mono ?_);rintro e w' ⟨rfl,⟨nd,rfl⟩⟩;refine ⟨_,rfl,?_⟩))
    go_ret
    exact ⟨by first | rfl | (simp [errW_none,errW_some] <;> rfl) | (simp [*,errW_none,errW_some] <;> rfl),by repeat (first | (with_reducible first | exact HB.out | apply below_alloc | apply pw_below_drewN | apply below_drew1 | refine below_set ?_ GE290.out) | exact HB.out)⟩
   ·rw [if_neg c17] at H
    have c17b0 : (a0_0 == 1) = false:=beq_eq_false_iff_ne.mpr c17
    have c17b1 : (a0_0 != 1) = true:=bne_iff_ne.mpr c17
    have HC21:=Aside0.mk H
    clear H
    go_enter Try.func78,Try.ntmps78
    go_upto_if 32 with (first | ((with_reducible refine gate_dst (N:=1) rfl ?_);(try (refine gate_guard (by rfl) ?_;dsimp only));refine box_event ?hg (N:=1) ?hd (cs:=#[.int .i64 a0_0,.int .i64 a0_1,.slice A0_2 l0_2.length c0_2]) (t:=56) ?hr ?_;(case hd => rfl);(case hg => rfl);(case hr => first | (go_simp;done) | (go_simp;rfl));intro gb290 hg w22 hbox hb;have n0_:=Aside0.mk (below_step (by repeat (first | (with_reducible first | exact HB.out | apply below_alloc | apply pw_below_drewN | apply below_drew1) | exact HB.out)) hb);have n1_:=Aside0.mk (hbox);have n2_:=Aside0.mk ((by rw [hg];exact (below_size (by repeat (first | (with_reducible first | exact HB.out | apply below_alloc | apply pw_below_drewN | apply below_drew1) | exact HB.out))) : w.heap.size ≤ gb290));have n3_:=Aside0.mk ((by rw [hg];exact (below_size (by repeat (first | (with_reducible first | exact HB.out | apply below_alloc | apply pw_below_drewN | apply below_drew1) | exact HB.out))) : w.heap.size ≤ gb290));clear HB;have HB:=n0_;have BK290:=n1_;have GW290:=n2_;have GE290:=n3_;clear n0_ n1_ n2_ n3_;clear hb hbox hg;have hcz23_0 : w22.cell? ⟨gb290,0,none⟩ = some (.int .i64 a0_0):=(blk_cell BK290.out 0).trans rfl;have hcz23_1 : w22.cell? ⟨gb290,1,none⟩ = some (.int .i64 a0_1):=(blk_cell BK290.out 1).trans rfl;have hcz23_2 : w22.cell? ⟨gb290,2,none⟩ = some (.slice A0_2 l0_2.length c0_2):=(blk_cell BK290.out 2).trans rfl;have hfz23_0:=blk_frozen BK290.out 0;have hfz23_1:=blk_frozen BK290.out 1;have hfz23_2:=blk_frozen BK290.out 2))
    (try simp only [Act.put,List.setIfInBounds_toArray,List.set_cons_zero,List.set_cons_succ])
    go_cut [32] (fun v32 wc => ∃ (kq : Nat) (x32_20 : Bool),v32 = .bool x32_20 ∧ Aside0 (impl_stepOK.j0 kq a0_0 x32_20 a0_0 a0_1 l0_2 = some r) ∧ Aside0 (kq ≤ k) ∧ Aside0 (wc.heap[gb290]? = some (.cells #[.int .i64 a0_0,.int .i64 a0_1,(.slice A0_2 l0_2.length c0_2)] 56 (0,0))) ∧ Aside0 (Below w.heap.size w wc))
    case first =>
     have H:=HC21.out
     clear HC21
     by_cases c24 : a0_0 = 2
     ·rw [if_pos c24] at H
      have c24b0 : (a0_0 == 2) = true:=beq_iff_eq.mpr c24
      have c24b1 : (a0_0 != 2) = false:=bne_eq_false_iff_eq.mpr c24
      clear c24
      (first | rw [c24b0] | (simp only [i64_w,i32_w];rw [c24b0]) | skip)
      have H':=Aside0.mk H
      clear H
      go_wp2
      go_meet
      case rel => exact ⟨_,((a0_0 == 2)),(by first | rfl | (simp;done) | (simp [*];done)),H',⟨by first | omega | exact Nat.le_refl _⟩,⟨by (with_reducible repeat (first | refine blk_drewN ?_ _ | refine blk_drew ?_ | refine blk_alloc ?_ _));exact BK290.out⟩,⟨by repeat (first | (with_reducible first | exact HB.out | apply below_alloc | apply pw_below_drewN | apply below_drew1 | refine below_set ?_ GE290.out) | exact HB.out)⟩⟩
     ·rw [if_neg c24] at H
      have c24b0 : (a0_0 == 2) = false:=beq_eq_false_iff_ne.mpr c24
      have c24b1 : (a0_0 != 2) = true:=bne_iff_ne.mpr c24
      (first | rw [c24b0] | (simp only [i64_w,i32_w];rw [c24b0]) | skip)
      have H':=Aside0.mk H
      clear H
      go_wp2
      go_meet
      case rel => exact ⟨_,((a0_0 == 3)),(by first | rfl | (simp;done) | (simp [*];done)),H',⟨by first | omega | exact Nat.le_refl _⟩,⟨by (with_reducible repeat (first | refine blk_drewN ?_ _ | refine blk_drew ?_ | refine blk_alloc ?_ _));exact BK290.out⟩,⟨by repeat (first | (with_reducible first | exact HB.out | apply below_alloc | apply pw_below_drewN | apply below_drew1 | refine below_set ?_ GE290.out) | exact HB.out)⟩⟩
    case rest =>
     clear HC21
     try clear c1
     try clear c2
     try clear c2b0
     try clear c2b1
     try clear p2
     try clear c4
     try clear c5
     try clear c6
     try clear c7
     try clear c9
     try clear c14
     try clear c14b0
     try clear c14b1
     try clear c17
     try clear c17b0
     try clear c17b1
     try clear c24
     try clear c24b0
     try clear c24b1
     try clear hcz11_0
     try clear hcz11_1
     try clear hcz11_2
     try clear hcz13_0
     try clear hcz13_1
     try clear hcz13_2
     try clear hcz16_0
     try clear hcz16_1
     try clear hcz16_2
     try clear hcz20_0
     try clear hcz20_1
     try clear hcz20_2
     try clear hcz23_0
     try clear hcz23_1
     try clear hcz23_2
     try clear hcz9_0
     try clear hcz9_1
     try clear hcz9_2
     try clear hfz11_0
     try clear hfz11_1
     try clear hfz11_2
     try clear hfz13_0
     try clear hfz13_1
     try clear hfz13_2
     try clear hfz16_0
     try clear hfz16_1
     try clear hfz16_2
     try clear hfz20_0
     try clear hfz20_1
     try clear hfz20_2
     try clear hfz23_0
     try clear hfz23_1
     try clear hfz23_2
     try clear hfz9_0
     try clear hfz9_1
     try clear hfz9_2
     obtain ⟨kq,x32_20,rfl,HA,HJ20,BK290,HB⟩:=hcut
     cases kq with
     | zero => exact absurd HA.out (by simp [impl_stepOK.j0])
     | succ kj20 =>
      have H:=HA.out
      clear HA
      simp only [impl_stepOK.j0] at H
      by_cases c25 : x32_20 = true
      ·subst c25
       have H1 : ((impl_within.f a0_1 0 7).bind fun t295 => (some t295)) = some r:=by rw [if_pos rfl] at H;exact H
       clear H
       have H:=H1
       clear H1
       replace H:=Option.bind_eq_some_iff.mp H
       obtain ⟨t295,A260,H⟩:=H
       replace H : (some t295) = some r:=H
       have A26:=Aside0.mk A260
       clear A260
       obtain rfl:=Option.some.inj H
       have hcz27_0 : wc.cell? ⟨gb290,0,none⟩ = some (.int .i64 a0_0):=(blk_cell BK290.out 0).trans rfl
       have hcz27_1 : wc.cell? ⟨gb290,1,none⟩ = some (.int .i64 a0_1):=(blk_cell BK290.out 1).trans rfl
       have hcz27_2 : wc.cell? ⟨gb290,2,none⟩ = some (.slice A0_2 l0_2.length c0_2):=(blk_cell BK290.out 2).trans rfl
       have hfz27_0:=blk_frozen BK290.out 0
       have hfz27_1:=blk_frozen BK290.out 1
       have hfz27_2:=blk_frozen BK290.out 2
       go_wp2_with (first | ((with_reducible refine gate_callee (f:=54) rfl ?_);refine goesL_ (some 37) rfl rfl Try.func54 (by kernel_rfl) rfl #[.int .i64 a0_1,.int .i64 0,.int .i64 7] rfl (by (try simp only [List.map_toArray,List.map_cons,List.map_nil]);first | done | rfl | (simp only [List.length_drop,List.length_take];rfl)) ?_;(with_reducible refine (impl_within.calls a0_1 0 7 t295 _ A26.out).mono ?_);rintro e w' ⟨rfl,⟨nd,rfl⟩⟩;refine ⟨_,rfl,?_⟩))
       go_ret
       exact ⟨by first | rfl | (simp [errW_none,errW_some] <;> rfl) | (simp [*,errW_none,errW_some] <;> rfl),by repeat (first | (with_reducible first | exact HB.out | apply below_alloc | apply pw_below_drewN | apply below_drew1 | refine below_set ?_ GE290.out) | exact HB.out)⟩
      ·replace c25:=Bool.eq_false_iff.mpr c25
       subst c25
       have H1 : (if a0_0 = 20 then (impl_stepOK.j1 kj20 (a0_0 == 20) a0_0 a0_1 l0_2) else (impl_stepOK.j1 kj20 (a0_0 == 21) a0_0 a0_1 l0_2)) = some r:=by rw [if_neg (show ¬ (false = true) by decide)] at H;exact H
       clear H
       have H:=H1
       clear H1
       have HC28:=Aside0.mk H
       clear H
       go_upto_if 38 with (fail)
       go_cut [38] (fun v38 wc => ∃ (kq : Nat) (x38_27 : Bool),v38 = .bool x38_27 ∧ Aside0 (impl_stepOK.j1 kq x38_27 a0_0 a0_1 l0_2 = some r) ∧ Aside0 (kq ≤ kj20) ∧ Aside0 (wc.heap[gb290]? = some (.cells #[.int .i64 a0_0,.int .i64 a0_1,(.slice A0_2 l0_2.length c0_2)] 56 (0,0))) ∧ Aside0 (Below w.heap.size w wc))
       case first =>
        have H:=HC28.out
        clear HC28
        by_cases c29 : a0_0 = 20
        ·rw [if_pos c29] at H
         have c29b0 : (a0_0 == 20) = true:=beq_iff_eq.mpr c29
         have c29b1 : (a0_0 != 20) = false:=bne_eq_false_iff_eq.mpr c29
         clear c29
         (first | rw [c29b0] | (simp only [i64_w,i32_w];rw [c29b0]) | skip)
         have H':=Aside0.mk H
         clear H
         go_wp2
         go_meet
         case rel => exact ⟨_,((a0_0 == 20)),(by first | rfl | (simp;done) | (simp [*];done)),H',⟨by have:=HJ20.out;first | omega | exact Nat.le_refl _⟩,⟨by (with_reducible repeat (first | refine blk_drewN ?_ _ | refine blk_drew ?_ | refine blk_alloc ?_ _));exact BK290.out⟩,⟨by repeat (first | (with_reducible first | exact HB.out | apply below_alloc | apply pw_below_drewN | apply below_drew1 | refine below_set ?_ GE290.out) | exact HB.out)⟩⟩
        ·rw [if_neg c29] at H
         have c29b0 : (a0_0 == 20) = false:=beq_eq_false_iff_ne.mpr c29
         have c29b1 : (a0_0 != 20) = true:=bne_iff_ne.mpr c29
         (first | rw [c29b0] | (simp only [i64_w,i32_w];rw [c29b0]) | skip)
         have H':=Aside0.mk H
         clear H
         go_wp2
         go_meet
         case rel => exact ⟨_,((a0_0 == 21)),(by first | rfl | (simp;done) | (simp [*];done)),H',⟨by have:=HJ20.out;first | omega | exact Nat.le_refl _⟩,⟨by (with_reducible repeat (first | refine blk_drewN ?_ _ | refine blk_drew ?_ | refine blk_alloc ?_ _));exact BK290.out⟩,⟨by repeat (first | (with_reducible first | exact HB.out | apply below_alloc | apply pw_below_drewN | apply below_drew1 | refine below_set ?_ GE290.out) | exact HB.out)⟩⟩
       case rest =>
        clear HC28
        try clear c1
        try clear c2
        try clear c2b0
        try clear c2b1
        try clear p2
        try clear c4
        try clear c5
        try clear c6
        try clear c7
        try clear c9
        try clear c14
        try clear c14b0
        try clear c14b1
        try clear c17
        try clear c17b0
        try clear c17b1
        try clear c24
        try clear c24b0
        try clear c24b1
        try clear c25
        try clear c29
        try clear c29b0
        try clear c29b1
        try clear hcz11_0
        try clear hcz11_1
        try clear hcz11_2
        try clear hcz13_0
        try clear hcz13_1
        try clear hcz13_2
        try clear hcz16_0
        try clear hcz16_1
        try clear hcz16_2
        try clear hcz20_0
        try clear hcz20_1
        try clear hcz20_2
        try clear hcz23_0
        try clear hcz23_1
        try clear hcz23_2
        try clear hcz27_0
        try clear hcz27_1
        try clear hcz27_2
        try clear hcz9_0
        try clear hcz9_1
        try clear hcz9_2
        try clear hfz11_0
        try clear hfz11_1
        try clear hfz11_2
        try clear hfz13_0
        try clear hfz13_1
        try clear hfz13_2
        try clear hfz16_0
        try clear hfz16_1
        try clear hfz16_2
        try clear hfz20_0
        try clear hfz20_1
        try clear hfz20_2
        try clear hfz23_0
        try clear hfz23_1
        try clear hfz23_2
        try clear hfz27_0
        try clear hfz27_1
        try clear hfz27_2
        try clear hfz9_0
        try clear hfz9_1
        try clear hfz9_2
        try clear p2
        obtain ⟨kq,x38_27,rfl,HA,HJ27,BK290,HB⟩:=hcut
        cases kq with
        | zero => exact absurd HA.out (by simp [impl_stepOK.j1])
        | succ kj27 =>
         have H:=HA.out
         clear HA
         simp only [impl_stepOK.j1] at H
         by_cases c30 : x38_27 = true
         ·subst c30
          have H1 : ((impl_depthOK.f a0_1).bind fun t296 => (some t296)) = some r:=by rw [if_pos rfl] at H;exact H
          clear H
          have H:=H1
          clear H1
          replace H:=Option.bind_eq_some_iff.mp H
          obtain ⟨t296,A310,H⟩:=H
          replace H : (some t296) = some r:=H
          have A31:=Aside0.mk A310
          clear A310
          obtain rfl:=Option.some.inj H
          have hcz32_0 : wc.cell? ⟨gb290,0,none⟩ = some (.int .i64 a0_0):=(blk_cell BK290.out 0).trans rfl
          have hcz32_1 : wc.cell? ⟨gb290,1,none⟩ = some (.int .i64 a0_1):=(blk_cell BK290.out 1).trans rfl
          have hcz32_2 : wc.cell? ⟨gb290,2,none⟩ = some (.slice A0_2 l0_2.length c0_2):=(blk_cell BK290.out 2).trans rfl
          have hfz32_0:=blk_frozen BK290.out 0
          have hfz32_1:=blk_frozen BK290.out 1
          have hfz32_2:=blk_frozen BK290.out 2
          go_wp2_with (first | ((with_reducible refine gate_callee (f:=96) rfl ?_);refine goesL_ (some 43) rfl rfl Try.func96 (by kernel_rfl) rfl #[.int .i64 a0_1] rfl (by (try simp only [List.map_toArray,List.map_cons,List.map_nil]);first | done | rfl | (simp only [List.length_drop,List.length_take];rfl)) ?_;(with_reducible refine (impl_depthOK.calls a0_1 t296 _ A31.out).mono ?_);rintro e w' ⟨rfl,⟨nd,rfl⟩⟩;refine ⟨_,rfl,?_⟩))
          go_ret
          exact ⟨by first | rfl | (simp [errW_none,errW_some] <;> rfl) | (simp [*,errW_none,errW_some] <;> rfl),by repeat (first | (with_reducible first | exact HB.out | apply below_alloc | apply pw_below_drewN | apply below_drew1 | refine below_set ?_ GE290.out) | exact HB.out)⟩
         ·replace c30:=Bool.eq_false_iff.mpr c30
          subst c30
          have H1 : ((impl_within.f a0_0 1 22).bind fun t297 => (if t297 = true then (some (a0_1 == 0)) else (some false))) = some r:=by rw [if_neg (show ¬ (false = true) by decide)] at H;exact H
          clear H
          have H:=H1
          clear H1
          replace H:=Option.bind_eq_some_iff.mp H
          obtain ⟨t297,A330,H⟩:=H
          replace H : (if t297 = true then (some (a0_1 == 0)) else (some false)) = some r:=H
          have A33:=Aside0.mk A330
          clear A330
          by_cases c34 : t297 = true
          ·subst c34
           have H1 : (some (a0_1 == 0)) = some r:=by rw [if_pos rfl] at H;exact H
           clear H
           have H:=H1
           clear H1
           obtain rfl:=Option.some.inj H
           have hcz35_0 : wc.cell? ⟨gb290,0,none⟩ = some (.int .i64 a0_0):=(blk_cell BK290.out 0).trans rfl
           have hcz35_1 : wc.cell? ⟨gb290,1,none⟩ = some (.int .i64 a0_1):=(blk_cell BK290.out 1).trans rfl
           have hcz35_2 : wc.cell? ⟨gb290,2,none⟩ = some (.slice A0_2 l0_2.length c0_2):=(blk_cell BK290.out 2).trans rfl
           have hfz35_0:=blk_frozen BK290.out 0
           have hfz35_1:=blk_frozen BK290.out 1
           have hfz35_2:=blk_frozen BK290.out 2
           go_wp2_with (first | ((with_reducible refine gate_callee (f:=54) rfl ?_);refine goesL_ (some 46) rfl rfl Try.func54 (by kernel_rfl) rfl #[.int .i64 a0_0,.int .i64 1,.int .i64 22] rfl (by (try simp only [List.map_toArray,List.map_cons,List.map_nil]);first | done | rfl | (simp only [List.length_drop,List.length_take];rfl)) ?_;(with_reducible refine (impl_within.calls a0_0 1 22 true _ A33.out).mono ?_);rintro e w' ⟨rfl,⟨nd,rfl⟩⟩;refine ⟨_,rfl,?_⟩))
           go_ret
           exact ⟨by first | rfl | (simp [errW_none,errW_some] <;> rfl) | (simp [*,errW_none,errW_some] <;> rfl),by repeat (first | (with_reducible first | exact HB.out | apply below_alloc | apply pw_below_drewN | apply below_drew1 | refine below_set ?_ GE290.out) | exact HB.out)⟩
          ·replace c34:=Bool.eq_false_iff.mpr c34
           subst c34
           have H1 : (some false) = some r:=by rw [if_neg (show ¬ (false = true) by decide)] at H;exact H
           clear H
           have H:=H1
           clear H1
           obtain rfl:=Option.some.inj H
           have hcz36_0 : wc.cell? ⟨gb290,0,none⟩ = some (.int .i64 a0_0):=(blk_cell BK290.out 0).trans rfl
           have hcz36_1 : wc.cell? ⟨gb290,1,none⟩ = some (.int .i64 a0_1):=(blk_cell BK290.out 1).trans rfl
           have hcz36_2 : wc.cell? ⟨gb290,2,none⟩ = some (.slice A0_2 l0_2.length c0_2):=(blk_cell BK290.out 2).trans rfl
           have hfz36_0:=blk_frozen BK290.out 0
           have hfz36_1:=blk_frozen BK290.out 1
           have hfz36_2:=blk_frozen BK290.out 2
           go_wp2_with (first | ((with_reducible refine gate_callee (f:=54) rfl ?_);refine goesL_ (some 46) rfl rfl Try.func54 (by kernel_rfl) rfl #[.int .i64 a0_0,.int .i64 1,.int .i64 22] rfl (by (try simp only [List.map_toArray,List.map_cons,List.map_nil]);first | done | rfl | (simp only [List.length_drop,List.length_take];rfl)) ?_;(with_reducible refine (impl_within.calls a0_0 1 22 false _ A33.out).mono ?_);rintro e w' ⟨rfl,⟨nd,rfl⟩⟩;refine ⟨_,rfl,?_⟩))
           go_ret
           exact ⟨by first | rfl | (simp [errW_none,errW_some] <;> rfl) | (simp [*,errW_none,errW_some] <;> rfl),by repeat (first | (with_reducible first | exact HB.out | apply below_alloc | apply pw_below_drewN | apply below_drew1 | refine below_set ?_ GE290.out) | exact HB.out)⟩

/-! ### impl_shapeOf_1: function 77 -/
def impl_shapeOf_1.f (k : Nat) (a0_0 : Int) (a0_1 : Int) (l0_2 : List Int) : Option (Bool):=(impl_stepOK.f k a0_0 a0_1 l0_2).bind fun t299 => (some (!t299))
theorem impl_shapeOf_1.mono : ∀ a0 a1 a2 k,LeO (impl_shapeOf_1.f k a0 a1 a2) (impl_shapeOf_1.f (k + 1) a0 a1 a2):=by
 intro a0 a1 a2 k
 unfold impl_shapeOf_1.f
 repeat' first
   | (with_reducible exact impl_stepOK.mono _ _ _ _)
   | (with_reducible exact LeO.refl _)
   | (with_reducible exact LeO.none _)
   | (with_reducible refine LeO.ite ?_ ?_)
   | (with_reducible refine LeO.bind ?_ (fun _ => ?_))
   | exact impl_stepOK.mono _ _ _ _
   | exact LeO.none _
   | refine LeO.ite ?_ ?_
   | refine LeO.bind ?_ (fun _ => ?_)
set_option maxHeartbeats 8000000 in
set_option maxRecDepth 100000 in
theorem impl_shapeOf_1.calls (k : Nat) (a0_0 : Int) (a0_1 : Int) (A0_2 : Option Addr) (c0_2 : Nat) (l0_2 : List Int) (r : Bool) (w : World) (hr0_2 : Kd.C (Kd.int .i64) w A0_2 l0_2.length l0_2) (hc0_2 : l0_2.length ≤ c0_2) (h : impl_shapeOf_1.f k a0_0 a0_1 l0_2 = some r) :
  Calls Try.prog 77 #[.agg #[.int .i64 a0_0,.int .i64 a0_1,.slice A0_2 l0_2.length c0_2]] w fun e w' => e = .returned (.bool r) ∧ Below w.heap.size w w':=by
 have hu56:=Try.underlying56
 have HR0_2:=Aside0.mk hr0_2
 have HC0_2:=Aside0.mk hc0_2
 clear hr0_2 hc0_2
 have HB:=Aside0.mk (Below.refl w.heap.size w)
 have H : ((impl_stepOK.f k a0_0 a0_1 l0_2).bind fun t299 => (some (!t299))) = some r:=h
 clear h
 replace H:=Option.bind_eq_some_iff.mp H
 obtain ⟨t299,A20,H⟩:=H
 replace H : (some (!t299)) = some r:=H
 have A2:=Aside0.mk A20
 clear A20
 obtain rfl:=Option.some.inj H
 go_enter Try.func77,Try.ntmps77
 go_wp2_with (first | ((with_reducible refine gate_dst (N:=1) rfl ?_);refine box_event ?hg (N:=1) ?hd (cs:=#[.int .i64 a0_0,.int .i64 a0_1,.slice A0_2 l0_2.length c0_2]) (t:=56) ?hr ?_;(case hd => rfl);(case hg => rfl);(case hr => first | (go_simp;done) | (go_simp;rfl));intro gb298 hg w3 hbox hb;have n0_:=Aside0.mk (below_step (by repeat (first | (with_reducible first | exact HB.out | apply below_alloc | apply pw_below_drewN | apply below_drew1) | exact HB.out)) hb);have n1_:=Aside0.mk (hbox);have n2_:=Aside0.mk ((by rw [hg];exact (below_size (by repeat (first | (with_reducible first | exact HB.out | apply below_alloc | apply pw_below_drewN | apply below_drew1) | exact HB.out))) : w.heap.size ≤ gb298));have n3_:=Aside0.mk ((by rw [hg];exact (below_size (by repeat (first | (with_reducible first | exact HB.out | apply below_alloc | apply pw_below_drewN | apply below_drew1) | exact HB.out))) : w.heap.size ≤ gb298));clear HB;have HB:=n0_;have BK298:=n1_;have GW298:=n2_;have GE298:=n3_;clear n0_ n1_ n2_ n3_;clear hb hbox hg;have hcz4_0 : w3.cell? ⟨gb298,0,none⟩ = some (.int .i64 a0_0):=(blk_cell BK298.out 0).trans rfl;have hcz4_1 : w3.cell? ⟨gb298,1,none⟩ = some (.int .i64 a0_1):=(blk_cell BK298.out 1).trans rfl;have hcz4_2 : w3.cell? ⟨gb298,2,none⟩ = some (.slice A0_2 l0_2.length c0_2):=(blk_cell BK298.out 2).trans rfl;have hfz4_0:=blk_frozen BK298.out 0;have hfz4_1:=blk_frozen BK298.out 1;have hfz4_2:=blk_frozen BK298.out 2) | ((with_reducible refine gate_callee (f:=78) rfl ?_);refine goesL_ (some 4) rfl rfl Try.func78 (by kernel_rfl) rfl #[.agg #[.int .i64 a0_0,.int .i64 a0_1,.slice A0_2 l0_2.length c0_2]] rfl (by (try simp only [List.map_toArray,List.map_cons,List.map_nil]);first | done | rfl | (simp only [List.length_drop,List.length_take];rfl)) ?_;(with_reducible refine (impl_stepOK.calls k a0_0 a0_1 _ _ l0_2 t299 _ ?side1 ?side2 A2.out).mono ?_);(case side1 => repeat (first | exact (Kd.C_below HR0_2.out HB.out) | (with_reducible refine Kd.C_alloc ?_ _) | (with_reducible refine Kd.C_drewN ?_ _) | (with_reducible refine Kd.C_drew ?_)));(case side2 => exact HC0_2.out);rintro e w5 ⟨rfl,hb⟩;refine ⟨_,rfl,?_⟩;have n0_:=Aside0.mk (blk_below (g:=gb298) (o:=.cells #[.int .i64 a0_0,.int .i64 a0_1,.slice A0_2 l0_2.length c0_2] 56 (0,0)) (by (with_reducible repeat (first | refine blk_drewN ?_ _ | refine blk_drew ?_ | refine blk_alloc ?_ _));exact BK298.out) hb);have n1_:=Aside0.mk (below_step (by repeat (first | (with_reducible first | exact HB.out | apply below_alloc | apply pw_below_drewN | apply below_drew1 | refine below_set ?_ GE298.out) | exact HB.out)) hb);clear BK298;clear HB;have BK298:=n0_;have HB:=n1_;clear n0_ n1_;(try clear hb);(try clear hb2);(try clear hk);(try clear hi)))
 go_ret
 exact ⟨by first | rfl | (simp [errW_none,errW_some] <;> rfl) | (simp [*,errW_none,errW_some] <;> rfl),by repeat (first | (with_reducible first | exact HB.out | apply below_alloc | apply pw_below_drewN | apply below_drew1 | refine below_set ?_ GE298.out) | exact HB.out)⟩

/-! ### slices_IndexFunc_impl_Step__impl_shapeOf_1: function 125 -/
def slices_IndexFunc_impl_Step__impl_shapeOf_1.l0 : Nat → List (S56) → Int → Int → Option (Int)
 | 0,_,_,_ => none
 | k + 1,x0,x7,x8 => if x8 < x7 then (if 0 ≤ x8 then (if x8 < (x0.length : Int) then ((impl_shapeOf_1.f k ((rd_T56 x0 x8).f0) ((rd_T56 x0 x8).f1) ((rd_T56 x0 x8).f2)).bind fun t301 => (if t301 = true then (some x8) else (slices_IndexFunc_impl_Step__impl_shapeOf_1.l0 k x0 x7 (wrap64 (x8 + 1))))) else (none)) else (none)) else (some (-1))
def slices_IndexFunc_impl_Step__impl_shapeOf_1.f (k : Nat) (l0 : List (S56))  : Option (Int):=slices_IndexFunc_impl_Step__impl_shapeOf_1.l0 k l0 (l0.length : Int) 0
theorem slices_IndexFunc_impl_Step__impl_shapeOf_1.mono_l : ∀ k,(∀ y0 y1 y2,LeO (slices_IndexFunc_impl_Step__impl_shapeOf_1.l0 k y0 y1 y2) (slices_IndexFunc_impl_Step__impl_shapeOf_1.l0 (k + 1) y0 y1 y2))
 | 0 => fun _ _ _ r h => by simp [slices_IndexFunc_impl_Step__impl_shapeOf_1.l0] at h
 | k + 1 => by
  have ih0:=slices_IndexFunc_impl_Step__impl_shapeOf_1.mono_l k
  ·intro y0 y1 y2
   unfold slices_IndexFunc_impl_Step__impl_shapeOf_1.l0
   repeat' first
   | (with_reducible exact ih0 _ _ _)
   | (with_reducible exact impl_shapeOf_1.mono _ _ _ _)
   | (with_reducible exact LeO.refl _)
   | (with_reducible exact LeO.none _)
   | (with_reducible refine LeO.ite ?_ ?_)
   | (with_reducible refine LeO.bind ?_ (fun _ => ?_))
   | exact ih0 _ _ _
   | exact impl_shapeOf_1.mono _ _ _ _
   | exact LeO.none _
   | refine LeO.ite ?_ ?_
   | refine LeO.bind ?_ (fun _ => ?_)
theorem slices_IndexFunc_impl_Step__impl_shapeOf_1.mono : ∀ a0 k,LeO (slices_IndexFunc_impl_Step__impl_shapeOf_1.f k a0) (slices_IndexFunc_impl_Step__impl_shapeOf_1.f (k + 1) a0):=by
 intro a0 k
 have ih0:=slices_IndexFunc_impl_Step__impl_shapeOf_1.mono_l k
 unfold slices_IndexFunc_impl_Step__impl_shapeOf_1.f
 repeat' first
   | (with_reducible exact ih0 _ _ _)
   | (with_reducible exact impl_shapeOf_1.mono _ _ _ _)
   | (with_reducible exact LeO.refl _)
   | (with_reducible exact LeO.none _)
   | (with_reducible refine LeO.ite ?_ ?_)
   | (with_reducible refine LeO.bind ?_ (fun _ => ?_))
   | exact ih0 _ _ _
   | exact impl_shapeOf_1.mono _ _ _ _
   | exact LeO.none _
   | refine LeO.ite ?_ ?_
   | refine LeO.bind ?_ (fun _ => ?_)
set_option maxHeartbeats 8000000 in
set_option maxRecDepth 100000 in
theorem slices_IndexFunc_impl_Step__impl_shapeOf_1.calls (k : Nat) (A0 : Option Addr) (c0 : Nat) (l0 : List (S56))  (r : Int) (w : World) (hr0 : Kd.C k56 w A0 l0.length l0) (hc0 : l0.length ≤ c0) (h : slices_IndexFunc_impl_Step__impl_shapeOf_1.f k l0 = some r) :
  Calls Try.prog 95 #[.slice A0 l0.length c0,.func (.func 77) #[] #[]] w fun e w' => e = .returned (.int .i64 r) ∧ Below w.heap.size w w':=by
 have hu56:=Try.underlying56
 have HR0:=Aside0.mk hr0
 have HC0:=Aside0.mk hc0
 clear hr0 hc0
 have HB:=Aside0.mk (Below.refl w.heap.size w)
 have H : (slices_IndexFunc_impl_Step__impl_shapeOf_1.l0 k l0 (l0.length : Int) 0) = some r:=h
 clear h
 have H':=Aside0.mk H
 clear H
 go_enter Try.func95,Try.ntmps95
 go_wp2
 go_loopg [8] k (fun kq v8 w' => ∃ (x8_1 : Int),v8 = .int .i64 x8_1 ∧ Aside0 (slices_IndexFunc_impl_Step__impl_shapeOf_1.l0 kq l0 (l0.length : Int) x8_1 = some r) ∧ Aside0 (kq ≤ k) ∧ Aside0 (Below w.heap.size w w'))
 case atStart => exact ⟨(0),(by first | rfl | (simp;done) | (simp [*];done)),H',⟨Nat.le_refl _⟩,⟨by repeat (first | (with_reducible first | exact HB.out | apply below_alloc | apply pw_below_drewN | apply below_drew1) | exact HB.out)⟩⟩
 case round =>
  clear H'
  try clear c1
  try clear p2
  obtain ⟨x8_1,rfl,HA,HK1,HB⟩:=hrel
  cases gk with
  | zero => exact absurd HA.out (by simp [slices_IndexFunc_impl_Step__impl_shapeOf_1.l0])
  | succ k1 =>
   have H:=HA.out
   clear HA
   simp only [slices_IndexFunc_impl_Step__impl_shapeOf_1.l0] at H
   by_cases c3 : x8_1 < (l0.length : Int)
   ·rw [if_pos c3] at H
    have c3b0 : decide (x8_1 < (l0.length : Int)) = true:=decide_eq_true c3
    clear c3
    by_cases c4 : 0 ≤ x8_1
    ·rw [if_pos c4] at H
     have c4b0 : decide (0 ≤ x8_1) = true:=decide_eq_true c4
     clear c4
     by_cases c5 : x8_1 < (l0.length : Int)
     ·rw [if_pos c5] at H
      have c5b0 : decide (x8_1 < (l0.length : Int)) = true:=decide_eq_true c5
      clear c5
      replace H:=Option.bind_eq_some_iff.mp H
      obtain ⟨t301,A60,H⟩:=H
      replace H : (if t301 = true then (some x8_1) else (slices_IndexFunc_impl_Step__impl_shapeOf_1.l0 k1 l0 (l0.length : Int) (wrap64 (x8_1 + 1)))) = some r:=H
      have A6:=Aside0.mk A60
      clear A60
      by_cases c7 : t301 = true
      ·subst c7
       have H1 : (some x8_1) = some r:=by rw [if_pos rfl] at H;exact H
       clear H
       have H:=H1
       clear H1
       obtain rfl:=Option.some.inj H
       have p300 : 0 ≤ (x8_1 : Int):=of_decide_eq_true (by first | (with_reducible assumption) | assumption)
       have q300 : x8_1 < (l0.length : Int):=of_decide_eq_true (by first | (with_reducible assumption) | assumption)
       obtain ⟨ad300,A300_2,c300_2,e300,hx300_0,hx300_1,hx300_2,hl300_2,hi300_2⟩:=at_T56 HR0.out x8_1 p300 q300
       cases e300
       replace hx300_0:=(HB.out.cell (World.block_lt_of_cell? w _ hx300_0)).trans hx300_0
       replace hx300_1:=(HB.out.cell (World.block_lt_of_cell? w _ hx300_1)).trans hx300_1
       replace hx300_2:=(HB.out.cell (World.block_lt_of_cell? w _ hx300_2)).trans hx300_2
       have HR300_2:=Aside0.mk hi300_2
       have HC300_2:=Aside0.mk hl300_2
       clear hi300_2 hl300_2
       replace p300:=eq_true p300
       replace q300:=eq_true q300
       go_wp2_with (first | (go_at_call 77;(with_reducible refine (impl_shapeOf_1.calls k1 ((rd_T56 l0 x8_1).f0) ((rd_T56 l0 x8_1).f1) _ _ ((rd_T56 l0 x8_1).f2) true _ ?side1 ?side2 A6.out).mono ?_);(case side1 => repeat (first | exact (Kd.C_below HR300_2.out HB.out) | (with_reducible refine Kd.C_alloc ?_ _) | (with_reducible refine Kd.C_drewN ?_ _) | (with_reducible refine Kd.C_drew ?_)));(case side2 => exact HC300_2.out);rintro e w8 ⟨rfl,hb⟩;have n0_:=Aside0.mk (below_step (by repeat (first | (with_reducible first | exact HB.out | apply below_alloc | apply pw_below_drewN | apply below_drew1) | exact HB.out)) hb);clear HB;have HB:=n0_;clear n0_;(try clear hb);(try clear hb2);(try clear hk);(try clear hi)))
       go_ret
       exact ⟨by first | rfl | (simp [errW_none,errW_some] <;> rfl) | (simp [*,errW_none,errW_some] <;> rfl),by repeat (first | (with_reducible first | exact HB.out | apply below_alloc | apply pw_below_drewN | apply below_drew1) | exact HB.out)⟩
      ·replace c7:=Bool.eq_false_iff.mpr c7
       subst c7
       have H1 : (slices_IndexFunc_impl_Step__impl_shapeOf_1.l0 k1 l0 (l0.length : Int) (wrap64 (x8_1 + 1))) = some r:=by rw [if_neg (show ¬ (false = true) by decide)] at H;exact H
       clear H
       have H:=H1
       clear H1
       have H':=Aside0.mk H
       clear H
       have p300 : 0 ≤ (x8_1 : Int):=of_decide_eq_true (by first | (with_reducible assumption) | assumption)
       have q300 : x8_1 < (l0.length : Int):=of_decide_eq_true (by first | (with_reducible assumption) | assumption)
       obtain ⟨ad300,A300_2,c300_2,e300,hx300_0,hx300_1,hx300_2,hl300_2,hi300_2⟩:=at_T56 HR0.out x8_1 p300 q300
       cases e300
       replace hx300_0:=(HB.out.cell (World.block_lt_of_cell? w _ hx300_0)).trans hx300_0
       replace hx300_1:=(HB.out.cell (World.block_lt_of_cell? w _ hx300_1)).trans hx300_1
       replace hx300_2:=(HB.out.cell (World.block_lt_of_cell? w _ hx300_2)).trans hx300_2
       have HR300_2:=Aside0.mk hi300_2
       have HC300_2:=Aside0.mk hl300_2
       clear hi300_2 hl300_2
       replace p300:=eq_true p300
       replace q300:=eq_true q300
       go_wp2_with (first | (go_at_call 77;(with_reducible refine (impl_shapeOf_1.calls k1 ((rd_T56 l0 x8_1).f0) ((rd_T56 l0 x8_1).f1) _ _ ((rd_T56 l0 x8_1).f2) false _ ?side1 ?side2 A6.out).mono ?_);(case side1 => repeat (first | exact (Kd.C_below HR300_2.out HB.out) | (with_reducible refine Kd.C_alloc ?_ _) | (with_reducible refine Kd.C_drewN ?_ _) | (with_reducible refine Kd.C_drew ?_)));(case side2 => exact HC300_2.out);rintro e w9 ⟨rfl,hb⟩;have n0_:=Aside0.mk (below_step (by repeat (first | (with_reducible first | exact HB.out | apply below_alloc | apply pw_below_drewN | apply below_drew1) | exact HB.out)) hb);clear HB;have HB:=n0_;clear n0_;(try clear hb);(try clear hb2);(try clear hk);(try clear hi)))
       go_roundg k1
       case measure => have:=HK1.out;omega
       case rel => exact ⟨(wrap64 (x8_1 + 1)),(by first | rfl | (simp;done) | (simp [*];done)),H',⟨by have:=HK1.out;omega⟩,⟨by repeat (first | (with_reducible first | exact HB.out | apply below_alloc | apply pw_below_drewN | apply below_drew1) | exact HB.out)⟩⟩
     ·rw [if_neg c5] at H
      exact absurd H (by simp)
    ·rw [if_neg c4] at H
     exact absurd H (by simp)
   ·rw [if_neg c3] at H
    have c3b0 : decide (x8_1 < (l0.length : Int)) = false:=decide_eq_false c3
    clear c3
    obtain rfl:=Option.some.inj H
    go_wp2
    go_ret
    exact ⟨by first | rfl | (simp [errW_none,errW_some] <;> rfl) | (simp [*,errW_none,errW_some] <;> rfl),by repeat (first | (with_reducible first | exact HB.out | apply below_alloc | apply pw_below_drewN | apply below_drew1) | exact HB.out)⟩

end Go.Proofs.Ytmljikgegclolaa.Q
