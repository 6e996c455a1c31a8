-- WRITTEN BY A PROGRAM OF THIS SESSION
import Derived.Test.YthgkhfhfahifmaaWMi2
import Derived.Test.YthgkhfhfahifmaaQ0
import Derived.Test.YthgkhfhfahifmaaQ1
import Derived.Test.YthgkhfhfahifmaaQ4
import Derived.Test.YthgkhfhfahifmaaQ6
import Derived.Test.YthgkhfhfahifmaaQ48
import Derived.Test.YthgkhfhfahifmaaQ49
import Derived.Test.YthgkhfhfahifmaaQ50
import Derived.Test.YthgkhfhfahifmaaQ53
namespace Go.Proofs.Ythgkhfhfahifmaa.Q
open Go.RowKit Go.Proofs.YthgkhfhfahifmaaW.PrintWords Go.Proofs.YthgkhfhfahifmaaW.PrintLast Go.Proofs.YthgkhfhfahifmaaW.PrintMore
attribute [local go_sem] max2_int min2_int max_two min_two max_three min_three max_four min_four   -- for this text's walks alone
set_option linter.unusedVariables false
set_option linter.unusedSimpArgs false

/-! ### laws_eqIntSS: function 27 -/
def laws_eqIntSS.l0 : Nat → List (List Int) → List (List Int) → Int → Option (Bool)
 | 0,_,_,_ => none
 | k + 1,x0,x1,x5 => if x5 < (x0.length : Int) then (if 0 ≤ x5 then (if x5 < (x1.length : Int) then ((laws_eqIntS.f k (rd_L3 x0 x5) (rd_L3 x1 x5)).bind fun t330 => (if t330 = true then (laws_eqIntSS.l0 k x0 x1 (wrap64 (x5 + 1))) else (some false))) else (none)) else (none)) else (some true)
def laws_eqIntSS.f (k : Nat) (l0 : List (List Int)) (l1 : List (List Int)) : Option (Bool):=if (l0.length : Int) = (l1.length : Int) then (laws_eqIntSS.l0 k l0 l1 0) else (some false)
theorem laws_eqIntSS.mono_l : ∀ k,(∀ y0 y1 y2,LeO (laws_eqIntSS.l0 k y0 y1 y2) (laws_eqIntSS.l0 (k + 1) y0 y1 y2))
 | 0 => fun _ _ _ r h => by simp [laws_eqIntSS.l0] at h
 | k + 1 => by
  have ih0:=laws_eqIntSS.mono_l k
  ·intro y0 y1 y2
   unfold laws_eqIntSS.l0
   repeat' first
   | (with_reducible exact ih0 _ _ _)
   | (with_reducible exact laws_eqIntS.mono _ _ _)
   | (with_reducible exact LeO.refl _)
   | (with_reducible exact LeO.none _)
   | (with_reducible refine LeO.ite ?_ ?_)
   | (with_reducible refine LeO.bind ?_ (fun _ => ?_))
   | exact ih0 _ _ _
   | exact laws_eqIntS.mono _ _ _
   | exact LeO.none _
   | refine LeO.ite ?_ ?_
   | refine LeO.bind ?_ (fun _ => ?_)
theorem laws_eqIntSS.mono : ∀ a0 a1 k,LeO (laws_eqIntSS.f k a0 a1) (laws_eqIntSS.f (k + 1) a0 a1):=by
 intro a0 a1 k
 have ih0:=laws_eqIntSS.mono_l k
 unfold laws_eqIntSS.f
 repeat' first
   | (with_reducible exact ih0 _ _ _)
   | (with_reducible exact laws_eqIntS.mono _ _ _)
   | (with_reducible exact LeO.refl _)
   | (with_reducible exact LeO.none _)
   | (with_reducible refine LeO.ite ?_ ?_)
   | (with_reducible refine LeO.bind ?_ (fun _ => ?_))
   | exact ih0 _ _ _
   | exact laws_eqIntS.mono _ _ _
   | exact LeO.none _
   | refine LeO.ite ?_ ?_
   | refine LeO.bind ?_ (fun _ => ?_)
set_option maxHeartbeats 8000000 in
set_option maxRecDepth 100000 in
theorem laws_eqIntSS.calls (k : Nat) (A0 : Option Addr) (c0 : Nat) (l0 : List (List Int)) (A1 : Option Addr) (c1 : Nat) (l1 : List (List Int)) (r : Bool) (w : World) (hr0 : Kd.C (Kd.slice 3 (Kd.int .i64)) w A0 l0.length l0) (hc0 : l0.length ≤ c0) (hr1 : Kd.C (Kd.slice 3 (Kd.int .i64)) w A1 l1.length l1) (hc1 : l1.length ≤ c1) (h : laws_eqIntSS.f k l0 l1 = some r) :
  Calls Try.prog 27 #[.slice A0 l0.length c0,.slice A1 l1.length c1] w fun e w' => e = .returned (.bool r) ∧ Drawn0 w w':=by
 have HR0:=Aside0.mk hr0
 have HC0:=Aside0.mk hc0
 clear hr0 hc0
 have HR1:=Aside0.mk hr1
 have HC1:=Aside0.mk hc1
 clear hr1 hc1
 have H : (if (l0.length : Int) = (l1.length : Int) then (laws_eqIntSS.l0 k l0 l1 0) else (some false)) = some r:=h
 clear h
 by_cases c3 : (l0.length : Int) = (l1.length : Int)
 ·rw [if_pos c3] at H
  have c3b0 : ((l0.length : Int) == (l1.length : Int)) = true:=beq_iff_eq.mpr c3
  have c3b1 : ((l0.length : Int) != (l1.length : Int)) = false:=bne_eq_false_iff_eq.mpr c3
  have c3b2 : (l0.length == l1.length) = true:=by first | simpa using c3 | (simp at c3 ⊢;omega)
  clear c3
  have H':=Aside0.mk H
  clear H
  go_enter Try.func27,Try.ntmps27
  go_wp2
  repeat (go_quiet (fail);try go_wp2)
  go_loopg [5] k (fun kq v5 w' => ∃ (x5_1 : Int),v5 = .int .i64 x5_1 ∧ Aside0 (laws_eqIntSS.l0 kq l0 l1 x5_1 = some r) ∧ Aside0 (kq ≤ k) ∧ Drawn0 w w')
  case atStart => exact ⟨(0),(by first | rfl | (simp;done) | (simp [*];done)),H',⟨Nat.le_refl _⟩,by repeat (first | exact Drawn0.refl _ | apply Drawn0.step)⟩
  case round =>
   clear H'
   try clear c1
   try clear c2
   try clear p2
   try clear c3
   try clear c3b0
   try clear c3b1
   try clear c3b2
   obtain ⟨x5_1,rfl,HA,HK1,⟨m1,rfl⟩⟩:=hrel
   cases gk with
   | zero => exact absurd HA.out (by simp [laws_eqIntSS.l0])
   | succ k1 =>
    have H:=HA.out
    clear HA
    simp only [laws_eqIntSS.l0] at H
    by_cases c4 : x5_1 < (l0.length : Int)
    ·rw [if_pos c4] at H
     have c4b0 : decide (x5_1 < (l0.length : Int)) = true:=decide_eq_true c4
     clear c4
     by_cases c5 : 0 ≤ x5_1
     ·rw [if_pos c5] at H
      have c5b0 : decide (0 ≤ x5_1) = true:=decide_eq_true c5
      clear c5
      by_cases c6 : x5_1 < (l1.length : Int)
      ·rw [if_pos c6] at H
       have c6b0 : decide (x5_1 < (l1.length : Int)) = true:=decide_eq_true c6
       clear c6
       replace H:=Option.bind_eq_some_iff.mp H
       obtain ⟨t330,A70,H⟩:=H
       replace H : (if t330 = true then (laws_eqIntSS.l0 k1 l0 l1 (wrap64 (x5_1 + 1))) else (some false)) = some r:=H
       have A7:=Aside0.mk A70
       clear A70
       by_cases c8 : t330 = true
       ·subst c8
        have H1 : (laws_eqIntSS.l0 k1 l0 l1 (wrap64 (x5_1 + 1))) = some r:=by rw [if_pos rfl] at H;exact H
        clear H
        have H:=H1
        clear H1
        have H':=Aside0.mk H
        clear H
        have p328 : 0 ≤ (x5_1 : Int):=of_decide_eq_true (by first | (with_reducible assumption) | assumption)
        have q328 : x5_1 < (l0.length : Int):=of_decide_eq_true (by first | (with_reducible assumption) | assumption)
        obtain ⟨ad328,A328_0,c328_0,e328,hx328_0,hl328_0,hi328_0⟩:=at_L3 HR0.out x5_1 p328 q328
        cases e328
        have HR328_0:=Aside0.mk hi328_0
        have HC328_0:=Aside0.mk hl328_0
        clear hi328_0 hl328_0
        replace p328:=eq_true p328
        replace q328:=eq_true q328
        have p329 : 0 ≤ (x5_1 : Int):=of_decide_eq_true (by first | (with_reducible assumption) | assumption)
        have q329 : x5_1 < (l1.length : Int):=of_decide_eq_true (by first | (with_reducible assumption) | assumption)
        obtain ⟨ad329,A329_0,c329_0,e329,hx329_0,hl329_0,hi329_0⟩:=at_L3 HR1.out x5_1 p329 q329
        cases e329
        have HR329_0:=Aside0.mk hi329_0
        have HC329_0:=Aside0.mk hl329_0
        clear hi329_0 hl329_0
        replace p329:=eq_true p329
        replace q329:=eq_true q329
        go_wp2_with (first | (go_at_call 22;(with_reducible refine (laws_eqIntS.calls k1 _ _ (rd_L3 l0 x5_1) _ _ (rd_L3 l1 x5_1) true _ ?side1 ?side2 ?side3 ?side4 A7.out).mono ?_);(case side1 => repeat (first | exact HR328_0.out | (with_reducible refine Kd.C_alloc ?_ _) | (with_reducible refine Kd.C_drewN ?_ _) | (with_reducible refine Kd.C_drew ?_)));(case side2 => exact HC328_0.out);(case side3 => repeat (first | exact HR329_0.out | (with_reducible refine Kd.C_alloc ?_ _) | (with_reducible refine Kd.C_drewN ?_ _) | (with_reducible refine Kd.C_drew ?_)));(case side4 => exact HC329_0.out);rintro e w' ⟨rfl,⟨nd,rfl⟩⟩;(try first | exact ⟨rfl,_,World.drewN_drewN _ _ _⟩ | exact ⟨rfl,_,Eq.trans (World.drewN_drewN _ _ _) (congrArg (World.drewN _) (Nat.add_assoc _ _ _))⟩)))
        repeat (go_quiet (first | (go_at_call 22;(with_reducible refine (laws_eqIntS.calls k1 _ _ (rd_L3 l0 x5_1) _ _ (rd_L3 l1 x5_1) true _ ?side1 ?side2 ?side3 ?side4 A7.out).mono ?_);(case side1 => repeat (first | exact HR328_0.out | (with_reducible refine Kd.C_alloc ?_ _) | (with_reducible refine Kd.C_drewN ?_ _) | (with_reducible refine Kd.C_drew ?_)));(case side2 => exact HC328_0.out);(case side3 => repeat (first | exact HR329_0.out | (with_reducible refine Kd.C_alloc ?_ _) | (with_reducible refine Kd.C_drewN ?_ _) | (with_reducible refine Kd.C_drew ?_)));(case side4 => exact HC329_0.out);rintro e w' ⟨rfl,⟨nd,rfl⟩⟩;(try first | exact ⟨rfl,_,World.drewN_drewN _ _ _⟩ | exact ⟨rfl,_,Eq.trans (World.drewN_drewN _ _ _) (congrArg (World.drewN _) (Nat.add_assoc _ _ _))⟩)));try go_wp2_with (first | (go_at_call 22;(with_reducible refine (laws_eqIntS.calls k1 _ _ (rd_L3 l0 x5_1) _ _ (rd_L3 l1 x5_1) true _ ?side1 ?side2 ?side3 ?side4 A7.out).mono ?_);(case side1 => repeat (first | exact HR328_0.out | (with_reducible refine Kd.C_alloc ?_ _) | (with_reducible refine Kd.C_drewN ?_ _) | (with_reducible refine Kd.C_drew ?_)));(case side2 => exact HC328_0.out);(case side3 => repeat (first | exact HR329_0.out | (with_reducible refine Kd.C_alloc ?_ _) | (with_reducible refine Kd.C_drewN ?_ _) | (with_reducible refine Kd.C_drew ?_)));(case side4 => exact HC329_0.out);rintro e w' ⟨rfl,⟨nd,rfl⟩⟩;(try first | exact ⟨rfl,_,World.drewN_drewN _ _ _⟩ | exact ⟨rfl,_,Eq.trans (World.drewN_drewN _ _ _) (congrArg (World.drewN _) (Nat.add_assoc _ _ _))⟩))))
        go_roundg k1
        case measure => have:=HK1.out;omega
        case rel => exact ⟨(wrap64 (x5_1 + 1)),(by first | rfl | (simp;done) | (simp [*];done)),H',⟨by have:=HK1.out;omega⟩,by repeat (first | exact Drawn0.refl _ | apply Drawn0.step)⟩
       ·replace c8:=Bool.eq_false_iff.mpr c8
        subst c8
        have H1 : (some false) = some r:=by rw [if_neg (show ¬ (false = true) by decide)] at H;exact H
        clear H
        have H:=H1
        clear H1
        obtain rfl:=Option.some.inj H
        have p328 : 0 ≤ (x5_1 : Int):=of_decide_eq_true (by first | (with_reducible assumption) | assumption)
        have q328 : x5_1 < (l0.length : Int):=of_decide_eq_true (by first | (with_reducible assumption) | assumption)
        obtain ⟨ad328,A328_0,c328_0,e328,hx328_0,hl328_0,hi328_0⟩:=at_L3 HR0.out x5_1 p328 q328
        cases e328
        have HR328_0:=Aside0.mk hi328_0
        have HC328_0:=Aside0.mk hl328_0
        clear hi328_0 hl328_0
        replace p328:=eq_true p328
        replace q328:=eq_true q328
        have p329 : 0 ≤ (x5_1 : Int):=of_decide_eq_true (by first | (with_reducible assumption) | assumption)
        have q329 : x5_1 < (l1.length : Int):=of_decide_eq_true (by first | (with_reducible assumption) | assumption)
        obtain ⟨ad329,A329_0,c329_0,e329,hx329_0,hl329_0,hi329_0⟩:=at_L3 HR1.out x5_1 p329 q329
        cases e329
        have HR329_0:=Aside0.mk hi329_0
        have HC329_0:=Aside0.mk hl329_0
        clear hi329_0 hl329_0
        replace p329:=eq_true p329
        replace q329:=eq_true q329
        go_wp2_with (first | (go_at_call 22;(with_reducible refine (laws_eqIntS.calls k1 _ _ (rd_L3 l0 x5_1) _ _ (rd_L3 l1 x5_1) false _ ?side1 ?side2 ?side3 ?side4 A7.out).mono ?_);(case side1 => repeat (first | exact HR328_0.out | (with_reducible refine Kd.C_alloc ?_ _) | (with_reducible refine Kd.C_drewN ?_ _) | (with_reducible refine Kd.C_drew ?_)));(case side2 => exact HC328_0.out);(case side3 => repeat (first | exact HR329_0.out | (with_reducible refine Kd.C_alloc ?_ _) | (with_reducible refine Kd.C_drewN ?_ _) | (with_reducible refine Kd.C_drew ?_)));(case side4 => exact HC329_0.out);rintro e w' ⟨rfl,⟨nd,rfl⟩⟩;(try first | exact ⟨rfl,_,World.drewN_drewN _ _ _⟩ | exact ⟨rfl,_,Eq.trans (World.drewN_drewN _ _ _) (congrArg (World.drewN _) (Nat.add_assoc _ _ _))⟩)))
        repeat (go_quiet (first | (go_at_call 22;(with_reducible refine (laws_eqIntS.calls k1 _ _ (rd_L3 l0 x5_1) _ _ (rd_L3 l1 x5_1) false _ ?side1 ?side2 ?side3 ?side4 A7.out).mono ?_);(case side1 => repeat (first | exact HR328_0.out | (with_reducible refine Kd.C_alloc ?_ _) | (with_reducible refine Kd.C_drewN ?_ _) | (with_reducible refine Kd.C_drew ?_)));(case side2 => exact HC328_0.out);(case side3 => repeat (first | exact HR329_0.out | (with_reducible refine Kd.C_alloc ?_ _) | (with_reducible refine Kd.C_drewN ?_ _) | (with_reducible refine Kd.C_drew ?_)));(case side4 => exact HC329_0.out);rintro e w' ⟨rfl,⟨nd,rfl⟩⟩;(try first | exact ⟨rfl,_,World.drewN_drewN _ _ _⟩ | exact ⟨rfl,_,Eq.trans (World.drewN_drewN _ _ _) (congrArg (World.drewN _) (Nat.add_assoc _ _ _))⟩)));try go_wp2_with (first | (go_at_call 22;(with_reducible refine (laws_eqIntS.calls k1 _ _ (rd_L3 l0 x5_1) _ _ (rd_L3 l1 x5_1) false _ ?side1 ?side2 ?side3 ?side4 A7.out).mono ?_);(case side1 => repeat (first | exact HR328_0.out | (with_reducible refine Kd.C_alloc ?_ _) | (with_reducible refine Kd.C_drewN ?_ _) | (with_reducible refine Kd.C_drew ?_)));(case side2 => exact HC328_0.out);(case side3 => repeat (first | exact HR329_0.out | (with_reducible refine Kd.C_alloc ?_ _) | (with_reducible refine Kd.C_drewN ?_ _) | (with_reducible refine Kd.C_drew ?_)));(case side4 => exact HC329_0.out);rintro e w' ⟨rfl,⟨nd,rfl⟩⟩;(try first | exact ⟨rfl,_,World.drewN_drewN _ _ _⟩ | exact ⟨rfl,_,Eq.trans (World.drewN_drewN _ _ _) (congrArg (World.drewN _) (Nat.add_assoc _ _ _))⟩))))
        go_ret
        exact ⟨by first | rfl | (simp;done) | (simp [*];done),by repeat (first | exact Drawn0.refl _ | apply Drawn0.step)⟩
      ·rw [if_neg c6] at H
       exact absurd H (by simp)
     ·rw [if_neg c5] at H
      exact absurd H (by simp)
    ·rw [if_neg c4] at H
     have c4b0 : decide (x5_1 < (l0.length : Int)) = false:=decide_eq_false c4
     clear c4
     obtain rfl:=Option.some.inj H
     go_wp2
     repeat (go_quiet (fail);try go_wp2)
     go_ret
     exact ⟨by first | rfl | (simp;done) | (simp [*];done),by repeat (first | exact Drawn0.refl _ | apply Drawn0.step)⟩
 ·rw [if_neg c3] at H
  have c3b0 : ((l0.length : Int) == (l1.length : Int)) = false:=beq_eq_false_iff_ne.mpr c3
  have c3b1 : ((l0.length : Int) != (l1.length : Int)) = true:=bne_iff_ne.mpr c3
  have c3b2 : (l0.length == l1.length) = false:=by first | simpa using c3 | (simp at c3 ⊢;omega)
  obtain rfl:=Option.some.inj H
  go_enter Try.func27,Try.ntmps27
  go_wp2
  repeat (go_quiet (fail);try go_wp2)
  go_ret
  exact ⟨by first | rfl | (simp;done) | (simp [*];done),by repeat (first | exact Drawn0.refl _ | apply Drawn0.step)⟩

/-! ### laws_markIntSS: function 28 (by hand: an element's row is handed to what writes it) -/
def laws_markIntSS.l0 : Nat → List (List Int) → Int → Int → Option (Int × List (List Int))
 | 0,_,_,_ => none
 | k + 1,x,a,i => if i < (x.length : Int) then (if 0 ≤ i then ((laws_markIntS.f k (x.getD i.toNat []) a).bind fun b => (laws_markIntSS.l0 k (x.set i.toNat b.2) b.1 (wrap64 (i + 1)))) else none) else some (a,x)
def laws_markIntSS.f (k : Nat) (x : List (List Int)) (a : Int) : Option (Int × List (List Int)):=laws_markIntSS.l0 k x a 0
theorem laws_markIntSS.mono_l : ∀ k,∀ y0 y1 y2,LeO (laws_markIntSS.l0 k y0 y1 y2) (laws_markIntSS.l0 (k + 1) y0 y1 y2)
 | 0 => fun _ _ _ r h => by simp [laws_markIntSS.l0] at h
 | k + 1 => by
  have ih0:=laws_markIntSS.mono_l k
  intro y0 y1 y2
  unfold laws_markIntSS.l0
  repeat' first
   | (with_reducible exact ih0 _ _ _)
   | (with_reducible exact laws_markIntS.mono _ _ _)
   | (with_reducible exact LeO.refl _)
   | (with_reducible exact LeO.none _)
   | (with_reducible refine LeO.ite ?_ ?_)
   | (with_reducible refine LeO.bind ?_ (fun _ => ?_))
theorem laws_markIntSS.mono : ∀ a0 a1 k,LeO (laws_markIntSS.f k a0 a1) (laws_markIntSS.f (k + 1) a0 a1):=fun _ _ k => laws_markIntSS.mono_l k _ _ _
set_option maxHeartbeats 8000000 in
set_option maxRecDepth 100000 in
theorem laws_markIntSS.calls (k : Nat) (P0_ : Nat → Prop) (u9000_ : Value) (l0 : List (List Int)) (a1 : Int) (r1 : Int) (r2 : List (List Int)) (w0 w : World) (hB : Below w0.heap.size w0 w) (ho0 : Kd.S (Kd.slice 3 (Kd.int .i64)) 37 w w0.heap.size P0_ u9000_ l0) (h : laws_markIntSS.f k l0 a1 = some (r1,r2)) :
  Calls Try.prog 28 #[u9000_,.int .i64 a1] w fun e w' => e = .returned (.int .i64 r1) ∧ Kd.S (Kd.slice 3 (Kd.int .i64)) 37 w' w0.heap.size P0_ u9000_ r2 ∧ Below w0.heap.size w0 w' ∧ Kept w w' P0_:=by
 obtain ⟨A0,c0,rfl⟩:=Kd.S_slice ho0
 have HO0:=Aside0.mk ho0
 have HB0:=Aside0.mk hB
 have H':=Aside0.mk h
 have HK0:=Aside0.mk (Kept.refl w P0_)
 have HL:=Aside0.mk (rfl : l0.length = l0.length)
 clear ho0 hB h
 unfold laws_markIntSS.f at H'
 go_enter Try.func28,Try.ntmps28
 go_wp2
 go_loopg [1,5] k (fun kq v1 v5 w' => ∃ (x : List (List Int)) (x1 x5 : Int),v1 = .int .i64 x1 ∧ v5 = .int .i64 x5 ∧ Aside0 (laws_markIntSS.l0 kq x x1 x5 = some (r1,r2)) ∧ Aside0 (kq ≤ k) ∧ Aside0 (Kd.S (Kd.slice 3 (Kd.int .i64)) 37 w' w0.heap.size P0_ (.slice A0 l0.length c0) x) ∧ Aside0 (Below w0.heap.size w0 w') ∧ Aside0 (Kept w w' P0_))
 case atStart => exact ⟨l0,a1,0,rfl,rfl,H',⟨Nat.le_refl _⟩,HO0,HB0,HK0⟩
 case round =>
  clear H' HO0 HB0 HK0
  obtain ⟨x,x1,x5,rfl,rfl,HA,HK1,HO,HB,HK⟩:=hrel
  cases gk with
  | zero => exact absurd HA.out (by simp [laws_markIntSS.l0])
  | succ k1 =>
   have H:=HA.out
   clear HA
   simp only [laws_markIntSS.l0] at H
   have hlen:=(Kd.S_reads' HO.out).1
   rw [← hlen] at H
   have HLN:=Aside0.mk hlen
   clear hlen
   by_cases c3 : x5 < (l0.length : Int)
   ·rw [if_pos c3] at H
    by_cases c4 : 0 ≤ x5
    ·rw [if_pos c4] at H
     obtain ⟨⟨b1,b2⟩,A60,H⟩:=Option.bind_eq_some_iff.mp H
     obtain ⟨g,oki,ve,rfl,hx0,hf0,hR,hoki,_,_,hH⟩:=S_row HO.out x5 c4 c3
     have A6:=Aside0.mk A60
     have HR:=Aside0.mk hR
     have HH:=Aside0.mk hH
     have HKI:=Aside0.mk hoki
     have H':=Aside0.mk H
     have c3b0 : decide (x5 < (l0.length : Int)) = true:=decide_eq_true c3
     have c4b0 : decide (0 ≤ x5) = true:=decide_eq_true c4
     have p3:=eq_true c3
     have p4:=eq_true c4
     clear A60 hR hH hoki H c3 c4
     go_wp2_with (first | (go_at_call 23;(with_reducible refine (laws_markIntS.calls k1 oki ve (x.getD x5.toNat []) x1 b1 b2 w0 _ HB.out HR.out A6.out).mono ?_);rintro e w4 ⟨rfl,hr2,hb,hkp⟩;have HB4:=Aside0.mk hb;have HO4:=Aside0.mk (S_back rfl HH.out hkp hr2 HR.out.1);have HK4:=Aside0.mk (HK.out.then_ hkp (fun k_ h_ => .inl (HKI.out k_ h_).1));clear hb hr2 hkp HB HO HK HR HH HKI A6 hx0 hf0))
     go_roundg k1
     case measure => have:=HK1.out;omega
     case rel => exact ⟨_,_,_,rfl,rfl,H',⟨by have:=HK1.out;omega⟩,HO4,HB4,HK4⟩
    ·rw [if_neg c4] at H
     exact absurd H (by simp)
   ·rw [if_neg c3] at H
    have c3b0 : decide (x5 < (l0.length : Int)) = false:=decide_eq_false c3
    clear c3
    simp only [Option.some.injEq,Prod.mk.injEq] at H
    obtain ⟨rfl,rfl⟩:=H
    go_wp2
    go_ret
    exact ⟨rfl,HO.out,HB.out,HK.out⟩

/-! ### laws_heldIntS: function 24 -/
def laws_heldIntS.l0 : Nat → List Int → Int → Int → Option (Int)
 | 0,_,_,_ => none
 | k + 1,x0,x1,x5 => if x5 < (x0.length : Int) then (if 0 ≤ x5 then (if (rd x0 x5) = x1 then (laws_heldIntS.l0 k x0 (wrap64 (x1 + 1)) (wrap64 (x5 + 1))) else (some (-1))) else (none)) else (some x1)
def laws_heldIntS.f (k : Nat) (l0 : List Int) (a1 : Int) : Option (Int):=laws_heldIntS.l0 k l0 a1 0
theorem laws_heldIntS.mono_l : ∀ k,(∀ y0 y1 y2,LeO (laws_heldIntS.l0 k y0 y1 y2) (laws_heldIntS.l0 (k + 1) y0 y1 y2))
 | 0 => fun _ _ _ r h => by simp [laws_heldIntS.l0] at h
 | k + 1 => by
  have ih0:=laws_heldIntS.mono_l k
  ·intro y0 y1 y2
   unfold laws_heldIntS.l0
   repeat' first
   | (with_reducible exact ih0 _ _ _)
   | (with_reducible exact LeO.refl _)
   | (with_reducible exact LeO.none _)
   | (with_reducible refine LeO.ite ?_ ?_)
   | (with_reducible refine LeO.bind ?_ (fun _ => ?_))
   | exact ih0 _ _ _
   | exact LeO.none _
   | refine LeO.ite ?_ ?_
   | refine LeO.bind ?_ (fun _ => ?_)
theorem laws_heldIntS.mono : ∀ a0 a1 k,LeO (laws_heldIntS.f k a0 a1) (laws_heldIntS.f (k + 1) a0 a1):=by
 intro a0 a1 k
 have ih0:=laws_heldIntS.mono_l k
 unfold laws_heldIntS.f
 repeat' first
   | (with_reducible exact ih0 _ _ _)
   | (with_reducible exact LeO.refl _)
   | (with_reducible exact LeO.none _)
   | (with_reducible refine LeO.ite ?_ ?_)
   | (with_reducible refine LeO.bind ?_ (fun _ => ?_))
   | exact ih0 _ _ _
   | exact LeO.none _
   | refine LeO.ite ?_ ?_
   | refine LeO.bind ?_ (fun _ => ?_)
set_option maxHeartbeats 8000000 in
set_option maxRecDepth 100000 in
theorem laws_heldIntS.calls (k : Nat) (A0 : Option Addr) (c0 : Nat) (l0 : List Int) (a1 : Int) (r : Int) (w : World) (hr0 : Kd.C (Kd.int .i64) w A0 l0.length l0) (hc0 : l0.length ≤ c0) (h : laws_heldIntS.f k l0 a1 = some r) :
  Calls Try.prog 24 #[.slice A0 l0.length c0,.int .i64 a1] w fun e w' => e = .returned (.int .i64 r) ∧ Drawn0 w w':=by
 have HR0:=Aside0.mk hr0
 have HC0:=Aside0.mk hc0
 clear hr0 hc0
 have H : (laws_heldIntS.l0 k l0 a1 0) = some r:=h
 clear h
 have H':=Aside0.mk H
 clear H
 go_enter Try.func24,Try.ntmps24
 go_wp2
 go_loopg [1,5] k (fun kq v1 v5 w' => ∃ (x1_1 : Int) (x5_1 : Int),v1 = .int .i64 x1_1 ∧ v5 = .int .i64 x5_1 ∧ Aside0 (laws_heldIntS.l0 kq l0 x1_1 x5_1 = some r) ∧ Aside0 (kq ≤ k) ∧ Drawn0 w w')
 case atStart => exact ⟨(a1),(0),(by first | rfl | (simp;done) | (simp [*];done)),(by first | rfl | (simp;done) | (simp [*];done)),H',⟨Nat.le_refl _⟩,by repeat (first | exact Drawn0.refl _ | apply Drawn0.step)⟩
 case round =>
  clear H'
  try clear c2
  try clear p2
  obtain ⟨x1_1,x5_1,rfl,rfl,HA,HK1,⟨m1,rfl⟩⟩:=hrel
  cases gk with
  | zero => exact absurd HA.out (by simp [laws_heldIntS.l0])
  | succ k1 =>
   have H:=HA.out
   clear HA
   simp only [laws_heldIntS.l0] at H
   by_cases c3 : x5_1 < (l0.length : Int)
   ·rw [if_pos c3] at H
    have c3b0 : decide (x5_1 < (l0.length : Int)) = true:=decide_eq_true c3
    clear c3
    by_cases c4 : 0 ≤ x5_1
    ·rw [if_pos c4] at H
     have c4b0 : decide (0 ≤ x5_1) = true:=decide_eq_true c4
     clear c4
     by_cases c5 : (rd l0 x5_1) = x1_1
     ·rw [if_pos c5] at H
      have c5b0 : ((rd l0 x5_1) == x1_1) = true:=beq_iff_eq.mpr c5
      have c5b1 : ((rd l0 x5_1) != x1_1) = false:=bne_eq_false_iff_eq.mpr c5
      clear c5
      have H':=Aside0.mk H
      clear H
      have p331 : 0 ≤ (x5_1 : Int):=of_decide_eq_true (by first | (with_reducible assumption) | assumption)
      have q331 : x5_1 < (l0.length : Int):=of_decide_eq_true (by first | (with_reducible assumption) | assumption)
      obtain ⟨ad331,e331,hx331_0⟩:=Kd.at_int HR0.out x5_1 p331 q331
      cases e331
      replace p331:=eq_true p331
      replace q331:=eq_true q331
      go_wp2
      go_roundg k1
      case measure => have:=HK1.out;omega
      case rel => exact ⟨(wrap64 (x1_1 + 1)),(wrap64 (x5_1 + 1)),(by first | rfl | (simp;done) | (simp [*];done)),(by first | rfl | (simp;done) | (simp [*];done)),H',⟨by have:=HK1.out;omega⟩,by repeat (first | exact Drawn0.refl _ | apply Drawn0.step)⟩
     ·rw [if_neg c5] at H
      have c5b0 : ((rd l0 x5_1) == x1_1) = false:=beq_eq_false_iff_ne.mpr c5
      have c5b1 : ((rd l0 x5_1) != x1_1) = true:=bne_iff_ne.mpr c5
      obtain rfl:=Option.some.inj H
      have p331 : 0 ≤ (x5_1 : Int):=of_decide_eq_true (by first | (with_reducible assumption) | assumption)
      have q331 : x5_1 < (l0.length : Int):=of_decide_eq_true (by first | (with_reducible assumption) | assumption)
      obtain ⟨ad331,e331,hx331_0⟩:=Kd.at_int HR0.out x5_1 p331 q331
      cases e331
      replace p331:=eq_true p331
      replace q331:=eq_true q331
      go_wp2
      go_ret
      exact ⟨by first | rfl | (simp;done) | (simp [*];done),by repeat (first | exact Drawn0.refl _ | apply Drawn0.step)⟩
    ·rw [if_neg c4] at H
     exact absurd H (by simp)
   ·rw [if_neg c3] at H
    have c3b0 : decide (x5_1 < (l0.length : Int)) = false:=decide_eq_false c3
    clear c3
    obtain rfl:=Option.some.inj H
    go_wp2
    go_ret
    exact ⟨by first | rfl | (simp;done) | (simp [*];done),by repeat (first | exact Drawn0.refl _ | apply Drawn0.step)⟩

/-! ### laws_heldIntSS: function 29 -/
def laws_heldIntSS.l0 : Nat → List (List Int) → Int → Int → Option (Int)
 | 0,_,_,_ => none
 | k + 1,x0,x1,x5 => if x5 < (x0.length : Int) then (if 0 ≤ x5 then ((laws_heldIntS.f k (rd_L3 x0 x5) x1).bind fun t333 => (if t333 < 0 then (some (-1)) else (laws_heldIntSS.l0 k x0 t333 (wrap64 (x5 + 1))))) else (none)) else (some x1)
def laws_heldIntSS.f (k : Nat) (l0 : List (List Int)) (a1 : Int) : Option (Int):=laws_heldIntSS.l0 k l0 a1 0
theorem laws_heldIntSS.mono_l : ∀ k,(∀ y0 y1 y2,LeO (laws_heldIntSS.l0 k y0 y1 y2) (laws_heldIntSS.l0 (k + 1) y0 y1 y2))
 | 0 => fun _ _ _ r h => by simp [laws_heldIntSS.l0] at h
 | k + 1 => by
  have ih0:=laws_heldIntSS.mono_l k
  ·intro y0 y1 y2
   unfold laws_heldIntSS.l0
   repeat' first
   | (with_reducible exact ih0 _ _ _)
   | (with_reducible exact laws_heldIntS.mono _ _ _)
   | (with_reducible exact LeO.refl _)
   | (with_reducible exact LeO.none _)
   | (with_reducible refine LeO.ite ?_ ?_)
   | (with_reducible refine LeO.bind ?_ (fun _ => ?_))
   | exact ih0 _ _ _
   | exact laws_heldIntS.mono _ _ _
   | exact LeO.none _
   | refine LeO.ite ?_ ?_
   | refine LeO.bind ?_ (fun _ => ?_)
theorem laws_heldIntSS.mono : ∀ a0 a1 k,LeO (laws_heldIntSS.f k a0 a1) (laws_heldIntSS.f (k + 1) a0 a1):=by
 intro a0 a1 k
 have ih0:=laws_heldIntSS.mono_l k
 unfold laws_heldIntSS.f
 repeat' first
   | (with_reducible exact ih0 _ _ _)
   | (with_reducible exact laws_heldIntS.mono _ _ _)
   | (with_reducible exact LeO.refl _)
   | (with_reducible exact LeO.none _)
   | (with_reducible refine LeO.ite ?_ ?_)
   | (with_reducible refine LeO.bind ?_ (fun _ => ?_))
   | exact ih0 _ _ _
   | exact laws_heldIntS.mono _ _ _
   | exact LeO.none _
   | refine LeO.ite ?_ ?_
   | refine LeO.bind ?_ (fun _ => ?_)
set_option maxHeartbeats 8000000 in
set_option maxRecDepth 100000 in
theorem laws_heldIntSS.calls (k : Nat) (A0 : Option Addr) (c0 : Nat) (l0 : List (List Int)) (a1 : Int) (r : Int) (w : World) (hr0 : Kd.C (Kd.slice 3 (Kd.int .i64)) w A0 l0.length l0) (hc0 : l0.length ≤ c0) (h : laws_heldIntSS.f k l0 a1 = some r) :
  Calls Try.prog 29 #[.slice A0 l0.length c0,.int .i64 a1] w fun e w' => e = .returned (.int .i64 r) ∧ Drawn0 w w':=by
 have HR0:=Aside0.mk hr0
 have HC0:=Aside0.mk hc0
 clear hr0 hc0
 have H : (laws_heldIntSS.l0 k l0 a1 0) = some r:=h
 clear h
 have H':=Aside0.mk H
 clear H
 go_enter Try.func29,Try.ntmps29
 go_wp2
 go_loopg [1,5] k (fun kq v1 v5 w' => ∃ (x1_1 : Int) (x5_1 : Int),v1 = .int .i64 x1_1 ∧ v5 = .int .i64 x5_1 ∧ Aside0 (laws_heldIntSS.l0 kq l0 x1_1 x5_1 = some r) ∧ Aside0 (kq ≤ k) ∧ Drawn0 w w')
 case atStart => exact ⟨(a1),(0),(by first | rfl | (simp;done) | (simp [*];done)),(by first | rfl | (simp;done) | (simp [*];done)),H',⟨Nat.le_refl _⟩,by repeat (first | exact Drawn0.refl _ | apply Drawn0.step)⟩
 case round =>
  clear H'
  try clear c2
  try clear p2
  obtain ⟨x1_1,x5_1,rfl,rfl,HA,HK1,⟨m1,rfl⟩⟩:=hrel
  cases gk with
  | zero => exact absurd HA.out (by simp [laws_heldIntSS.l0])
  | succ k1 =>
   have H:=HA.out
   clear HA
   simp only [laws_heldIntSS.l0] at H
   by_cases c3 : x5_1 < (l0.length : Int)
   ·rw [if_pos c3] at H
    have c3b0 : decide (x5_1 < (l0.length : Int)) = true:=decide_eq_true c3
    clear c3
    by_cases c4 : 0 ≤ x5_1
    ·rw [if_pos c4] at H
     have c4b0 : decide (0 ≤ x5_1) = true:=decide_eq_true c4
     clear c4
     replace H:=Option.bind_eq_some_iff.mp H
     obtain ⟨t333,A50,H⟩:=H
     replace H : (if t333 < 0 then (some (-1)) else (laws_heldIntSS.l0 k1 l0 t333 (wrap64 (x5_1 + 1)))) = some r:=H
     have A5:=Aside0.mk A50
     clear A50
     by_cases c6 : t333 < 0
     ·rw [if_pos c6] at H
      have c6b0 : decide (t333 < 0) = true:=decide_eq_true c6
      clear c6
      obtain rfl:=Option.some.inj H
      have p332 : 0 ≤ (x5_1 : Int):=of_decide_eq_true (by first | (with_reducible assumption) | assumption)
      have q332 : x5_1 < (l0.length : Int):=of_decide_eq_true (by first | (with_reducible assumption) | assumption)
      obtain ⟨ad332,A332_0,c332_0,e332,hx332_0,hl332_0,hi332_0⟩:=at_L3 HR0.out x5_1 p332 q332
      cases e332
      have HR332_0:=Aside0.mk hi332_0
      have HC332_0:=Aside0.mk hl332_0
      clear hi332_0 hl332_0
      replace p332:=eq_true p332
      replace q332:=eq_true q332
      go_wp2_with (first | ((with_reducible refine gate_callee (f:=24) rfl ?_);refine goesL_ (some 17) rfl rfl Try.func24 (by kernel_rfl) rfl #[.slice A332_0 (rd_L3 l0 x5_1).length c332_0,.int .i64 x1_1] rfl (by (try simp only [List.map_toArray,List.map_cons,List.map_nil]);first | done | rfl | (simp only [List.length_drop,List.length_take];rfl)) ?_;(with_reducible refine (laws_heldIntS.calls k1 _ _ (rd_L3 l0 x5_1) x1_1 t333 _ ?side1 ?side2 A5.out).mono ?_);(case side1 => repeat (first | exact HR332_0.out | (with_reducible refine Kd.C_alloc ?_ _) | (with_reducible refine Kd.C_drewN ?_ _) | (with_reducible refine Kd.C_drew ?_)));(case side2 => exact HC332_0.out);rintro e w' ⟨rfl,⟨nd,rfl⟩⟩;refine ⟨_,rfl,?_⟩))
      go_ret
      exact ⟨by first | rfl | (simp;done) | (simp [*];done),by repeat (first | exact Drawn0.refl _ | apply Drawn0.step)⟩
     ·rw [if_neg c6] at H
      have c6b0 : decide (t333 < 0) = false:=decide_eq_false c6
      clear c6
      have H':=Aside0.mk H
      clear H
      have p332 : 0 ≤ (x5_1 : Int):=of_decide_eq_true (by first | (with_reducible assumption) | assumption)
      have q332 : x5_1 < (l0.length : Int):=of_decide_eq_true (by first | (with_reducible assumption) | assumption)
      obtain ⟨ad332,A332_0,c332_0,e332,hx332_0,hl332_0,hi332_0⟩:=at_L3 HR0.out x5_1 p332 q332
      cases e332
      have HR332_0:=Aside0.mk hi332_0
      have HC332_0:=Aside0.mk hl332_0
      clear hi332_0 hl332_0
      replace p332:=eq_true p332
      replace q332:=eq_true q332
      go_wp2_with (first | ((with_reducible refine gate_callee (f:=24) rfl ?_);refine goesL_ (some 17) rfl rfl Try.func24 (by kernel_rfl) rfl #[.slice A332_0 (rd_L3 l0 x5_1).length c332_0,.int .i64 x1_1] rfl (by (try simp only [List.map_toArray,List.map_cons,List.map_nil]);first | done | rfl | (simp only [List.length_drop,List.length_take];rfl)) ?_;(with_reducible refine (laws_heldIntS.calls k1 _ _ (rd_L3 l0 x5_1) x1_1 t333 _ ?side1 ?side2 A5.out).mono ?_);(case side1 => repeat (first | exact HR332_0.out | (with_reducible refine Kd.C_alloc ?_ _) | (with_reducible refine Kd.C_drewN ?_ _) | (with_reducible refine Kd.C_drew ?_)));(case side2 => exact HC332_0.out);rintro e w' ⟨rfl,⟨nd,rfl⟩⟩;refine ⟨_,rfl,?_⟩))
      go_roundg k1
      case measure => have:=HK1.out;omega
      case rel => exact ⟨(t333),(wrap64 (x5_1 + 1)),(by first | rfl | (simp;done) | (simp [*];done)),(by first | rfl | (simp;done) | (simp [*];done)),H',⟨by have:=HK1.out;omega⟩,by repeat (first | exact Drawn0.refl _ | apply Drawn0.step)⟩
    ·rw [if_neg c4] at H
     exact absurd H (by simp)
   ·rw [if_neg c3] at H
    have c3b0 : decide (x5_1 < (l0.length : Int)) = false:=decide_eq_false c3
    clear c3
    obtain rfl:=Option.some.inj H
    go_wp2
    go_ret
    exact ⟨by first | rfl | (simp;done) | (simp [*];done),by repeat (first | exact Drawn0.refl _ | apply Drawn0.step)⟩

-- WRITTEN BY lawgen.py
/-! ### laws_FnExactPredsOf: function 6 (by lawgen.py: rows in rows are marked) -/
def laws_FnExactPredsOf.f (k : Nat) (l0 : List (S53)) : Option Bool:=(laws_szBlockS.f k l0 1048576).bind fun t2 => (if t2 < 0 then (some true) else ((laws_toBlockS.f k l0).bind fun t7 => ((spec_PredsOf.f k t7).bind fun bt16 => ((laws_toBlockS.f k l0).bind fun t26 => ((impl_PredsOf.f k t26).bind fun bt35 => ((laws_eqIntSS.f k bt35.1 bt16.1).bind fun t45 => (if t45 = true then (if bt35.2 = bt16.2 then ((laws_toBlockS.f k l0).bind fun t50 => ((laws_eqBlockS.f k t26 t50).bind fun t59 => (if t59 = true then ((laws_markBlockS.f k t26 1).bind fun bt64 => (if bt64.1 < 0 then (none) else ((laws_eqIntSS.f k bt35.1 bt16.1).bind fun t71 => (if t71 = true then (if bt35.2 = bt16.2 then ((laws_markIntSS.f k bt35.1 1).bind fun bt76 => ((laws_heldIntSS.f k bt76.2 1).bind fun t83 => (if t83 < 0 then (none) else (if t83 = bt76.1 then ((laws_toBlockS.f k l0).bind fun t88 => ((impl_PredsOf.f k t88).bind fun bt97 => ((laws_eqIntSS.f k bt97.1 bt16.1).bind fun t107 => (if t107 = true then (if bt97.2 = bt16.2 then ((laws_heldIntSS.f k bt76.2 1).bind fun t112 => (if t112 < 0 then (none) else (if t112 = bt76.1 then (some true) else none))) else none) else none)))) else none)))) else none) else none)))) else none))) else none) else none)))))))
theorem laws_FnExactPredsOf.mono : ∀ a0 k,LeO (laws_FnExactPredsOf.f k a0) (laws_FnExactPredsOf.f (k + 1) a0):=by
 intro a0 k
 unfold laws_FnExactPredsOf.f
 repeat' first
   | (with_reducible exact laws_szBlockS.mono _ _ _)
   | (with_reducible exact laws_toBlockS.mono _ _)
   | (with_reducible exact spec_PredsOf.mono _ _)
   | (with_reducible exact impl_PredsOf.mono _ _)
   | (with_reducible exact laws_eqIntSS.mono _ _ _)
   | (with_reducible exact laws_eqBlockS.mono _ _ _)
   | (with_reducible exact laws_markBlockS.mono _ _ _)
   | (with_reducible exact laws_markIntSS.mono _ _ _)
   | (with_reducible exact laws_heldIntSS.mono _ _ _)
   | (with_reducible exact LeO.refl _)
   | (with_reducible exact LeO.none _)
   | (with_reducible refine LeO.ite ?_ ?_)
   | (with_reducible refine LeO.bind ?_ (fun _ => ?_))
set_option maxHeartbeats 8000000 in
set_option maxRecDepth 100000 in
theorem laws_FnExactPredsOf.calls (k : Nat) (A0 : Option Addr) (c0 : Nat) (l0 : List (S53)) (r : Bool) (w : World) (hr0 : Kd.C k53 w A0 l0.length l0) (hc0 : l0.length ≤ c0) (h : laws_FnExactPredsOf.f k l0 = some r) :
  Calls Try.prog 6 #[.slice A0 l0.length c0] w fun e w' => e = .returned (.bool r) ∧ Below w.heap.size w w':=by
 have HR0:=Aside0.mk hr0
 have HC0:=Aside0.mk hc0
 clear hr0 hc0
 have tok4 : Aside0 True:=⟨trivial⟩
 have tok9 : Aside0 True:=⟨trivial⟩
 have tok19 : Aside0 True:=⟨trivial⟩
 have tok28 : Aside0 True:=⟨trivial⟩
 have tok38 : Aside0 True:=⟨trivial⟩
 have tok47 : Aside0 True:=⟨trivial⟩
 have tok52 : Aside0 True:=⟨trivial⟩
 have tok61 : Aside0 True:=⟨trivial⟩
 have tok67 : Aside0 True:=⟨trivial⟩
 have tok73 : Aside0 True:=⟨trivial⟩
 have tok79 : Aside0 True:=⟨trivial⟩
 have tok85 : Aside0 True:=⟨trivial⟩
 have tok90 : Aside0 True:=⟨trivial⟩
 have tok100 : Aside0 True:=⟨trivial⟩
 have tok109 : Aside0 True:=⟨trivial⟩
 have tok114 : Aside0 True:=⟨trivial⟩
 have HB:=Aside0.mk (Below.refl w.heap.size w)
 unfold laws_FnExactPredsOf.f at h
 have bq_ : ∀ b_ : Bool,(b_ != b_) = false:=by decide
 replace h:=Option.bind_eq_some_iff.mp h
 obtain ⟨t2,A10,h⟩:=h
 (try dsimp only at h)
 have A1:=Aside0.mk A10
 clear A10
 by_cases c1 : t2 < 0
 ·rw [if_pos c1] at h
  obtain rfl:=Option.some.inj h
  have c1b : decide (t2 < 0) = true:=decide_eq_true c1
  clear c1
  go_enter Try.func6,Try.ntmps6
  go_wp2_with (first | (go_at_call 9;have u_:=tok4;clear u_;((with_reducible refine (laws_szBlockS.calls k _ _ l0 1048576 t2 _ (Kd.C_below HR0.out HB.out) HC0.out A1.out).mono ?_));rintro e w3 ⟨rfl,hb⟩;have nb_:=Aside0.mk (below_step HB.out hb);clear HB;have HB:=nb_;clear nb_;have Z5:=Aside0.mk hb.size;clear hb tok4))
  go_ret
  exact ⟨rfl,HB.out⟩
 rw [if_neg c1] at h
 have c1b : decide (t2 < 0) = false:=decide_eq_false c1
 clear c1
 replace h:=Option.bind_eq_some_iff.mp h
 obtain ⟨t7,A60,h⟩:=h
 (try dsimp only at h)
 have A6:=Aside0.mk A60
 clear A60
 replace h:=Option.bind_eq_some_iff.mp h
 obtain ⟨⟨t16,t17⟩,A150,h⟩:=h
 (try dsimp only at h)
 have A15:=Aside0.mk A150
 clear A150
 replace h:=Option.bind_eq_some_iff.mp h
 obtain ⟨t26,A250,h⟩:=h
 (try dsimp only at h)
 have A25:=Aside0.mk A250
 clear A250
 replace h:=Option.bind_eq_some_iff.mp h
 obtain ⟨⟨t35,t36⟩,A340,h⟩:=h
 (try dsimp only at h)
 have A34:=Aside0.mk A340
 clear A340
 replace h:=Option.bind_eq_some_iff.mp h
 obtain ⟨t45,A440,h⟩:=h
 (try dsimp only at h)
 have A44:=Aside0.mk A440
 clear A440
 cases t45 with
 | false => exact absurd h (by simp)
 | true =>
  rw [if_pos rfl] at h
  by_cases c2 : t36 = t17
  rotate_left
  ·rw [if_neg c2] at h;exact absurd h (by simp)
  rw [if_pos c2] at h
  have c2b : (t36 != t17) = false:=by rw [c2];simp
  have c2d : (t36 == t17) = true:=by rw [c2];simp
  have C2:=Aside0.mk c2
  clear c2
  replace h:=Option.bind_eq_some_iff.mp h
  obtain ⟨t50,A490,h⟩:=h
  (try dsimp only at h)
  have A49:=Aside0.mk A490
  clear A490
  replace h:=Option.bind_eq_some_iff.mp h
  obtain ⟨t59,A580,h⟩:=h
  (try dsimp only at h)
  have A58:=Aside0.mk A580
  clear A580
  cases t59 with
  | false => exact absurd h (by simp)
  | true =>
   rw [if_pos rfl] at h
   replace h:=Option.bind_eq_some_iff.mp h
   obtain ⟨⟨t64,t65⟩,A630,h⟩:=h
   (try dsimp only at h)
   have A63:=Aside0.mk A630
   clear A630
   by_cases c3 : t64 < 0
   ·rw [if_pos c3] at h;exact absurd h (by simp)
   rw [if_neg c3] at h
   have c3b : decide (t64 < 0) = false:=decide_eq_false c3
   clear c3
   replace h:=Option.bind_eq_some_iff.mp h
   obtain ⟨t71,A700,h⟩:=h
   (try dsimp only at h)
   have A70:=Aside0.mk A700
   clear A700
   cases t71 with
   | false => exact absurd h (by simp)
   | true =>
    rw [if_pos rfl] at h
    by_cases c4 : t36 = t17
    rotate_left
    ·rw [if_neg c4] at h;exact absurd h (by simp)
    rw [if_pos c4] at h
    have c4b : (t36 != t17) = false:=by rw [c4];simp
    have c4d : (t36 == t17) = true:=by rw [c4];simp
    have C4:=Aside0.mk c4
    clear c4
    replace h:=Option.bind_eq_some_iff.mp h
    obtain ⟨⟨t76,t77⟩,A750,h⟩:=h
    (try dsimp only at h)
    have A75:=Aside0.mk A750
    clear A750
    replace h:=Option.bind_eq_some_iff.mp h
    obtain ⟨t83,A820,h⟩:=h
    (try dsimp only at h)
    have A82:=Aside0.mk A820
    clear A820
    by_cases c5 : t83 < 0
    ·rw [if_pos c5] at h;exact absurd h (by simp)
    rw [if_neg c5] at h
    have c5b : decide (t83 < 0) = false:=decide_eq_false c5
    clear c5
    by_cases c6 : t83 = t76
    rotate_left
    ·rw [if_neg c6] at h;exact absurd h (by simp)
    rw [if_pos c6] at h
    have c6b : (t83 != t76) = false:=by rw [c6];simp
    have c6d : (t83 == t76) = true:=by rw [c6];simp
    have C6:=Aside0.mk c6
    clear c6
    replace h:=Option.bind_eq_some_iff.mp h
    obtain ⟨t88,A870,h⟩:=h
    (try dsimp only at h)
    have A87:=Aside0.mk A870
    clear A870
    replace h:=Option.bind_eq_some_iff.mp h
    obtain ⟨⟨t97,t98⟩,A960,h⟩:=h
    (try dsimp only at h)
    have A96:=Aside0.mk A960
    clear A960
    replace h:=Option.bind_eq_some_iff.mp h
    obtain ⟨t107,A1060,h⟩:=h
    (try dsimp only at h)
    have A106:=Aside0.mk A1060
    clear A1060
    cases t107 with
    | false => exact absurd h (by simp)
    | true =>
     rw [if_pos rfl] at h
     by_cases c7 : t98 = t17
     rotate_left
     ·rw [if_neg c7] at h;exact absurd h (by simp)
     rw [if_pos c7] at h
     have c7b : (t98 != t17) = false:=by rw [c7];simp
     have c7d : (t98 == t17) = true:=by rw [c7];simp
     have C7:=Aside0.mk c7
     clear c7
     replace h:=Option.bind_eq_some_iff.mp h
     obtain ⟨t112,A1110,h⟩:=h
     (try dsimp only at h)
     have A111:=Aside0.mk A1110
     clear A1110
     by_cases c8 : t112 < 0
     ·rw [if_pos c8] at h;exact absurd h (by simp)
     rw [if_neg c8] at h
     have c8b : decide (t112 < 0) = false:=decide_eq_false c8
     clear c8
     by_cases c9 : t112 = t76
     rotate_left
     ·rw [if_neg c9] at h;exact absurd h (by simp)
     rw [if_pos c9] at h
     have c9b : (t112 != t76) = false:=by rw [c9];simp
     have c9d : (t112 == t76) = true:=by rw [c9];simp
     have C9:=Aside0.mk c9
     clear c9
     obtain rfl:=Option.some.inj h
     go_enter Try.func6,Try.ntmps6
     go_wp2_with (first | (go_at_call 9;have u_:=tok4;clear u_;((with_reducible refine (laws_szBlockS.calls k _ _ l0 1048576 t2 _ (Kd.C_below HR0.out HB.out) HC0.out A1.out).mono ?_));rintro e w3 ⟨rfl,hb⟩;have nb_:=Aside0.mk (below_step HB.out hb);clear HB;have HB:=nb_;clear nb_;have Z5:=Aside0.mk hb.size;clear hb tok4) | (go_at_call 11;have u_:=tok9;clear u_;((with_reducible refine (laws_toBlockS.calls k _ _ l0 t7 _ (Kd.C_below HR0.out HB.out) HC0.out A6.out).mono ?_));rintro e w8 ⟨v10,rfl,ho0,hb⟩;have nF11_:=Aside0.mk (OwnS.make HB.out hb ho0);have nb_:=Aside0.mk (below_step HB.out hb);clear HB;have HB:=nb_;clear nb_;have Z12:=Aside0.mk hb.size;have F11:=nF11_;clear nF11_;obtain ⟨Ao14,co14,eo14⟩:=Kd.S_slice F11.out;subst eo14;clear hb tok9 ho0) | (go_at_call 25;have u_:=tok19;clear u_;((with_reducible refine (spec_PredsOf.calls k _ _ t7 t16 t17 _ (Kd.S_reads' F11.out).2.2 (S_cap F11.out) A15.out).mono ?_));rintro e w18 ⟨v20,rfl,ho0,hb⟩;have nF21_:=Aside0.mk (OwnS.make HB.out hb ho0);have n0_:=Aside0.mk (OwnS.below F11.out hb);have nb_:=Aside0.mk (below_step HB.out hb);clear F11 HB;have F11:=n0_;have HB:=nb_;clear n0_ nb_;have Z22:=Aside0.mk hb.size;have F21:=nF21_;clear nF21_;obtain ⟨Ao24,co24,eo24⟩:=Kd.S_slice F21.out;subst eo24;clear hb tok19 ho0) | (go_at_call 11;have u_:=tok28;clear u_;((with_reducible refine (laws_toBlockS.calls k _ _ l0 t26 _ (Kd.C_below HR0.out HB.out) HC0.out A25.out).mono ?_));rintro e w27 ⟨v29,rfl,ho0,hb⟩;have nF30_:=Aside0.mk (OwnS.make HB.out hb ho0);have n0_:=Aside0.mk (OwnS.below F11.out hb);have n1_:=Aside0.mk (OwnS.below F21.out hb);have nb_:=Aside0.mk (below_step HB.out hb);clear F11 F21 HB;have F11:=n0_;have F21:=n1_;have HB:=nb_;clear n0_ n1_ nb_;have Z31:=Aside0.mk hb.size;have F30:=nF30_;clear nF30_;obtain ⟨Ao33,co33,eo33⟩:=Kd.S_slice F30.out;subst eo33;clear hb tok28 ho0) | (go_at_call 26;have u_:=tok38;clear u_;((with_reducible refine (impl_PredsOf.calls k _ _ t26 t35 t36 _ (Kd.S_reads' F30.out).2.2 (S_cap F30.out) A34.out).mono ?_));rintro e w37 ⟨v39,rfl,ho0,hb⟩;have nF40_:=Aside0.mk (OwnS.make HB.out hb ho0);have n0_:=Aside0.mk (OwnS.below F11.out hb);have n1_:=Aside0.mk (OwnS.below F21.out hb);have n2_:=Aside0.mk (OwnS.below F30.out hb);have nb_:=Aside0.mk (below_step HB.out hb);clear F11 F21 F30 HB;have F11:=n0_;have F21:=n1_;have F30:=n2_;have HB:=nb_;clear n0_ n1_ n2_ nb_;have Z41:=Aside0.mk hb.size;have F40:=nF40_;clear nF40_;obtain ⟨Ao43,co43,eo43⟩:=Kd.S_slice F40.out;subst eo43;clear hb tok38 ho0) | (go_at_call 27;have u_:=tok47;clear u_;((with_reducible refine (laws_eqIntSS.calls k _ _ t35 _ _ t16 true _ (Kd.S_reads' F40.out).2.2 (S_cap F40.out) (Kd.S_reads' F21.out).2.2 (S_cap F21.out) A44.out).mono ?_));rintro e w46 ⟨rfl,hd⟩;have hb:=hd.below;clear hd;have n0_:=Aside0.mk (OwnS.below F11.out hb);have n1_:=Aside0.mk (OwnS.below F21.out hb);have n2_:=Aside0.mk (OwnS.below F30.out hb);have n3_:=Aside0.mk (OwnS.below F40.out hb);have nb_:=Aside0.mk (below_step HB.out hb);clear F11 F21 F30 F40 HB;have F11:=n0_;have F21:=n1_;have F30:=n2_;have F40:=n3_;have HB:=nb_;clear n0_ n1_ n2_ n3_ nb_;have Z48:=Aside0.mk hb.size;clear hb tok47) | (go_at_call 11;have u_:=tok52;clear u_;((with_reducible refine (laws_toBlockS.calls k _ _ l0 t50 _ (Kd.C_below HR0.out HB.out) HC0.out A49.out).mono ?_));rintro e w51 ⟨v53,rfl,ho0,hb⟩;have nF54_:=Aside0.mk (OwnS.make HB.out hb ho0);have n0_:=Aside0.mk (OwnS.below F11.out hb);have n1_:=Aside0.mk (OwnS.below F21.out hb);have n2_:=Aside0.mk (OwnS.below F30.out hb);have n3_:=Aside0.mk (OwnS.below F40.out hb);have nb_:=Aside0.mk (below_step HB.out hb);clear F11 F21 F30 F40 HB;have F11:=n0_;have F21:=n1_;have F30:=n2_;have F40:=n3_;have HB:=nb_;clear n0_ n1_ n2_ n3_ nb_;have Z55:=Aside0.mk hb.size;have F54:=nF54_;clear nF54_;obtain ⟨Ao57,co57,eo57⟩:=Kd.S_slice F54.out;subst eo57;clear hb tok52 ho0) | (go_at_call 13;have u_:=tok61;clear u_;((with_reducible refine (laws_eqBlockS.calls k _ _ t26 _ _ t50 true _ (Kd.S_reads' F30.out).2.2 (S_cap F30.out) (Kd.S_reads' F54.out).2.2 (S_cap F54.out) A58.out).mono ?_));rintro e w60 ⟨rfl,hb⟩;have n0_:=Aside0.mk (OwnS.below F11.out hb);have n1_:=Aside0.mk (OwnS.below F21.out hb);have n2_:=Aside0.mk (OwnS.below F30.out hb);have n3_:=Aside0.mk (OwnS.below F40.out hb);have n4_:=Aside0.mk (OwnS.below F54.out hb);have nb_:=Aside0.mk (below_step HB.out hb);clear F11 F21 F30 F40 F54 HB;have F11:=n0_;have F21:=n1_;have F30:=n2_;have F40:=n3_;have F54:=n4_;have HB:=nb_;clear n0_ n1_ n2_ n3_ n4_ nb_;have Z62:=Aside0.mk hb.size;clear hb tok61) | (go_at_call 17;have u_:=tok67;clear u_;((with_reducible refine (laws_markBlockS.calls k (fun k_ => w18.heap.size ≤ k_ ∧ k_ < w27.heap.size) (.slice Ao33 t26.length co33) t26 1 t64 t65 w _ HB.out F30.out A63.out).mono ?_));rintro e w66 ⟨rfl,hy,hb,hkp⟩;have Z68:=Aside0.mk hkp.1;have ny_ : Aside0 (OwnS k56 56 w w66 w18.heap.size w27.heap.size (.slice Ao33 t26.length co33) t65):=⟨hy⟩;have n0_:=Aside0.mk (OwnS.kept F11.out hkp (by have:=Z5.out;have:=Z12.out;have:=Z22.out;have:=Z31.out;have:=Z41.out;have:=Z48.out;have:=Z55.out;have:=Z62.out;omega));have n1_:=Aside0.mk (OwnS.kept F21.out hkp (by have:=Z5.out;have:=Z12.out;have:=Z22.out;have:=Z31.out;have:=Z41.out;have:=Z48.out;have:=Z55.out;have:=Z62.out;omega));have n3_:=Aside0.mk (OwnS.kept F40.out hkp (by have:=Z5.out;have:=Z12.out;have:=Z22.out;have:=Z31.out;have:=Z41.out;have:=Z48.out;have:=Z55.out;have:=Z62.out;omega));have n4_:=Aside0.mk (OwnS.kept F54.out hkp (by have:=Z5.out;have:=Z12.out;have:=Z22.out;have:=Z31.out;have:=Z41.out;have:=Z48.out;have:=Z55.out;have:=Z62.out;omega));have nb_:=Aside0.mk (hb);clear F11 F21 F40 F54 HB;have F11:=n0_;have F21:=n1_;have F40:=n3_;have F54:=n4_;have HB:=nb_;clear n0_ n1_ n3_ n4_ nb_;have F69:=ny_;clear ny_ hy hb hkp F30;clear tok67) | (go_at_call 27;have u_:=tok73;clear u_;((with_reducible refine (laws_eqIntSS.calls k _ _ t35 _ _ t16 true _ (Kd.S_reads' F40.out).2.2 (S_cap F40.out) (Kd.S_reads' F21.out).2.2 (S_cap F21.out) A70.out).mono ?_));rintro e w72 ⟨rfl,hd⟩;have hb:=hd.below;clear hd;have n0_:=Aside0.mk (OwnS.below F11.out hb);have n1_:=Aside0.mk (OwnS.below F21.out hb);have n2_:=Aside0.mk (OwnS.below F69.out hb);have n3_:=Aside0.mk (OwnS.below F40.out hb);have n4_:=Aside0.mk (OwnS.below F54.out hb);have nb_:=Aside0.mk (below_step HB.out hb);clear F11 F21 F69 F40 F54 HB;have F11:=n0_;have F21:=n1_;have F69:=n2_;have F40:=n3_;have F54:=n4_;have HB:=nb_;clear n0_ n1_ n2_ n3_ n4_ nb_;have Z74:=Aside0.mk hb.size;clear hb tok73) | (go_at_call 28;have u_:=tok79;clear u_;((with_reducible refine (laws_markIntSS.calls k (fun k_ => w27.heap.size ≤ k_ ∧ k_ < w37.heap.size) (.slice Ao43 t35.length co43) t35 1 t76 t77 w _ HB.out F40.out A75.out).mono ?_));rintro e w78 ⟨rfl,hy,hb,hkp⟩;have Z80:=Aside0.mk hkp.1;have ny_ : Aside0 (OwnS (Kd.slice 3 (Kd.int .i64)) 37 w w78 w27.heap.size w37.heap.size (.slice Ao43 t35.length co43) t77):=⟨hy⟩;have n0_:=Aside0.mk (OwnS.kept F11.out hkp (by have:=Z5.out;have:=Z12.out;have:=Z22.out;have:=Z31.out;have:=Z41.out;have:=Z48.out;have:=Z55.out;have:=Z62.out;have:=Z68.out;have:=Z74.out;omega));have n1_:=Aside0.mk (OwnS.kept F21.out hkp (by have:=Z5.out;have:=Z12.out;have:=Z22.out;have:=Z31.out;have:=Z41.out;have:=Z48.out;have:=Z55.out;have:=Z62.out;have:=Z68.out;have:=Z74.out;omega));have n2_:=Aside0.mk (OwnS.kept F69.out hkp (by have:=Z5.out;have:=Z12.out;have:=Z22.out;have:=Z31.out;have:=Z41.out;have:=Z48.out;have:=Z55.out;have:=Z62.out;have:=Z68.out;have:=Z74.out;omega));have n4_:=Aside0.mk (OwnS.kept F54.out hkp (by have:=Z5.out;have:=Z12.out;have:=Z22.out;have:=Z31.out;have:=Z41.out;have:=Z48.out;have:=Z55.out;have:=Z62.out;have:=Z68.out;have:=Z74.out;omega));have nb_:=Aside0.mk (hb);clear F11 F21 F69 F54 HB;have F11:=n0_;have F21:=n1_;have F69:=n2_;have F54:=n4_;have HB:=nb_;clear n0_ n1_ n2_ n4_ nb_;have F81:=ny_;clear ny_ hy hb hkp F40;clear tok79) | (go_at_call 29;have u_:=tok85;clear u_;refine calls_of_args (args':=#[.slice Ao43 t77.length co43,.int .i64 1]) (by first | (rw [show t77.length = t35.length from (Kd.S_reads' F81.out).1.symm];done) | (rw [show t77.length = t35.length from (Kd.S_reads' F81.out).1.symm];rfl)) ?_;((with_reducible refine (laws_heldIntSS.calls k _ _ t77 1 t83 _ (Kd.S_reads' F81.out).2.2 (S_cap F81.out) A82.out).mono ?_));rintro e w84 ⟨rfl,hd⟩;have hb:=hd.below;clear hd;have n0_:=Aside0.mk (OwnS.below F11.out hb);have n1_:=Aside0.mk (OwnS.below F21.out hb);have n2_:=Aside0.mk (OwnS.below F69.out hb);have n3_:=Aside0.mk (OwnS.below F81.out hb);have n4_:=Aside0.mk (OwnS.below F54.out hb);have nb_:=Aside0.mk (below_step HB.out hb);clear F11 F21 F69 F81 F54 HB;have F11:=n0_;have F21:=n1_;have F69:=n2_;have F81:=n3_;have F54:=n4_;have HB:=nb_;clear n0_ n1_ n2_ n3_ n4_ nb_;have Z86:=Aside0.mk hb.size;clear hb tok85) | (go_at_call 11;have u_:=tok90;clear u_;((with_reducible refine (laws_toBlockS.calls k _ _ l0 t88 _ (Kd.C_below HR0.out HB.out) HC0.out A87.out).mono ?_));rintro e w89 ⟨v91,rfl,ho0,hb⟩;have nF92_:=Aside0.mk (OwnS.make HB.out hb ho0);have n0_:=Aside0.mk (OwnS.below F11.out hb);have n1_:=Aside0.mk (OwnS.below F21.out hb);have n2_:=Aside0.mk (OwnS.below F69.out hb);have n3_:=Aside0.mk (OwnS.below F81.out hb);have n4_:=Aside0.mk (OwnS.below F54.out hb);have nb_:=Aside0.mk (below_step HB.out hb);clear F11 F21 F69 F81 F54 HB;have F11:=n0_;have F21:=n1_;have F69:=n2_;have F81:=n3_;have F54:=n4_;have HB:=nb_;clear n0_ n1_ n2_ n3_ n4_ nb_;have Z93:=Aside0.mk hb.size;have F92:=nF92_;clear nF92_;obtain ⟨Ao95,co95,eo95⟩:=Kd.S_slice F92.out;subst eo95;clear hb tok90 ho0) | (go_at_call 26;have u_:=tok100;clear u_;((with_reducible refine (impl_PredsOf.calls k _ _ t88 t97 t98 _ (Kd.S_reads' F92.out).2.2 (S_cap F92.out) A96.out).mono ?_));rintro e w99 ⟨v101,rfl,ho0,hb⟩;have nF102_:=Aside0.mk (OwnS.make HB.out hb ho0);have n0_:=Aside0.mk (OwnS.below F11.out hb);have n1_:=Aside0.mk (OwnS.below F21.out hb);have n2_:=Aside0.mk (OwnS.below F69.out hb);have n3_:=Aside0.mk (OwnS.below F81.out hb);have n4_:=Aside0.mk (OwnS.below F54.out hb);have n5_:=Aside0.mk (OwnS.below F92.out hb);have nb_:=Aside0.mk (below_step HB.out hb);clear F11 F21 F69 F81 F54 F92 HB;have F11:=n0_;have F21:=n1_;have F69:=n2_;have F81:=n3_;have F54:=n4_;have F92:=n5_;have HB:=nb_;clear n0_ n1_ n2_ n3_ n4_ n5_ nb_;have Z103:=Aside0.mk hb.size;have F102:=nF102_;clear nF102_;obtain ⟨Ao105,co105,eo105⟩:=Kd.S_slice F102.out;subst eo105;clear hb tok100 ho0) | (go_at_call 27;have u_:=tok109;clear u_;((with_reducible refine (laws_eqIntSS.calls k _ _ t97 _ _ t16 true _ (Kd.S_reads' F102.out).2.2 (S_cap F102.out) (Kd.S_reads' F21.out).2.2 (S_cap F21.out) A106.out).mono ?_));rintro e w108 ⟨rfl,hd⟩;have hb:=hd.below;clear hd;have n0_:=Aside0.mk (OwnS.below F11.out hb);have n1_:=Aside0.mk (OwnS.below F21.out hb);have n2_:=Aside0.mk (OwnS.below F69.out hb);have n3_:=Aside0.mk (OwnS.below F81.out hb);have n4_:=Aside0.mk (OwnS.below F54.out hb);have n5_:=Aside0.mk (OwnS.below F92.out hb);have n6_:=Aside0.mk (OwnS.below F102.out hb);have nb_:=Aside0.mk (below_step HB.out hb);clear F11 F21 F69 F81 F54 F92 F102 HB;have F11:=n0_;have F21:=n1_;have F69:=n2_;have F81:=n3_;have F54:=n4_;have F92:=n5_;have F102:=n6_;have HB:=nb_;clear n0_ n1_ n2_ n3_ n4_ n5_ n6_ nb_;have Z110:=Aside0.mk hb.size;clear hb tok109) | (go_at_call 29;have u_:=tok114;clear u_;refine calls_of_args (args':=#[.slice Ao43 t77.length co43,.int .i64 1]) (by first | (rw [show t77.length = t35.length from (Kd.S_reads' F81.out).1.symm];done) | (rw [show t77.length = t35.length from (Kd.S_reads' F81.out).1.symm];rfl)) ?_;((with_reducible refine (laws_heldIntSS.calls k _ _ t77 1 t112 _ (Kd.S_reads' F81.out).2.2 (S_cap F81.out) A111.out).mono ?_));rintro e w113 ⟨rfl,hd⟩;have hb:=hd.below;clear hd;have n0_:=Aside0.mk (OwnS.below F11.out hb);have n1_:=Aside0.mk (OwnS.below F21.out hb);have n2_:=Aside0.mk (OwnS.below F69.out hb);have n3_:=Aside0.mk (OwnS.below F81.out hb);have n4_:=Aside0.mk (OwnS.below F54.out hb);have n5_:=Aside0.mk (OwnS.below F92.out hb);have n6_:=Aside0.mk (OwnS.below F102.out hb);have nb_:=Aside0.mk (below_step HB.out hb);clear F11 F21 F69 F81 F54 F92 F102 HB;have F11:=n0_;have F21:=n1_;have F69:=n2_;have F81:=n3_;have F54:=n4_;have F92:=n5_;have F102:=n6_;have HB:=nb_;clear n0_ n1_ n2_ n3_ n4_ n5_ n6_ nb_;have Z115:=Aside0.mk hb.size;clear hb tok114))
     go_ret
     exact ⟨rfl,HB.out⟩

/-- THE ONE PURE STATEMENT of laws_FnExactPredsOf: yours. -/
def laws_FnExactPredsOf.Pure : Prop:=∀ (l0 : List (S53)),l0.length ≤ maxLen → (∀ x ∈ l0,Good53 x) → ∃ k,laws_FnExactPredsOf.f k l0 = some true

end Go.Proofs.Ythgkhfhfahifmaa.Q
