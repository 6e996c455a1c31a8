-- WRITTEN BY A PROGRAM OF THIS SESSION
import Derived.Test.YtmljikgegclolaaQ0
import Derived.Test.YtmljikgegclolaaQ1
import Derived.Test.YtmljikgegclolaaQ2
import Derived.Test.YtmljikgegclolaaQ5
import Derived.Test.YtmljikgegclolaaQ10
namespace Go.Proofs.Ytmljikgegclolaa.Q
open Go.RowKit Go.Proofs.YtmljikgegclolaaW.PrintWords Go.Proofs.YtmljikgegclolaaW.PrintLast Go.Proofs.YtmljikgegclolaaW.PrintMore
attribute [local go_sem] max2_int min2_int max_two min_two max_three min_three max_four min_four   -- for this text's walks alone
set_option linter.unusedVariables false
set_option linter.unusedSimpArgs false

/-! ### laws_heldStepS: function 33 -/
def laws_heldStepS.l0 : Nat → List (S56) → Int → Int → Option (Int)
  | 0, _, _, _ => none
  | k + 1, x0, x1, x5 => if x5 < (x0.length : Int) then (if 0 ≤ x5 then (if ((rd_T56 x0 x5).f0) = x1 then (if ((rd_T56 x0 x5).f1) = (wrap64 (x1 + 1)) then ((laws_heldIntS.f k ((rd_T56 x0 x5).f2) (wrap64 ((wrap64 (x1 + 1)) + 1))).bind fun t256 => (if t256 < 0 then (some (-1)) else (laws_heldStepS.l0 k x0 t256 (wrap64 (x5 + 1))))) else (some (-1))) else (some (-1))) else (none)) else (some x1)
def laws_heldStepS.f (k : Nat) (l0 : List (S56)) (a1 : Int) : Option (Int) := laws_heldStepS.l0 k l0 a1 0
theorem laws_heldStepS.mono_l : ∀ k, (∀ y0 y1 y2, LeO (laws_heldStepS.l0 k y0 y1 y2) (laws_heldStepS.l0 (k + 1) y0 y1 y2))
  | 0 => fun _ _ _ r h => by simp [laws_heldStepS.l0] at h
  | k + 1 => by
    have ih0 := laws_heldStepS.mono_l k
    · intro y0 y1 y2
      unfold laws_heldStepS.l0
      repeat' first
      | (with_reducible exact ih0 _ _ _)
      | (with_reducible exact laws_heldIntS.mono _ _ _)
      | (with_reducible exact LeO.refl _)
      | (with_reducible exact LeO.none _)
      | (with_reducible refine LeO.ite ?_ ?_)
      | (with_reducible refine LeO.bind ?_ (fun _ => ?_))
      | exact ih0 _ _ _
      | exact laws_heldIntS.mono _ _ _
      | exact LeO.none _
      | refine LeO.ite ?_ ?_
      | refine LeO.bind ?_ (fun _ => ?_)
theorem laws_heldStepS.mono : ∀ a0 a1 k, LeO (laws_heldStepS.f k a0 a1) (laws_heldStepS.f (k + 1) a0 a1) := by
  intro a0 a1 k
  have ih0 := laws_heldStepS.mono_l k
  unfold laws_heldStepS.f
  repeat' first
      | (with_reducible exact ih0 _ _ _)
      | (with_reducible exact laws_heldIntS.mono _ _ _)
      | (with_reducible exact LeO.refl _)
      | (with_reducible exact LeO.none _)
      | (with_reducible refine LeO.ite ?_ ?_)
      | (with_reducible refine LeO.bind ?_ (fun _ => ?_))
      | exact ih0 _ _ _
      | exact laws_heldIntS.mono _ _ _
      | exact LeO.none _
      | refine LeO.ite ?_ ?_
      | refine LeO.bind ?_ (fun _ => ?_)
set_option maxHeartbeats 8000000 in
set_option maxRecDepth 100000 in
theorem laws_heldStepS.calls (k : Nat) (A0 : Option Addr) (c0 : Nat) (l0 : List (S56)) (a1 : Int) (r : Int) (w : World) (hr0 : Kd.C k56 w A0 l0.length l0) (hc0 : l0.length ≤ c0) (h : laws_heldStepS.f k l0 a1 = some r) :
    Calls Try.prog 33 #[.slice A0 l0.length c0, .int .i64 a1] w fun e w' => e = .returned (.int .i64 r) ∧ Drawn0 w w' := by
  have HR0 := Aside0.mk hr0
  have HC0 := Aside0.mk hc0
  clear hr0 hc0
  have H : (laws_heldStepS.l0 k l0 a1 0) = some r := h
  clear h
  have H' := Aside0.mk H
  clear H
  go_enter Try.func33, Try.ntmps33
  go_wp2
  go_loopg [1, 5] k (fun kq v1 v5 w' => ∃ (x1_1 : Int) (x5_1 : Int), v1 = .int .i64 x1_1 ∧ v5 = .int .i64 x5_1 ∧ Aside0 (laws_heldStepS.l0 kq l0 x1_1 x5_1 = some r) ∧ Aside0 (kq ≤ k) ∧ Drawn0 w w')
  case atStart => exact ⟨(a1), (0), (by first | rfl | (simp; done) | (simp [*]; done)), (by first | rfl | (simp; done) | (simp [*]; done)), H', ⟨Nat.le_refl _⟩, by repeat (first | exact Drawn0.refl _ | apply Drawn0.step)⟩
  case round =>
    clear H'
    try clear p2
    obtain ⟨x1_1, x5_1, rfl, rfl, HA, HK1, ⟨m1, rfl⟩⟩ := hrel
    cases gk with
    | zero => exact absurd HA.out (by simp [laws_heldStepS.l0])
    | succ k1 =>
      have H := HA.out
      clear HA
      simp only [laws_heldStepS.l0] at H
      by_cases c3 : x5_1 < (l0.length : Int)
      · rw [if_pos c3] at H
        have c3b0 : decide (x5_1 < (l0.length : Int)) = true := decide_eq_true c3
        clear c3
        by_cases c4 : 0 ≤ x5_1
        · rw [if_pos c4] at H
          have c4b0 : decide (0 ≤ x5_1) = true := decide_eq_true c4
          clear c4
          by_cases c5 : ((rd_T56 l0 x5_1).f0) = x1_1
          · rw [if_pos c5] at H
            have c5b0 : (((rd_T56 l0 x5_1).f0) == x1_1) = true := beq_iff_eq.mpr c5
            have c5b1 : (((rd_T56 l0 x5_1).f0) != x1_1) = false := bne_eq_false_iff_eq.mpr c5
            clear c5
            by_cases c6 : ((rd_T56 l0 x5_1).f1) = (wrap64 (x1_1 + 1))
            · rw [if_pos c6] at H
              have c6b0 : (((rd_T56 l0 x5_1).f1) == (wrap64 (x1_1 + 1))) = true := beq_iff_eq.mpr c6
              have c6b1 : (((rd_T56 l0 x5_1).f1) != (wrap64 (x1_1 + 1))) = false := bne_eq_false_iff_eq.mpr c6
              clear c6
              replace H := Option.bind_eq_some_iff.mp H
              obtain ⟨t256, A70, H⟩ := H
              replace H : (if t256 < 0 then (some (-1)) else (laws_heldStepS.l0 k1 l0 t256 (wrap64 (x5_1 + 1)))) = some r := H
              have A7 := Aside0.mk A70
              clear A70
              by_cases c8 : t256 < 0
              · rw [if_pos c8] at H
                have c8b0 : decide (t256 < 0) = true := decide_eq_true c8
                clear c8
                obtain rfl := Option.some.inj H
                have p253 : 0 ≤ (x5_1 : Int) := of_decide_eq_true (by first | (with_reducible assumption) | assumption)
                have q253 : x5_1 < (l0.length : Int) := of_decide_eq_true (by first | (with_reducible assumption) | assumption)
                obtain ⟨ad253, A253_2, c253_2, e253, hx253_0, hx253_1, hx253_2, hl253_2, hi253_2⟩ := at_T56 HR0.out x5_1 p253 q253
                cases e253
                have HR253_2 := Aside0.mk hi253_2
                have HC253_2 := Aside0.mk hl253_2
                clear hi253_2 hl253_2
                replace p253 := eq_true p253
                replace q253 := eq_true q253
                have p254 : 0 ≤ (x5_1 : Int) := of_decide_eq_true (by first | (with_reducible assumption) | assumption)
                have q254 : x5_1 < (l0.length : Int) := of_decide_eq_true (by first | (with_reducible assumption) | assumption)
                obtain ⟨ad254, A254_2, c254_2, e254, hx254_0, hx254_1, hx254_2, hl254_2, hi254_2⟩ := at_T56 HR0.out x5_1 p254 q254
                obtain rfl : ad253 = ad254 := (by injection e254)
                have HR254_2 := Aside0.mk hi254_2
                have HC254_2 := Aside0.mk hl254_2
                clear hi254_2 hl254_2
                replace p254 := eq_true p254
                replace q254 := eq_true q254
                have ea_ := Option.some.inj (hx253_2.symm.trans hx254_2)
                injection ea_ with ea_ en_ ec_
                subst ea_
                subst ec_
                clear en_
                have p255 : 0 ≤ (x5_1 : Int) := of_decide_eq_true (by first | (with_reducible assumption) | assumption)
                have q255 : x5_1 < (l0.length : Int) := of_decide_eq_true (by first | (with_reducible assumption) | assumption)
                obtain ⟨ad255, A255_2, c255_2, e255, hx255_0, hx255_1, hx255_2, hl255_2, hi255_2⟩ := at_T56 HR0.out x5_1 p255 q255
                obtain rfl : ad253 = ad255 := (by injection e255)
                have HR255_2 := Aside0.mk hi255_2
                have HC255_2 := Aside0.mk hl255_2
                clear hi255_2 hl255_2
                replace p255 := eq_true p255
                replace q255 := eq_true q255
                have ea_ := Option.some.inj (hx253_2.symm.trans hx255_2)
                injection ea_ with ea_ en_ ec_
                subst ea_
                subst ec_
                clear en_
                go_wp2_with (first | ((with_reducible refine gate_callee (f := 24) rfl ?_); refine goesL_ (some 36) rfl rfl Try.func24 (by kernel_rfl) rfl #[.slice A253_2 ((rd_T56 l0 x5_1).f2).length c253_2, .int .i64 (wrap64 ((wrap64 (x1_1 + 1)) + 1))] rfl (by (try simp only [List.map_toArray, List.map_cons, List.map_nil]); first | done | rfl | (simp only [List.length_drop, List.length_take]; rfl)) ?_; (with_reducible refine (laws_heldIntS.calls k1 _ _ ((rd_T56 l0 x5_1).f2) (wrap64 ((wrap64 (x1_1 + 1)) + 1)) t256 _ ?side1 ?side2 A7.out).mono ?_); (case side1 => repeat (first | exact HR255_2.out | (with_reducible refine Kd.C_alloc ?_ _) | (with_reducible refine Kd.C_drewN ?_ _) | (with_reducible refine Kd.C_drew ?_))); (case side2 => exact HC255_2.out); rintro e w' ⟨rfl, ⟨nd, rfl⟩⟩; refine ⟨_, rfl, ?_⟩))
                go_ret
                exact ⟨by first | rfl | (simp; done) | (simp [*]; done), by repeat (first | exact Drawn0.refl _ | apply Drawn0.step)⟩
              · rw [if_neg c8] at H
                have c8b0 : decide (t256 < 0) = false := decide_eq_false c8
                clear c8
                have H' := Aside0.mk H
                clear H
                have p253 : 0 ≤ (x5_1 : Int) := of_decide_eq_true (by first | (with_reducible assumption) | assumption)
                have q253 : x5_1 < (l0.length : Int) := of_decide_eq_true (by first | (with_reducible assumption) | assumption)
                obtain ⟨ad253, A253_2, c253_2, e253, hx253_0, hx253_1, hx253_2, hl253_2, hi253_2⟩ := at_T56 HR0.out x5_1 p253 q253
                cases e253
                have HR253_2 := Aside0.mk hi253_2
                have HC253_2 := Aside0.mk hl253_2
                clear hi253_2 hl253_2
                replace p253 := eq_true p253
                replace q253 := eq_true q253
                have p254 : 0 ≤ (x5_1 : Int) := of_decide_eq_true (by first | (with_reducible assumption) | assumption)
                have q254 : x5_1 < (l0.length : Int) := of_decide_eq_true (by first | (with_reducible assumption) | assumption)
                obtain ⟨ad254, A254_2, c254_2, e254, hx254_0, hx254_1, hx254_2, hl254_2, hi254_2⟩ := at_T56 HR0.out x5_1 p254 q254
                obtain rfl : ad253 = ad254 := (by injection e254)
                have HR254_2 := Aside0.mk hi254_2
                have HC254_2 := Aside0.mk hl254_2
                clear hi254_2 hl254_2
                replace p254 := eq_true p254
                replace q254 := eq_true q254
                have ea_ := Option.some.inj (hx253_2.symm.trans hx254_2)
                injection ea_ with ea_ en_ ec_
                subst ea_
                subst ec_
                clear en_
                have p255 : 0 ≤ (x5_1 : Int) := of_decide_eq_true (by first | (with_reducible assumption) | assumption)
                have q255 : x5_1 < (l0.length : Int) := of_decide_eq_true (by first | (with_reducible assumption) | assumption)
                obtain ⟨ad255, A255_2, c255_2, e255, hx255_0, hx255_1, hx255_2, hl255_2, hi255_2⟩ := at_T56 HR0.out x5_1 p255 q255
                obtain rfl : ad253 = ad255 := (by injection e255)
                have HR255_2 := Aside0.mk hi255_2
                have HC255_2 := Aside0.mk hl255_2
                clear hi255_2 hl255_2
                replace p255 := eq_true p255
                replace q255 := eq_true q255
                have ea_ := Option.some.inj (hx253_2.symm.trans hx255_2)
                injection ea_ with ea_ en_ ec_
                subst ea_
                subst ec_
                clear en_
                go_wp2_with (first | ((with_reducible refine gate_callee (f := 24) rfl ?_); refine goesL_ (some 36) rfl rfl Try.func24 (by kernel_rfl) rfl #[.slice A253_2 ((rd_T56 l0 x5_1).f2).length c253_2, .int .i64 (wrap64 ((wrap64 (x1_1 + 1)) + 1))] rfl (by (try simp only [List.map_toArray, List.map_cons, List.map_nil]); first | done | rfl | (simp only [List.length_drop, List.length_take]; rfl)) ?_; (with_reducible refine (laws_heldIntS.calls k1 _ _ ((rd_T56 l0 x5_1).f2) (wrap64 ((wrap64 (x1_1 + 1)) + 1)) t256 _ ?side1 ?side2 A7.out).mono ?_); (case side1 => repeat (first | exact HR255_2.out | (with_reducible refine Kd.C_alloc ?_ _) | (with_reducible refine Kd.C_drewN ?_ _) | (with_reducible refine Kd.C_drew ?_))); (case side2 => exact HC255_2.out); rintro e w' ⟨rfl, ⟨nd, rfl⟩⟩; refine ⟨_, rfl, ?_⟩))
                go_roundg k1
                case measure => have := HK1.out; omega
                case rel => exact ⟨(t256), (wrap64 (x5_1 + 1)), (by first | rfl | (simp; done) | (simp [*]; done)), (by first | rfl | (simp; done) | (simp [*]; done)), H', ⟨by have := HK1.out; omega⟩, by repeat (first | exact Drawn0.refl _ | apply Drawn0.step)⟩
            · rw [if_neg c6] at H
              have c6b0 : (((rd_T56 l0 x5_1).f1) == (wrap64 (x1_1 + 1))) = false := beq_eq_false_iff_ne.mpr c6
              have c6b1 : (((rd_T56 l0 x5_1).f1) != (wrap64 (x1_1 + 1))) = true := bne_iff_ne.mpr c6
              obtain rfl := Option.some.inj H
              have p253 : 0 ≤ (x5_1 : Int) := of_decide_eq_true (by first | (with_reducible assumption) | assumption)
              have q253 : x5_1 < (l0.length : Int) := of_decide_eq_true (by first | (with_reducible assumption) | assumption)
              obtain ⟨ad253, A253_2, c253_2, e253, hx253_0, hx253_1, hx253_2, hl253_2, hi253_2⟩ := at_T56 HR0.out x5_1 p253 q253
              cases e253
              have HR253_2 := Aside0.mk hi253_2
              have HC253_2 := Aside0.mk hl253_2
              clear hi253_2 hl253_2
              replace p253 := eq_true p253
              replace q253 := eq_true q253
              have p254 : 0 ≤ (x5_1 : Int) := of_decide_eq_true (by first | (with_reducible assumption) | assumption)
              have q254 : x5_1 < (l0.length : Int) := of_decide_eq_true (by first | (with_reducible assumption) | assumption)
              obtain ⟨ad254, A254_2, c254_2, e254, hx254_0, hx254_1, hx254_2, hl254_2, hi254_2⟩ := at_T56 HR0.out x5_1 p254 q254
              obtain rfl : ad253 = ad254 := (by injection e254)
              have HR254_2 := Aside0.mk hi254_2
              have HC254_2 := Aside0.mk hl254_2
              clear hi254_2 hl254_2
              replace p254 := eq_true p254
              replace q254 := eq_true q254
              have ea_ := Option.some.inj (hx253_2.symm.trans hx254_2)
              injection ea_ with ea_ en_ ec_
              subst ea_
              subst ec_
              clear en_
              go_wp2
              go_ret
              exact ⟨by first | rfl | (simp; done) | (simp [*]; done), by repeat (first | exact Drawn0.refl _ | apply Drawn0.step)⟩
          · rw [if_neg c5] at H
            have c5b0 : (((rd_T56 l0 x5_1).f0) == x1_1) = false := beq_eq_false_iff_ne.mpr c5
            have c5b1 : (((rd_T56 l0 x5_1).f0) != x1_1) = true := bne_iff_ne.mpr c5
            obtain rfl := Option.some.inj H
            have p253 : 0 ≤ (x5_1 : Int) := of_decide_eq_true (by first | (with_reducible assumption) | assumption)
            have q253 : x5_1 < (l0.length : Int) := of_decide_eq_true (by first | (with_reducible assumption) | assumption)
            obtain ⟨ad253, A253_2, c253_2, e253, hx253_0, hx253_1, hx253_2, hl253_2, hi253_2⟩ := at_T56 HR0.out x5_1 p253 q253
            cases e253
            have HR253_2 := Aside0.mk hi253_2
            have HC253_2 := Aside0.mk hl253_2
            clear hi253_2 hl253_2
            replace p253 := eq_true p253
            replace q253 := eq_true q253
            go_wp2
            go_ret
            exact ⟨by first | rfl | (simp; done) | (simp [*]; done), by repeat (first | exact Drawn0.refl _ | apply Drawn0.step)⟩
        · rw [if_neg c4] at H
          exact absurd H (by simp)
      · rw [if_neg c3] at H
        have c3b0 : decide (x5_1 < (l0.length : Int)) = false := decide_eq_false c3
        clear c3
        obtain rfl := Option.some.inj H
        go_wp2
        go_ret
        exact ⟨by first | rfl | (simp; done) | (simp [*]; done), by repeat (first | exact Drawn0.refl _ | apply Drawn0.step)⟩

-- WRITTEN BY lawgen.py
/-! ### laws_FnExactReadSteps: function 8 (by lawgen.py: rows in rows are marked) -/
def laws_FnExactReadSteps.f (k : Nat) (a0 : ByteArray) : Option Bool := if (a0.size : Int) > 1048576 then (some true) else ((spec_ReadSteps.f k a0).bind fun bt2 => ((impl_ReadSteps.f k a0).bind fun bt13 => ((laws_eqStepS.f k bt13.1 bt2.1).bind fun t24 => (if t24 = true then (if bt13.2.1 = bt2.2.1 then (if bt13.2.2 = bt2.2.2 then ((laws_markStepS.f k bt13.1 1).bind fun bt29 => ((laws_heldStepS.f k bt29.2 1).bind fun t36 => (if t36 < 0 then (none) else (if t36 = bt29.1 then ((impl_ReadSteps.f k a0).bind fun bt41 => ((laws_eqStepS.f k bt41.1 bt2.1).bind fun t52 => (if t52 = true then (if bt41.2.1 = bt2.2.1 then (if bt41.2.2 = bt2.2.2 then ((laws_heldStepS.f k bt29.2 1).bind fun t57 => (if t57 < 0 then (none) else (if t57 = bt29.1 then (some true) else none))) else none) else none) else none))) else none)))) else none) else none) else none))))
theorem laws_FnExactReadSteps.mono : ∀ a0 k, LeO (laws_FnExactReadSteps.f k a0) (laws_FnExactReadSteps.f (k + 1) a0) := by
  intro a0 k
  unfold laws_FnExactReadSteps.f
  repeat' first
      | (with_reducible exact spec_ReadSteps.mono _ _)
      | (with_reducible exact impl_ReadSteps.mono _ _)
      | (with_reducible exact laws_eqStepS.mono _ _ _)
      | (with_reducible exact laws_markStepS.mono _ _ _)
      | (with_reducible exact laws_heldStepS.mono _ _ _)
      | (with_reducible exact LeO.refl _)
      | (with_reducible exact LeO.none _)
      | (with_reducible refine LeO.ite ?_ ?_)
      | (with_reducible refine LeO.bind ?_ (fun _ => ?_))
set_option maxHeartbeats 8000000 in
set_option maxRecDepth 100000 in
theorem laws_FnExactReadSteps.calls (k : Nat) (a0 : ByteArray) (r : Bool) (w : World)  (h : laws_FnExactReadSteps.f k a0 = some r) :
    Calls Try.prog 8 #[.string a0] w fun e w' => e = .returned (.bool r) ∧ Below w.heap.size w w' := by
  have tok6 : Aside0 True := ⟨trivial⟩
  have tok17 : Aside0 True := ⟨trivial⟩
  have tok26 : Aside0 True := ⟨trivial⟩
  have tok32 : Aside0 True := ⟨trivial⟩
  have tok38 : Aside0 True := ⟨trivial⟩
  have tok45 : Aside0 True := ⟨trivial⟩
  have tok54 : Aside0 True := ⟨trivial⟩
  have tok59 : Aside0 True := ⟨trivial⟩
  have HB := Aside0.mk (Below.refl w.heap.size w)
  unfold laws_FnExactReadSteps.f at h
  have bq_ : ∀ b_ : Bool, (b_ != b_) = false := by decide
  by_cases c1 : (a0.size : Int) > 1048576
  · rw [if_pos c1] at h
    obtain rfl := Option.some.inj h
    have c1b : decide ((a0.size : Int) > 1048576) = true := decide_eq_true c1
    clear c1
    go_enter Try.func8, Try.ntmps8
    go_wp2
    go_ret
    exact ⟨rfl, HB.out⟩
  rw [if_neg c1] at h
  have c1b : decide ((a0.size : Int) > 1048576) = false := decide_eq_false c1
  clear c1
  replace h := Option.bind_eq_some_iff.mp h
  obtain ⟨⟨t2, t3, t4⟩, A10, h⟩ := h
  (try dsimp only at h)
  have A1 := Aside0.mk A10
  clear A10
  replace h := Option.bind_eq_some_iff.mp h
  obtain ⟨⟨t13, t14, t15⟩, A120, h⟩ := h
  (try dsimp only at h)
  have A12 := Aside0.mk A120
  clear A120
  replace h := Option.bind_eq_some_iff.mp h
  obtain ⟨t24, A230, h⟩ := h
  (try dsimp only at h)
  have A23 := Aside0.mk A230
  clear A230
  cases t24 with
  | false => exact absurd h (by simp)
  | true =>
    rw [if_pos rfl] at h
    by_cases c2 : t14 = t3
    rotate_left
    · rw [if_neg c2] at h; exact absurd h (by simp)
    rw [if_pos c2] at h
    have c2b : (t14 != t3) = false := by rw [c2]; simp
    have c2d : (t14 == t3) = true := by rw [c2]; simp
    have C2 := Aside0.mk c2
    clear c2
    by_cases c3 : t15 = t4
    rotate_left
    · rw [if_neg c3] at h; exact absurd h (by simp)
    rw [if_pos c3] at h
    have c3b : (t15 != t4) = false := by rw [c3]; simp
    have c3d : (t15 == t4) = true := by rw [c3]; simp
    have C3 := Aside0.mk c3
    clear c3
    replace h := Option.bind_eq_some_iff.mp h
    obtain ⟨⟨t29, t30⟩, A280, h⟩ := h
    (try dsimp only at h)
    have A28 := Aside0.mk A280
    clear A280
    replace h := Option.bind_eq_some_iff.mp h
    obtain ⟨t36, A350, h⟩ := h
    (try dsimp only at h)
    have A35 := Aside0.mk A350
    clear A350
    by_cases c4 : t36 < 0
    · rw [if_pos c4] at h; exact absurd h (by simp)
    rw [if_neg c4] at h
    have c4b : decide (t36 < 0) = false := decide_eq_false c4
    clear c4
    by_cases c5 : t36 = t29
    rotate_left
    · rw [if_neg c5] at h; exact absurd h (by simp)
    rw [if_pos c5] at h
    have c5b : (t36 != t29) = false := by rw [c5]; simp
    have c5d : (t36 == t29) = true := by rw [c5]; simp
    have C5 := Aside0.mk c5
    clear c5
    replace h := Option.bind_eq_some_iff.mp h
    obtain ⟨⟨t41, t42, t43⟩, A400, h⟩ := h
    (try dsimp only at h)
    have A40 := Aside0.mk A400
    clear A400
    replace h := Option.bind_eq_some_iff.mp h
    obtain ⟨t52, A510, h⟩ := h
    (try dsimp only at h)
    have A51 := Aside0.mk A510
    clear A510
    cases t52 with
    | false => exact absurd h (by simp)
    | true =>
      rw [if_pos rfl] at h
      by_cases c6 : t42 = t3
      rotate_left
      · rw [if_neg c6] at h; exact absurd h (by simp)
      rw [if_pos c6] at h
      have c6b : (t42 != t3) = false := by rw [c6]; simp
      have c6d : (t42 == t3) = true := by rw [c6]; simp
      have C6 := Aside0.mk c6
      clear c6
      by_cases c7 : t43 = t4
      rotate_left
      · rw [if_neg c7] at h; exact absurd h (by simp)
      rw [if_pos c7] at h
      have c7b : (t43 != t4) = false := by rw [c7]; simp
      have c7d : (t43 == t4) = true := by rw [c7]; simp
      have C7 := Aside0.mk c7
      clear c7
      replace h := Option.bind_eq_some_iff.mp h
      obtain ⟨t57, A560, h⟩ := h
      (try dsimp only at h)
      have A56 := Aside0.mk A560
      clear A560
      by_cases c8 : t57 < 0
      · rw [if_pos c8] at h; exact absurd h (by simp)
      rw [if_neg c8] at h
      have c8b : decide (t57 < 0) = false := decide_eq_false c8
      clear c8
      by_cases c9 : t57 = t29
      rotate_left
      · rw [if_neg c9] at h; exact absurd h (by simp)
      rw [if_pos c9] at h
      have c9b : (t57 != t29) = false := by rw [c9]; simp
      have c9d : (t57 == t29) = true := by rw [c9]; simp
      have C9 := Aside0.mk c9
      clear c9
      obtain rfl := Option.some.inj h
      go_enter Try.func8, Try.ntmps8
      go_wp2_with (first | (go_at_call 31; have u_ := tok6; clear u_; ((with_reducible refine (spec_ReadSteps.calls k a0 t2 t3 t4 _  A1.out).mono ?_)); rintro e w5 ⟨v7, rfl, ho0, hb⟩; have nF8_ := Aside0.mk (OwnS.make HB.out hb ho0); have nb_ := Aside0.mk (below_step HB.out hb); clear HB; have HB := nb_; clear nb_; have Z9 := Aside0.mk hb.size; have F8 := nF8_; clear nF8_; obtain ⟨Ao11, co11, eo11⟩ := Kd.S_slice F8.out; subst eo11; clear hb tok6 ho0) | (go_at_call 32; have u_ := tok17; clear u_; ((with_reducible refine (impl_ReadSteps.calls k a0 t13 t14 t15 _  A12.out).mono ?_)); rintro e w16 ⟨v18, rfl, ho0, hb⟩; have nF19_ := Aside0.mk (OwnS.make HB.out hb ho0); have n0_ := Aside0.mk (OwnS.below F8.out hb); have nb_ := Aside0.mk (below_step HB.out hb); clear F8 HB; have F8 := n0_; have HB := nb_; clear n0_ nb_; have Z20 := Aside0.mk hb.size; have F19 := nF19_; clear nF19_; obtain ⟨Ao22, co22, eo22⟩ := Kd.S_slice F19.out; subst eo22; clear hb tok17 ho0) | (go_at_call 18; have u_ := tok26; clear u_; ((with_reducible refine (laws_eqStepS.calls k _ _ t13 _ _ t2 true _ (Kd.S_reads' F19.out).2.2 (S_cap F19.out) (Kd.S_reads' F8.out).2.2 (S_cap F8.out) A23.out).mono ?_)); rintro e w25 ⟨rfl, hb⟩; have n0_ := Aside0.mk (OwnS.below F8.out hb); have n1_ := Aside0.mk (OwnS.below F19.out hb); have nb_ := Aside0.mk (below_step HB.out hb); clear F8 F19 HB; have F8 := n0_; have F19 := n1_; have HB := nb_; clear n0_ n1_ nb_; have Z27 := Aside0.mk hb.size; clear hb tok26) | (go_at_call 22; have u_ := tok32; clear u_; ((with_reducible refine (laws_markStepS.calls k (fun k_ => w5.heap.size ≤ k_ ∧ k_ < w16.heap.size) (.slice Ao22 t13.length co22) t13 1 t29 t30 w _ HB.out F19.out A28.out).mono ?_)); rintro e w31 ⟨rfl, hy, hb, hkp⟩; have Z33 := Aside0.mk hkp.1; have ny_ : Aside0 (OwnS k56 56 w w31 w5.heap.size w16.heap.size (.slice Ao22 t13.length co22) t30) := ⟨hy⟩; have n0_ := Aside0.mk (OwnS.kept F8.out hkp (by have := Z9.out; have := Z20.out; have := Z27.out; omega)); have nb_ := Aside0.mk (hb); clear F8 HB; have F8 := n0_; have HB := nb_; clear n0_ nb_; have F34 := ny_; clear ny_ hy hb hkp F19; clear tok32) | (go_at_call 33; have u_ := tok38; clear u_; refine calls_of_args (args' := #[.slice Ao22 t30.length co22, .int .i64 1]) (by first | (rw [show t30.length = t13.length from (Kd.S_reads' F34.out).1.symm]; done) | (rw [show t30.length = t13.length from (Kd.S_reads' F34.out).1.symm]; rfl)) ?_; ((with_reducible refine (laws_heldStepS.calls k _ _ t30 1 t36 _ (Kd.S_reads' F34.out).2.2 (S_cap F34.out) A35.out).mono ?_)); rintro e w37 ⟨rfl, hd⟩; have hb := hd.below; clear hd; have n0_ := Aside0.mk (OwnS.below F8.out hb); have n1_ := Aside0.mk (OwnS.below F34.out hb); have nb_ := Aside0.mk (below_step HB.out hb); clear F8 F34 HB; have F8 := n0_; have F34 := n1_; have HB := nb_; clear n0_ n1_ nb_; have Z39 := Aside0.mk hb.size; clear hb tok38) | (go_at_call 32; have u_ := tok45; clear u_; ((with_reducible refine (impl_ReadSteps.calls k a0 t41 t42 t43 _  A40.out).mono ?_)); rintro e w44 ⟨v46, rfl, ho0, hb⟩; have nF47_ := Aside0.mk (OwnS.make HB.out hb ho0); have n0_ := Aside0.mk (OwnS.below F8.out hb); have n1_ := Aside0.mk (OwnS.below F34.out hb); have nb_ := Aside0.mk (below_step HB.out hb); clear F8 F34 HB; have F8 := n0_; have F34 := n1_; have HB := nb_; clear n0_ n1_ nb_; have Z48 := Aside0.mk hb.size; have F47 := nF47_; clear nF47_; obtain ⟨Ao50, co50, eo50⟩ := Kd.S_slice F47.out; subst eo50; clear hb tok45 ho0) | (go_at_call 18; have u_ := tok54; clear u_; ((with_reducible refine (laws_eqStepS.calls k _ _ t41 _ _ t2 true _ (Kd.S_reads' F47.out).2.2 (S_cap F47.out) (Kd.S_reads' F8.out).2.2 (S_cap F8.out) A51.out).mono ?_)); rintro e w53 ⟨rfl, hb⟩; have n0_ := Aside0.mk (OwnS.below F8.out hb); have n1_ := Aside0.mk (OwnS.below F34.out hb); have n2_ := Aside0.mk (OwnS.below F47.out hb); have nb_ := Aside0.mk (below_step HB.out hb); clear F8 F34 F47 HB; have F8 := n0_; have F34 := n1_; have F47 := n2_; have HB := nb_; clear n0_ n1_ n2_ nb_; have Z55 := Aside0.mk hb.size; clear hb tok54) | (go_at_call 33; have u_ := tok59; clear u_; refine calls_of_args (args' := #[.slice Ao22 t30.length co22, .int .i64 1]) (by first | (rw [show t30.length = t13.length from (Kd.S_reads' F34.out).1.symm]; done) | (rw [show t30.length = t13.length from (Kd.S_reads' F34.out).1.symm]; rfl)) ?_; ((with_reducible refine (laws_heldStepS.calls k _ _ t30 1 t57 _ (Kd.S_reads' F34.out).2.2 (S_cap F34.out) A56.out).mono ?_)); rintro e w58 ⟨rfl, hd⟩; have hb := hd.below; clear hd; have n0_ := Aside0.mk (OwnS.below F8.out hb); have n1_ := Aside0.mk (OwnS.below F34.out hb); have n2_ := Aside0.mk (OwnS.below F47.out hb); have nb_ := Aside0.mk (below_step HB.out hb); clear F8 F34 F47 HB; have F8 := n0_; have F34 := n1_; have F47 := n2_; have HB := nb_; clear n0_ n1_ n2_ nb_; have Z60 := Aside0.mk hb.size; clear hb tok59))
      go_ret
      exact ⟨rfl, HB.out⟩

/-- THE ONE PURE STATEMENT of laws_FnExactReadSteps: yours. -/
def laws_FnExactReadSteps.Pure : Prop := ∀ (a0 : ByteArray), a0.size ≤ maxLen → ∃ k, laws_FnExactReadSteps.f k a0 = some true

end Go.Proofs.Ytmljikgegclolaa.Q
