-- WRITTEN BY A PROGRAM OF THIS SESSION
import Derived.Test.YtmljikgegclolaaQ0
import Derived.Test.YtmljikgegclolaaQ3
namespace Go.Proofs.Ytmljikgegclolaa.Q
open Go.RowKit Go.Proofs.YtmljikgegclolaaW.PrintWords Go.Proofs.YtmljikgegclolaaW.PrintLast Go.Proofs.YtmljikgegclolaaW.PrintMore
attribute [local go_sem] max2_int min2_int max_two min_two max_three min_three max_four min_four   -- for this text's walks alone
set_option linter.unusedVariables false
set_option linter.unusedSimpArgs false

/-! ### spec_l4Needs: function 90 -/
def spec_l4Needs.j0 : Nat → Int → Bool → Option (Int × Int)
 | 0,_,_ => none
 | k + 1,x0,x4 => if x4 = true then (some (0,1)) else ((spec_l1In.f x0 4 9).bind fun t185 => (if t185 = true then (some (2,1)) else (if x0 = 10 then (some (1,1)) else (if x0 = 11 then (some (2,0)) else (if x0 = 3 then (some (1,0)) else (if x0 = 12 then (some (1,0)) else (if x0 = 13 then (some (1,0)) else (if x0 = 17 then (some (1,0)) else (if x0 = 21 then (some (1,0)) else (if x0 = 22 then (some (1,0)) else (some (0,0))))))))))))
def spec_l4Needs.f (k : Nat) (a0 : Int) : Option (Int × Int):=if a0 = 1 then (spec_l4Needs.j0 k a0 true) else (spec_l4Needs.j0 k a0 (a0 == 2))
theorem spec_l4Needs.mono_l : ∀ k,(∀ y0 y1,LeO (spec_l4Needs.j0 k y0 y1) (spec_l4Needs.j0 (k + 1) y0 y1))
 | 0 => fun _ _ r h => by simp [spec_l4Needs.j0] at h
 | k + 1 => by
  have ih0:=spec_l4Needs.mono_l k
  ·intro y0 y1
   unfold spec_l4Needs.j0
   repeat' first
   | (with_reducible exact ih0 _ _)
   | (with_reducible exact LeO.refl _)
   | (with_reducible exact LeO.none _)
   | (with_reducible refine LeO.ite ?_ ?_)
   | (with_reducible refine LeO.bind ?_ (fun _ => ?_))
   | exact ih0 _ _
   | exact LeO.none _
   | refine LeO.ite ?_ ?_
   | refine LeO.bind ?_ (fun _ => ?_)
theorem spec_l4Needs.mono : ∀ a0 k,LeO (spec_l4Needs.f k a0) (spec_l4Needs.f (k + 1) a0):=by
 intro a0 k
 have ih0:=spec_l4Needs.mono_l k
 unfold spec_l4Needs.f
 repeat' first
   | (with_reducible exact ih0 _ _)
   | (with_reducible exact LeO.refl _)
   | (with_reducible exact LeO.none _)
   | (with_reducible refine LeO.ite ?_ ?_)
   | (with_reducible refine LeO.bind ?_ (fun _ => ?_))
   | exact ih0 _ _
   | exact LeO.none _
   | refine LeO.ite ?_ ?_
   | refine LeO.bind ?_ (fun _ => ?_)
set_option maxHeartbeats 8000000 in
set_option maxRecDepth 100000 in
theorem spec_l4Needs.calls (k : Nat) (a0 : Int) (r1 : Int) (r2 : Int) (w : World) (h : spec_l4Needs.f k a0 = some (r1,r2)) :
  Calls Try.prog 90 #[.int .i64 a0] w fun e w' => e = .returned (.tuple #[.int .i64 r1,.int .i64 r2]) ∧ Drawn0 w w':=by
 have H : (if a0 = 1 then (spec_l4Needs.j0 k a0 true) else (spec_l4Needs.j0 k a0 (a0 == 2))) = some (r1,r2):=h
 clear h
 have HC2:=Aside0.mk H
 clear H
 go_enter Try.func90,Try.ntmps90
 go_upto_region 1 with (fail)
 go_cut [4] (fun v4 wc => ∃ (kq : Nat) (x4_1 : Bool),v4 = .bool x4_1 ∧ Aside0 (spec_l4Needs.j0 kq a0 x4_1 = some (r1,r2)) ∧ Aside0 (kq ≤ k) ∧ Drawn0 w wc)
 case first =>
  have H:=HC2.out
  clear HC2
  by_cases c3 : a0 = 1
  ·rw [if_pos c3] at H
   have c3b0 : (a0 == 1) = true:=beq_iff_eq.mpr c3
   have c3b1 : (a0 != 1) = false:=bne_eq_false_iff_eq.mpr c3
   clear c3
   (first | rw [c3b0] | (simp only [i64_w,i32_w];rw [c3b0]) | skip)
   have H':=Aside0.mk H
   clear H
   go_wp2
   go_meet
   case rel => exact ⟨_,(true),(by first | rfl | (simp;done) | (simp [*];done)),H',⟨by first | omega | exact Nat.le_refl _⟩,by repeat (first | exact Drawn0.refl _ | apply Drawn0.step)⟩
  ·rw [if_neg c3] at H
   have c3b0 : (a0 == 1) = false:=beq_eq_false_iff_ne.mpr c3
   have c3b1 : (a0 != 1) = true:=bne_iff_ne.mpr c3
   (first | rw [c3b0] | (simp only [i64_w,i32_w];rw [c3b0]) | skip)
   have H':=Aside0.mk H
   clear H
   go_wp2
   go_meet
   case rel => exact ⟨_,((a0 == 2)),(by first | rfl | (simp;done) | (simp [*];done)),H',⟨by first | omega | exact Nat.le_refl _⟩,by repeat (first | exact Drawn0.refl _ | apply Drawn0.step)⟩
 case rest =>
  clear HC2
  try clear p2
  try clear c3
  try clear c3b0
  try clear c3b1
  obtain ⟨kq,x4_1,rfl,HA,HJ1,⟨mc1,rfl⟩⟩:=hcut
  cases kq with
  | zero => exact absurd HA.out (by simp [spec_l4Needs.j0])
  | succ kj1 =>
   have H:=HA.out
   clear HA
   simp only [spec_l4Needs.j0] at H
   by_cases c4 : x4_1 = true
   ·subst c4
    have H1 : (some (0,1)) = some (r1,r2):=by rw [if_pos rfl] at H;exact H
    clear H
    have H:=H1
    clear H1
    simp only [Option.some.injEq,Prod.mk.injEq] at H
    obtain ⟨rfl,rfl⟩:=H
    go_wp2
    go_ret2
    exact ⟨by first | rfl | (simp;done) | (simp [*];done),by repeat (first | exact Drawn0.refl _ | apply Drawn0.step)⟩
   ·replace c4:=Bool.eq_false_iff.mpr c4
    subst c4
    have H1 : ((spec_l1In.f a0 4 9).bind fun t185 => (if t185 = true then (some (2,1)) else (if a0 = 10 then (some (1,1)) else (if a0 = 11 then (some (2,0)) else (if a0 = 3 then (some (1,0)) else (if a0 = 12 then (some (1,0)) else (if a0 = 13 then (some (1,0)) else (if a0 = 17 then (some (1,0)) else (if a0 = 21 then (some (1,0)) else (if a0 = 22 then (some (1,0)) else (some (0,0)))))))))))) = some (r1,r2):=by rw [if_neg (show ¬ (false = true) by decide)] at H;exact H
    clear H
    have H:=H1
    clear H1
    replace H:=Option.bind_eq_some_iff.mp H
    obtain ⟨t185,A50,H⟩:=H
    replace H : (if t185 = true then (some (2,1)) else (if a0 = 10 then (some (1,1)) else (if a0 = 11 then (some (2,0)) else (if a0 = 3 then (some (1,0)) else (if a0 = 12 then (some (1,0)) else (if a0 = 13 then (some (1,0)) else (if a0 = 17 then (some (1,0)) else (if a0 = 21 then (some (1,0)) else (if a0 = 22 then (some (1,0)) else (some (0,0))))))))))) = some (r1,r2):=H
    have A5:=Aside0.mk A50
    clear A50
    by_cases c6 : t185 = true
    ·subst c6
     have H1 : (some (2,1)) = some (r1,r2):=by rw [if_pos rfl] at H;exact H
     clear H
     have H:=H1
     clear H1
     simp only [Option.some.injEq,Prod.mk.injEq] at H
     obtain ⟨rfl,rfl⟩:=H
     go_wp2_with (first | ((with_reducible refine gate_callee (f:=59) rfl ?_);refine goesL_ (some 13) rfl rfl Try.func59 (by kernel_rfl) rfl #[.int .i64 a0,.int .i64 4,.int .i64 9] rfl (by (try simp only [List.map_toArray,List.map_cons,List.map_nil]);first | done | rfl | (simp only [List.length_drop,List.length_take];rfl)) ?_;(with_reducible refine (spec_l1In.calls a0 4 9 true _ A5.out).mono ?_);rintro e w' ⟨rfl,⟨nd,rfl⟩⟩;refine ⟨_,rfl,?_⟩))
     go_ret2
     exact ⟨by first | rfl | (simp;done) | (simp [*];done),by repeat (first | exact Drawn0.refl _ | apply Drawn0.step)⟩
    ·replace c6:=Bool.eq_false_iff.mpr c6
     subst c6
     have H1 : (if a0 = 10 then (some (1,1)) else (if a0 = 11 then (some (2,0)) else (if a0 = 3 then (some (1,0)) else (if a0 = 12 then (some (1,0)) else (if a0 = 13 then (some (1,0)) else (if a0 = 17 then (some (1,0)) else (if a0 = 21 then (some (1,0)) else (if a0 = 22 then (some (1,0)) else (some (0,0)))))))))) = some (r1,r2):=by rw [if_neg (show ¬ (false = true) by decide)] at H;exact H
     clear H
     have H:=H1
     clear H1
     by_cases c7 : a0 = 10
     ·rw [if_pos c7] at H
      have c7b0 : (a0 == 10) = true:=beq_iff_eq.mpr c7
      have c7b1 : (a0 != 10) = false:=bne_eq_false_iff_eq.mpr c7
      clear c7
      simp only [Option.some.injEq,Prod.mk.injEq] at H
      obtain ⟨rfl,rfl⟩:=H
      go_wp2_with (first | ((with_reducible refine gate_callee (f:=59) rfl ?_);refine goesL_ (some 13) rfl rfl Try.func59 (by kernel_rfl) rfl #[.int .i64 a0,.int .i64 4,.int .i64 9] rfl (by (try simp only [List.map_toArray,List.map_cons,List.map_nil]);first | done | rfl | (simp only [List.length_drop,List.length_take];rfl)) ?_;(with_reducible refine (spec_l1In.calls a0 4 9 false _ A5.out).mono ?_);rintro e w' ⟨rfl,⟨nd,rfl⟩⟩;refine ⟨_,rfl,?_⟩))
      go_ret2
      exact ⟨by first | rfl | (simp;done) | (simp [*];done),by repeat (first | exact Drawn0.refl _ | apply Drawn0.step)⟩
     ·rw [if_neg c7] at H
      have c7b0 : (a0 == 10) = false:=beq_eq_false_iff_ne.mpr c7
      have c7b1 : (a0 != 10) = true:=bne_iff_ne.mpr c7
      by_cases c8 : a0 = 11
      ·rw [if_pos c8] at H
       have c8b0 : (a0 == 11) = true:=beq_iff_eq.mpr c8
       have c8b1 : (a0 != 11) = false:=bne_eq_false_iff_eq.mpr c8
       clear c8
       simp only [Option.some.injEq,Prod.mk.injEq] at H
       obtain ⟨rfl,rfl⟩:=H
       go_wp2_with (first | ((with_reducible refine gate_callee (f:=59) rfl ?_);refine goesL_ (some 13) rfl rfl Try.func59 (by kernel_rfl) rfl #[.int .i64 a0,.int .i64 4,.int .i64 9] rfl (by (try simp only [List.map_toArray,List.map_cons,List.map_nil]);first | done | rfl | (simp only [List.length_drop,List.length_take];rfl)) ?_;(with_reducible refine (spec_l1In.calls a0 4 9 false _ A5.out).mono ?_);rintro e w' ⟨rfl,⟨nd,rfl⟩⟩;refine ⟨_,rfl,?_⟩))
       go_ret2
       exact ⟨by first | rfl | (simp;done) | (simp [*];done),by repeat (first | exact Drawn0.refl _ | apply Drawn0.step)⟩
      ·rw [if_neg c8] at H
       have c8b0 : (a0 == 11) = false:=beq_eq_false_iff_ne.mpr c8
       have c8b1 : (a0 != 11) = true:=bne_iff_ne.mpr c8
       by_cases c9 : a0 = 3
       ·rw [if_pos c9] at H
        have c9b0 : (a0 == 3) = true:=beq_iff_eq.mpr c9
        have c9b1 : (a0 != 3) = false:=bne_eq_false_iff_eq.mpr c9
        clear c9
        simp only [Option.some.injEq,Prod.mk.injEq] at H
        obtain ⟨rfl,rfl⟩:=H
        go_wp2_with (first | ((with_reducible refine gate_callee (f:=59) rfl ?_);refine goesL_ (some 13) rfl rfl Try.func59 (by kernel_rfl) rfl #[.int .i64 a0,.int .i64 4,.int .i64 9] rfl (by (try simp only [List.map_toArray,List.map_cons,List.map_nil]);first | done | rfl | (simp only [List.length_drop,List.length_take];rfl)) ?_;(with_reducible refine (spec_l1In.calls a0 4 9 false _ A5.out).mono ?_);rintro e w' ⟨rfl,⟨nd,rfl⟩⟩;refine ⟨_,rfl,?_⟩))
        go_ret2
        exact ⟨by first | rfl | (simp;done) | (simp [*];done),by repeat (first | exact Drawn0.refl _ | apply Drawn0.step)⟩
       ·rw [if_neg c9] at H
        have c9b0 : (a0 == 3) = false:=beq_eq_false_iff_ne.mpr c9
        have c9b1 : (a0 != 3) = true:=bne_iff_ne.mpr c9
        by_cases c10 : a0 = 12
        ·rw [if_pos c10] at H
         have c10b0 : (a0 == 12) = true:=beq_iff_eq.mpr c10
         have c10b1 : (a0 != 12) = false:=bne_eq_false_iff_eq.mpr c10
         clear c10
         simp only [Option.some.injEq,Prod.mk.injEq] at H
         obtain ⟨rfl,rfl⟩:=H
         go_wp2_with (first | ((with_reducible refine gate_callee (f:=59) rfl ?_);refine goesL_ (some 13) rfl rfl Try.func59 (by kernel_rfl) rfl #[.int .i64 a0,.int .i64 4,.int .i64 9] rfl (by (try simp only [List.map_toArray,List.map_cons,List.map_nil]);first | done | rfl | (simp only [List.length_drop,List.length_take];rfl)) ?_;(with_reducible refine (spec_l1In.calls a0 4 9 false _ A5.out).mono ?_);rintro e w' ⟨rfl,⟨nd,rfl⟩⟩;refine ⟨_,rfl,?_⟩))
         go_ret2
         exact ⟨by first | rfl | (simp;done) | (simp [*];done),by repeat (first | exact Drawn0.refl _ | apply Drawn0.step)⟩
        ·rw [if_neg c10] at H
         have c10b0 : (a0 == 12) = false:=beq_eq_false_iff_ne.mpr c10
         have c10b1 : (a0 != 12) = true:=bne_iff_ne.mpr c10
         by_cases c11 : a0 = 13
         ·rw [if_pos c11] at H
          have c11b0 : (a0 == 13) = true:=beq_iff_eq.mpr c11
          have c11b1 : (a0 != 13) = false:=bne_eq_false_iff_eq.mpr c11
          clear c11
          simp only [Option.some.injEq,Prod.mk.injEq] at H
          obtain ⟨rfl,rfl⟩:=H
          go_wp2_with (first | ((with_reducible refine gate_callee (f:=59) rfl ?_);refine goesL_ (some 13) rfl rfl Try.func59 (by kernel_rfl) rfl #[.int .i64 a0,.int .i64 4,.int .i64 9] rfl (by (try simp only [List.map_toArray,List.map_cons,List.map_nil]);first | done | rfl | (simp only [List.length_drop,List.length_take];rfl)) ?_;(with_reducible refine (spec_l1In.calls a0 4 9 false _ A5.out).mono ?_);rintro e w' ⟨rfl,⟨nd,rfl⟩⟩;refine ⟨_,rfl,?_⟩))
          go_ret2
          exact ⟨by first | rfl | (simp;done) | (simp [*];done),by repeat (first | exact Drawn0.refl _ | apply Drawn0.step)⟩
         ·rw [if_neg c11] at H
          have c11b0 : (a0 == 13) = false:=beq_eq_false_iff_ne.mpr c11
          have c11b1 : (a0 != 13) = true:=bne_iff_ne.mpr c11
          by_cases c12 : a0 = 17
          ·rw [if_pos c12] at H
           have c12b0 : (a0 == 17) = true:=beq_iff_eq.mpr c12
           have c12b1 : (a0 != 17) = false:=bne_eq_false_iff_eq.mpr c12
           clear c12
           simp only [Option.some.injEq,Prod.mk.injEq] at H
           obtain ⟨rfl,rfl⟩:=H
           go_wp2_with (first | ((with_reducible refine gate_callee (f:=59) rfl ?_);refine goesL_ (some 13) rfl rfl Try.func59 (by kernel_rfl) rfl #[.int .i64 a0,.int .i64 4,.int .i64 9] rfl (by (try simp only [List.map_toArray,List.map_cons,List.map_nil]);first | done | rfl | (simp only [List.length_drop,List.length_take];rfl)) ?_;(with_reducible refine (spec_l1In.calls a0 4 9 false _ A5.out).mono ?_);rintro e w' ⟨rfl,⟨nd,rfl⟩⟩;refine ⟨_,rfl,?_⟩))
           go_ret2
           exact ⟨by first | rfl | (simp;done) | (simp [*];done),by repeat (first | exact Drawn0.refl _ | apply Drawn0.step)⟩
          ·rw [if_neg c12] at H
           have c12b0 : (a0 == 17) = false:=beq_eq_false_iff_ne.mpr c12
           have c12b1 : (a0 != 17) = true:=bne_iff_ne.mpr c12
           by_cases c13 : a0 = 21
           ·rw [if_pos c13] at H
            have c13b0 : (a0 == 21) = true:=beq_iff_eq.mpr c13
            have c13b1 : (a0 != 21) = false:=bne_eq_false_iff_eq.mpr c13
            clear c13
            simp only [Option.some.injEq,Prod.mk.injEq] at H
            obtain ⟨rfl,rfl⟩:=H
            go_wp2_with (first | ((with_reducible refine gate_callee (f:=59) rfl ?_);refine goesL_ (some 13) rfl rfl Try.func59 (by kernel_rfl) rfl #[.int .i64 a0,.int .i64 4,.int .i64 9] rfl (by (try simp only [List.map_toArray,List.map_cons,List.map_nil]);first | done | rfl | (simp only [List.length_drop,List.length_take];rfl)) ?_;(with_reducible refine (spec_l1In.calls a0 4 9 false _ A5.out).mono ?_);rintro e w' ⟨rfl,⟨nd,rfl⟩⟩;refine ⟨_,rfl,?_⟩))
            go_ret2
            exact ⟨by first | rfl | (simp;done) | (simp [*];done),by repeat (first | exact Drawn0.refl _ | apply Drawn0.step)⟩
           ·rw [if_neg c13] at H
            have c13b0 : (a0 == 21) = false:=beq_eq_false_iff_ne.mpr c13
            have c13b1 : (a0 != 21) = true:=bne_iff_ne.mpr c13
            by_cases c14 : a0 = 22
            ·rw [if_pos c14] at H
             have c14b0 : (a0 == 22) = true:=beq_iff_eq.mpr c14
             have c14b1 : (a0 != 22) = false:=bne_eq_false_iff_eq.mpr c14
             clear c14
             simp only [Option.some.injEq,Prod.mk.injEq] at H
             obtain ⟨rfl,rfl⟩:=H
             go_wp2_with (first | ((with_reducible refine gate_callee (f:=59) rfl ?_);refine goesL_ (some 13) rfl rfl Try.func59 (by kernel_rfl) rfl #[.int .i64 a0,.int .i64 4,.int .i64 9] rfl (by (try simp only [List.map_toArray,List.map_cons,List.map_nil]);first | done | rfl | (simp only [List.length_drop,List.length_take];rfl)) ?_;(with_reducible refine (spec_l1In.calls a0 4 9 false _ A5.out).mono ?_);rintro e w' ⟨rfl,⟨nd,rfl⟩⟩;refine ⟨_,rfl,?_⟩))
             go_ret2
             exact ⟨by first | rfl | (simp;done) | (simp [*];done),by repeat (first | exact Drawn0.refl _ | apply Drawn0.step)⟩
            ·rw [if_neg c14] at H
             have c14b0 : (a0 == 22) = false:=beq_eq_false_iff_ne.mpr c14
             have c14b1 : (a0 != 22) = true:=bne_iff_ne.mpr c14
             simp only [Option.some.injEq,Prod.mk.injEq] at H
             obtain ⟨rfl,rfl⟩:=H
             go_wp2_with (first | ((with_reducible refine gate_callee (f:=59) rfl ?_);refine goesL_ (some 13) rfl rfl Try.func59 (by kernel_rfl) rfl #[.int .i64 a0,.int .i64 4,.int .i64 9] rfl (by (try simp only [List.map_toArray,List.map_cons,List.map_nil]);first | done | rfl | (simp only [List.length_drop,List.length_take];rfl)) ?_;(with_reducible refine (spec_l1In.calls a0 4 9 false _ A5.out).mono ?_);rintro e w' ⟨rfl,⟨nd,rfl⟩⟩;refine ⟨_,rfl,?_⟩))
             go_ret2
             exact ⟨by first | rfl | (simp;done) | (simp [*];done),by repeat (first | exact Drawn0.refl _ | apply Drawn0.step)⟩

end Go.Proofs.Ytmljikgegclolaa.Q
