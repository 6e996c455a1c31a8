-- WRITTEN BY A PROGRAM OF THIS SESSION
import Derived.Test.YthgkhfhfahifmaaQ0
import Derived.Test.YthgkhfhfahifmaaQ2
namespace Go.Proofs.Ythgkhfhfahifmaa.Q
open Go.RowKit Go.Proofs.YthgkhfhfahifmaaW.PrintWords Go.Proofs.YthgkhfhfahifmaaW.PrintLast Go.Proofs.YthgkhfhfahifmaaW.PrintMore
attribute [local go_sem] max2_int min2_int max_two min_two max_three min_three max_four min_four   -- for this text's walks alone
set_option linter.unusedVariables false
set_option linter.unusedSimpArgs false

/-! ### laws_eqBlockS: function 13 -/
def laws_eqBlockS.l0 : Nat → List (S56) → List (S56) → Int → Option (Bool)
 | 0,_,_,_ => none
 | k + 1,x0,x1,x5 => if x5 < (x0.length : Int) then (if 0 ≤ x5 then (if x5 < (x1.length : Int) then ((laws_eqBlock.f k ((rd_T56 x0 x5).f0) ((rd_T56 x0 x5).f1) ((rd_T56 x0 x5).f2) ((rd_T56 x0 x5).f3) ((rd_T56 x1 x5).f0) ((rd_T56 x1 x5).f1) ((rd_T56 x1 x5).f2) ((rd_T56 x1 x5).f3)).bind fun t160 => (if t160 = true then (laws_eqBlockS.l0 k x0 x1 (wrap64 (x5 + 1))) else (some false))) else (none)) else (none)) else (some true)
def laws_eqBlockS.f (k : Nat) (l0 : List (S56)) (l1 : List (S56)) : Option (Bool):=if (l0.length : Int) = (l1.length : Int) then (laws_eqBlockS.l0 k l0 l1 0) else (some false)
theorem laws_eqBlockS.mono_l : ∀ k,(∀ y0 y1 y2,LeO (laws_eqBlockS.l0 k y0 y1 y2) (laws_eqBlockS.l0 (k + 1) y0 y1 y2))
 | 0 => fun _ _ _ r h => by simp [laws_eqBlockS.l0] at h
 | k + 1 => by
  have ih0:=laws_eqBlockS.mono_l k
  ·intro y0 y1 y2
   unfold laws_eqBlockS.l0
   repeat' first
   | (with_reducible exact ih0 _ _ _)
   | (with_reducible exact laws_eqBlock.mono _ _ _ _ _ _ _ _ _)
   | (with_reducible exact LeO.refl _)
   | (with_reducible exact LeO.none _)
   | (with_reducible refine LeO.ite ?_ ?_)
   | (with_reducible refine LeO.bind ?_ (fun _ => ?_))
theorem laws_eqBlockS.mono : ∀ a0 a1 k,LeO (laws_eqBlockS.f k a0 a1) (laws_eqBlockS.f (k + 1) a0 a1):=by
 intro a0 a1 k
 have ih0:=laws_eqBlockS.mono_l k
 unfold laws_eqBlockS.f
 repeat' first
   | (with_reducible exact ih0 _ _ _)
   | (with_reducible exact laws_eqBlock.mono _ _ _ _ _ _ _ _ _)
   | (with_reducible exact LeO.refl _)
   | (with_reducible exact LeO.none _)
   | (with_reducible refine LeO.ite ?_ ?_)
   | (with_reducible refine LeO.bind ?_ (fun _ => ?_))
def laws_eqBlockS.T6 : Bool × List (List Nat × List Nat):=(true,[([],[]),([],[]),([0,1],[0,1]),([2],[2]),([],[]),([],[]),([4,5],[4,5]),([6],[6]),([3,7],[3,7]),([8],[8])])
def laws_eqBlockS.B6 : List Nat:=[0,0,3,7,0,0,48,112,255,511]
theorem laws_eqBlockS.tab6 : rtab .any (opsOf Try.f13 6) = laws_eqBlockS.T6:=by kernel_rfl
theorem laws_eqBlockS.bits6 : waitsOk laws_eqBlockS.T6.2 laws_eqBlockS.B6 = true:=by kernel_rfl
set_option maxHeartbeats 8000000 in
set_option maxRecDepth 100000 in
theorem laws_eqBlockS.calls (k : Nat) (A0 : Option Addr) (c0 : Nat) (l0 : List (S56)) (A1 : Option Addr) (c1 : Nat) (l1 : List (S56)) (r : Bool) (w : World) (hr0 : Kd.C k56 w A0 l0.length l0) (hc0 : l0.length ≤ c0) (hr1 : Kd.C k56 w A1 l1.length l1) (hc1 : l1.length ≤ c1) (h : laws_eqBlockS.f k l0 l1 = some r) :
  Calls Try.prog 13 #[.slice A0 l0.length c0,.slice A1 l1.length c1] w fun e w' => e = .returned (.bool r) ∧ Below w.heap.size w w':=by
 have hu56:=Try.underlying56
 have HR0:=Aside0.mk hr0
 have HC0:=Aside0.mk hc0
 clear hr0 hc0
 have HR1:=Aside0.mk hr1
 have HC1:=Aside0.mk hc1
 clear hr1 hc1
 have HB:=Aside0.mk (Below.refl w.heap.size w)
 have H : (if (l0.length : Int) = (l1.length : Int) then (laws_eqBlockS.l0 k l0 l1 0) else (some false)) = some r:=h
 clear h
 by_cases c3 : (l0.length : Int) = (l1.length : Int)
 rotate_left
 ·rw [if_neg c3] at H
  have c3b0 : ((l0.length : Int) == (l1.length : Int)) = false:=beq_eq_false_iff_ne.mpr c3
  have c3b1 : ((l0.length : Int) != (l1.length : Int)) = true:=bne_iff_ne.mpr c3
  have c3b2 : (l0.length == l1.length) = false:=by first | simpa using c3 | (simp at c3 ⊢;omega)
  obtain rfl:=Option.some.inj H
  go_enter Try.func13,Try.ntmps13
  go_wp2
  go_ret
  exact ⟨by first | rfl | (simp [*,errW_none,errW_some] <;> rfl),by repeat (with_reducible first | exact HB.out | apply below_alloc | apply pw_below_drewN | apply below_drew1)⟩
 rw [if_pos c3] at H
 have c3b0 : ((l0.length : Int) == (l1.length : Int)) = true:=beq_iff_eq.mpr c3
 have c3b1 : ((l0.length : Int) != (l1.length : Int)) = false:=bne_eq_false_iff_eq.mpr c3
 have c3b2 : (l0.length == l1.length) = true:=by first | simpa using c3 | (simp at c3 ⊢;omega)
 clear c3
 have H':=Aside0.mk H
 clear H
 go_enter Try.func13,Try.ntmps13
 go_wp2
 go_loopg [5] k (fun kq v5 w' => ∃ (x5_1 : Int),v5 = .int .i64 x5_1 ∧ Aside0 (laws_eqBlockS.l0 kq l0 l1 x5_1 = some r) ∧ Aside0 (kq ≤ k) ∧ Aside0 (Below w.heap.size w w'))
 case atStart => exact ⟨(0),(by first | rfl | (simp;done) | (simp [*];done)),H',⟨Nat.le_refl _⟩,⟨by repeat (with_reducible first | exact HB.out | apply below_alloc | apply pw_below_drewN | apply below_drew1)⟩⟩
 case round =>
  clear H'
  try clear c1
  try clear p2
  try clear c3
  try clear c3b0
  try clear c3b1
  try clear c3b2
  obtain ⟨x5_1,rfl,HA,HK1,HB⟩:=hrel
  cases gk with
  | zero => exact absurd HA.out (by simp [laws_eqBlockS.l0])
  | succ k1 =>
   have H:=HA.out
   clear HA
   simp only [laws_eqBlockS.l0] at H
   by_cases c4 : x5_1 < (l0.length : Int)
   rotate_left
   ·rw [if_neg c4] at H
    have c4b0 : decide (x5_1 < (l0.length : Int)) = false:=decide_eq_false c4
    clear c4
    obtain rfl:=Option.some.inj H
    go_wp2
    go_ret
    exact ⟨by first | rfl | (simp [*,errW_none,errW_some] <;> rfl),by repeat (with_reducible first | exact HB.out | apply below_alloc | apply pw_below_drewN | apply below_drew1)⟩
   rw [if_pos c4] at H
   have c4b0 : decide (x5_1 < (l0.length : Int)) = true:=decide_eq_true c4
   clear c4
   by_cases c5 : 0 ≤ x5_1
   rotate_left
   ·rw [if_neg c5] at H
    exact absurd H (by simp)
   rw [if_pos c5] at H
   have c5b0 : decide (0 ≤ x5_1) = true:=decide_eq_true c5
   clear c5
   by_cases c6 : x5_1 < (l1.length : Int)
   rotate_left
   ·rw [if_neg c6] at H
    exact absurd H (by simp)
   rw [if_pos c6] at H
   have c6b0 : decide (x5_1 < (l1.length : Int)) = true:=decide_eq_true c6
   clear c6
   replace H:=Option.bind_eq_some_iff.mp H
   obtain ⟨t160,A70,H⟩:=H
   replace H : (if t160 = true then (laws_eqBlockS.l0 k1 l0 l1 (wrap64 (x5_1 + 1))) else (some false)) = some r:=H
   have A7:=Aside0.mk A70
   clear A70
   by_cases c8 : t160 = true
   rotate_left
   ·replace c8:=Bool.eq_false_iff.mpr c8
    subst c8
    have H1 : (some false) = some r:=by rw [if_neg (show ¬ (false = true) by decide)] at H;exact H
    clear H
    have H:=H1
    clear H1
    obtain rfl:=Option.some.inj H
    try go_wp2
    have n0_:=Aside0.mk (below_drew1 HB.out)
    clear HB
    have HB:=n0_
    clear n0_
    have p158 : 0 ≤ (x5_1 : Int):=of_decide_eq_true (by assumption)
    have q158 : x5_1 < (l0.length : Int):=of_decide_eq_true (by assumption)
    obtain ⟨ad158,A158_0,c158_0,A158_3,c158_3,e158,hx158_0,hx158_1,hx158_2,hx158_3,hl158_0,hi158_0,hl158_3,hi158_3⟩:=at_T56 HR0.out x5_1 p158 q158
    have hw158_3:=hx158_3
    have hw158_2:=hx158_2
    have hw158_1:=hx158_1
    have hw158_0:=hx158_0
    cases e158
    replace hx158_0:=(HB.out.cell (World.block_lt_of_cell? w _ hx158_0)).trans hx158_0
    replace hx158_1:=(HB.out.cell (World.block_lt_of_cell? w _ hx158_1)).trans hx158_1
    replace hx158_2:=(HB.out.cell (World.block_lt_of_cell? w _ hx158_2)).trans hx158_2
    replace hx158_3:=(HB.out.cell (World.block_lt_of_cell? w _ hx158_3)).trans hx158_3
    have HR158_0:=Aside0.mk hi158_0
    have HC158_0:=Aside0.mk hl158_0
    clear hi158_0 hl158_0
    have HR158_3:=Aside0.mk hi158_3
    have HC158_3:=Aside0.mk hl158_3
    clear hi158_3 hl158_3
    replace p158:=eq_true p158
    replace q158:=eq_true q158
    have p159 : 0 ≤ (x5_1 : Int):=of_decide_eq_true (by assumption)
    have q159 : x5_1 < (l1.length : Int):=of_decide_eq_true (by assumption)
    obtain ⟨ad159,A159_0,c159_0,A159_3,c159_3,e159,hx159_0,hx159_1,hx159_2,hx159_3,hl159_0,hi159_0,hl159_3,hi159_3⟩:=at_T56 HR1.out x5_1 p159 q159
    have hw159_3:=hx159_3
    have hw159_2:=hx159_2
    have hw159_1:=hx159_1
    have hw159_0:=hx159_0
    cases e159
    replace hx159_0:=(HB.out.cell (World.block_lt_of_cell? w _ hx159_0)).trans hx159_0
    replace hx159_1:=(HB.out.cell (World.block_lt_of_cell? w _ hx159_1)).trans hx159_1
    replace hx159_2:=(HB.out.cell (World.block_lt_of_cell? w _ hx159_2)).trans hx159_2
    replace hx159_3:=(HB.out.cell (World.block_lt_of_cell? w _ hx159_3)).trans hx159_3
    have HR159_0:=Aside0.mk hi159_0
    have HC159_0:=Aside0.mk hl159_0
    clear hi159_0 hl159_0
    have HR159_3:=Aside0.mk hi159_3
    have HC159_3:=Aside0.mk hl159_3
    clear hi159_3 hl159_3
    replace p159:=eq_true p159
    replace q159:=eq_true q159
    refine start_ (n:=10) (S:=fun w' => w'.cell? (ad158.add ((x5_1).toNat * 4)) = some (.slice A158_0 ((rd_T56 l0 x5_1).f0).length c158_0) ∧ w'.cell? ⟨(ad158.add ((x5_1).toNat * 4)).block,(ad158.add ((x5_1).toNat * 4)).off + 1,none⟩ = some (.int .i64 ((rd_T56 l0 x5_1).f1)) ∧ w'.cell? ⟨(ad158.add ((x5_1).toNat * 4)).block,(ad158.add ((x5_1).toNat * 4)).off + 2,none⟩ = some (.int .i64 ((rd_T56 l0 x5_1).f2)) ∧ w'.cell? ⟨(ad158.add ((x5_1).toNat * 4)).block,(ad158.add ((x5_1).toNat * 4)).off + 3,none⟩ = some (.slice A158_3 ((rd_T56 l0 x5_1).f3).length c158_3) ∧ w'.cell? (ad159.add ((x5_1).toNat * 4)) = some (.slice A159_0 ((rd_T56 l1 x5_1).f0).length c159_0) ∧ w'.cell? ⟨(ad159.add ((x5_1).toNat * 4)).block,(ad159.add ((x5_1).toNat * 4)).off + 1,none⟩ = some (.int .i64 ((rd_T56 l1 x5_1).f1)) ∧ w'.cell? ⟨(ad159.add ((x5_1).toNat * 4)).block,(ad159.add ((x5_1).toNat * 4)).off + 2,none⟩ = some (.int .i64 ((rd_T56 l1 x5_1).f2)) ∧ w'.cell? ⟨(ad159.add ((x5_1).toNat * 4)).block,(ad159.add ((x5_1).toNat * 4)).off + 3,none⟩ = some (.slice A159_3 ((rd_T56 l1 x5_1).f3).length c159_3)) (ds:=[]) #[false,false,false,false,false,false,false,false,false,false] (by kernel_rfl) rfl rfl ⟨((HB.out.cell (World.block_lt_of_cell? w _ hw158_0)).trans hw158_0),((HB.out.cell (World.block_lt_of_cell? w _ hw158_1)).trans hw158_1),((HB.out.cell (World.block_lt_of_cell? w _ hw158_2)).trans hw158_2),((HB.out.cell (World.block_lt_of_cell? w _ hw158_3)).trans hw158_3),((HB.out.cell (World.block_lt_of_cell? w _ hw159_0)).trans hw159_0),((HB.out.cell (World.block_lt_of_cell? w _ hw159_1)).trans hw159_1),((HB.out.cell (World.block_lt_of_cell? w _ hw159_2)).trans hw159_2),((HB.out.cell (World.block_lt_of_cell? w _ hw159_3)).trans hw159_3)⟩ (fun hHeld => ?_);refine with_tabW laws_eqBlockS.tab6 laws_eqBlockS.bits6 (fun HT_ HW_ => ?_)
    generalize wr.drew = w11 at HB HR158_0 HR158_3 HR159_0 HR159_3 hx158_0 hx158_1 hx158_2 hx158_3 hx159_0 hx159_1 hx159_2 hx159_3 hHeld ⊢
    refine pure_ (i:=0) (N:=some 17) (v:=?_) (a':=?_) #[true,false,false,false,false,false,false,false,false,false] rfl rfl (any_of HT_.out (by kernel_rfl)) (fun _ _ _ h => h) (Or.inl ⟨by rfl,?_⟩) ?_ ?_
    rotate_left
    ·intro w'
     go_simp
     with_reducible rfl
    rotate_left
    ·simp only [Act.put,List.setIfInBounds_toArray,List.set_cons_zero,List.set_cons_succ,i64_w,i32_w]
     rfl
    refine pure_ (i:=1) (N:=some 18) (v:=?_) (a':=?_) #[true,true,false,false,false,false,false,false,false,false] rfl rfl (any_of HT_.out (by kernel_rfl)) (fun _ _ _ h => h) (Or.inl ⟨by rfl,?_⟩) ?_ ?_
    rotate_left
    ·intro w'
     go_simp
     with_reducible rfl
    rotate_left
    ·simp only [Act.put,List.setIfInBounds_toArray,List.set_cons_zero,List.set_cons_succ,i64_w,i32_w]
     rfl
    refine pure_ (i:=2) (N:=some 19) (v:=?_) (a':=?_) #[true,true,true,false,false,false,false,false,false,false] rfl rfl (any_of HT_.out (by kernel_rfl)) (fun _ _ _ h => h) (Or.inl ⟨by rfl,?_⟩) ?_ ?_
    rotate_left
    ·intro w'
     go_simp
     with_reducible rfl
    rotate_left
    ·simp only [Act.put,List.setIfInBounds_toArray,List.set_cons_zero,List.set_cons_succ,i64_w,i32_w]
     rfl
    refine pure_ (i:=4) (N:=some 21) (v:=?_) (a':=?_) #[true,true,true,false,true,false,false,false,false,false] rfl rfl (any_of HT_.out (by kernel_rfl)) (fun _ _ _ h => h) (Or.inl ⟨by rfl,?_⟩) ?_ ?_
    rotate_left
    ·intro w'
     go_simp
     with_reducible rfl
    rotate_left
    ·simp only [Act.put,List.setIfInBounds_toArray,List.set_cons_zero,List.set_cons_succ,i64_w,i32_w]
     rfl
    refine pure_ (i:=5) (N:=some 22) (v:=?_) (a':=?_) #[true,true,true,false,true,true,false,false,false,false] rfl rfl (any_of HT_.out (by kernel_rfl)) (fun _ _ _ h => h) (Or.inl ⟨by rfl,?_⟩) ?_ ?_
    rotate_left
    ·intro w'
     go_simp
     with_reducible rfl
    rotate_left
    ·simp only [Act.put,List.setIfInBounds_toArray,List.set_cons_zero,List.set_cons_succ,i64_w,i32_w]
     rfl
    refine pure_ (i:=6) (N:=some 23) (v:=?_) (a':=?_) #[true,true,true,false,true,true,true,false,false,false] rfl rfl (any_of HT_.out (by kernel_rfl)) (fun _ _ _ h => h) (Or.inl ⟨by rfl,?_⟩) ?_ ?_
    rotate_left
    ·intro w'
     go_simp
     with_reducible rfl
    rotate_left
    ·simp only [Act.put,List.setIfInBounds_toArray,List.set_cons_zero,List.set_cons_succ,i64_w,i32_w]
     rfl
    refine take_ (i:=3) (N:=some 20) (v:=?_) (a':=?_) #[true,true,true,true,true,true,true,false,false,false] rfl rfl (take_ofW HT_.out HW_.out (by kernel_rfl)) (fun _ _ _ h => h) (Or.inl ⟨by rfl,?_⟩) hHeld ?_ ?_
    rotate_left
    ·rintro w' ⟨s0,s1,s2,s3,s4,s5,s6,s7⟩
     go_simp
     with_reducible rfl
    rotate_left
    ·simp only [Act.put,List.setIfInBounds_toArray,List.set_cons_zero,List.set_cons_succ,i64_w,i32_w]
     rfl
    refine take_ (i:=7) (N:=some 24) (v:=?_) (a':=?_) #[true,true,true,true,true,true,true,true,false,false] rfl rfl (take_ofW HT_.out HW_.out (by kernel_rfl)) (fun _ _ _ h => h) (Or.inl ⟨by rfl,?_⟩) hHeld ?_ ?_
    rotate_left
    ·rintro w' ⟨s0,s1,s2,s3,s4,s5,s6,s7⟩
     go_simp
     with_reducible rfl
    rotate_left
    ·simp only [Act.put,List.setIfInBounds_toArray,List.set_cons_zero,List.set_cons_succ,i64_w,i32_w]
     rfl
    refine one_ (i:=8) (N:=some 25) #[true,true,true,true,true,true,true,true,true,false] rfl rfl (one_of HT_.out (by kernel_rfl)) (by decide) (fun K hK => ?_)
    refine goes_ Try.func44 (by kernel_rfl) rfl #[.agg #[.slice A158_0 ((rd_T56 l0 x5_1).f0).length c158_0,.int .i64 ((rd_T56 l0 x5_1).f1),.int .i64 ((rd_T56 l0 x5_1).f2),.slice A158_3 ((rd_T56 l0 x5_1).f3).length c158_3],.agg #[.slice A159_0 ((rd_T56 l1 x5_1).f0).length c159_0,.int .i64 ((rd_T56 l1 x5_1).f1),.int .i64 ((rd_T56 l1 x5_1).f2),.slice A159_3 ((rd_T56 l1 x5_1).f3).length c159_3]] (by rfl) rfl rfl (by (try simp only [List.map_toArray,List.map_cons,List.map_nil]);first | done | rfl | (simp only [List.length_drop,List.length_take];rfl)) ?_
    with_reducible refine (laws_eqBlock.calls k1 _ _ ((rd_T56 l0 x5_1).f0) ((rd_T56 l0 x5_1).f1) ((rd_T56 l0 x5_1).f2) _ _ ((rd_T56 l0 x5_1).f3) _ _ ((rd_T56 l1 x5_1).f0) ((rd_T56 l1 x5_1).f1) ((rd_T56 l1 x5_1).f2) _ _ ((rd_T56 l1 x5_1).f3) false _ ?side1 ?side2 ?side3 ?side4 ?side5 ?side6 ?side7 ?side8 A7.out).mono ?_
    (case side1 => repeat (first | exact (Kd.C_below HR158_0.out HB.out) | (with_reducible refine Kd.C_alloc ?_ _) | (with_reducible refine Kd.C_drewN ?_ _) | (with_reducible refine Kd.C_drew ?_)))
    (case side2 => exact HC158_0.out)
    (case side3 => repeat (first | exact (Kd.C_below HR158_3.out HB.out) | (with_reducible refine Kd.C_alloc ?_ _) | (with_reducible refine Kd.C_drewN ?_ _) | (with_reducible refine Kd.C_drew ?_)))
    (case side4 => exact HC158_3.out)
    (case side5 => repeat (first | exact (Kd.C_below HR159_0.out HB.out) | (with_reducible refine Kd.C_alloc ?_ _) | (with_reducible refine Kd.C_drewN ?_ _) | (with_reducible refine Kd.C_drew ?_)))
    (case side6 => exact HC159_0.out)
    (case side7 => repeat (first | exact (Kd.C_below HR159_3.out HB.out) | (with_reducible refine Kd.C_alloc ?_ _) | (with_reducible refine Kd.C_drewN ?_ _) | (with_reducible refine Kd.C_drew ?_)))
    (case side8 => exact HC159_3.out)
    rintro e w12 ⟨rfl,hb⟩
    refine ⟨_,rfl,?_⟩
    have n0_:=Aside0.mk (below_step (by repeat (with_reducible first | exact HB.out | apply below_alloc | apply pw_below_drewN | apply below_drew1)) hb)
    clear HB
    have HB:=n0_
    clear n0_
    (try clear hb)
    (try clear hb2)
    (try clear hk)
    (try clear hi)
    refine hK.out _ _ ⟨((HB.out.cell (World.block_lt_of_cell? w _ hw158_0)).trans hw158_0),((HB.out.cell (World.block_lt_of_cell? w _ hw158_1)).trans hw158_1),((HB.out.cell (World.block_lt_of_cell? w _ hw158_2)).trans hw158_2),((HB.out.cell (World.block_lt_of_cell? w _ hw158_3)).trans hw158_3),((HB.out.cell (World.block_lt_of_cell? w _ hw159_0)).trans hw159_0),((HB.out.cell (World.block_lt_of_cell? w _ hw159_1)).trans hw159_1),((HB.out.cell (World.block_lt_of_cell? w _ hw159_2)).trans hw159_2),((HB.out.cell (World.block_lt_of_cell? w _ hw159_3)).trans hw159_3)⟩ (fun hHeld => ?_)
    clear hK K
    refine norm_ (a':=?_) ?_ ?_
    rotate_left
    ·show Act.put _ (some 25) _ = _
     simp only [Act.put,List.setIfInBounds_toArray,List.set_cons_zero,List.set_cons_succ,i64_w,i32_w]
     rfl
    refine pure_ (i:=9) (N:=some 26) (v:=?_) (a':=?_) #[true,true,true,true,true,true,true,true,true,true] rfl rfl (any_of HT_.out (by kernel_rfl)) (fun _ _ _ h => h) (Or.inl ⟨by rfl,?_⟩) ?_ ?_
    rotate_left
    ·intro w'
     go_simp
     with_reducible rfl
    rotate_left
    ·simp only [Act.put,List.setIfInBounds_toArray,List.set_cons_zero,List.set_cons_succ,i64_w,i32_w]
     rfl
    refine done_ (done_of HT_.out (by kernel_rfl)) ?_
    try go_wp2
    go_ret
    exact ⟨by first | rfl | (simp [*,errW_none,errW_some] <;> rfl),by repeat (with_reducible first | exact HB.out | apply below_alloc | apply pw_below_drewN | apply below_drew1)⟩
   subst c8
   have H1 : (laws_eqBlockS.l0 k1 l0 l1 (wrap64 (x5_1 + 1))) = some r:=by rw [if_pos rfl] at H;exact H
   clear H
   have H:=H1
   clear H1
   have H':=Aside0.mk H
   clear H
   try go_wp2
   have n0_:=Aside0.mk (below_drew1 HB.out)
   clear HB
   have HB:=n0_
   clear n0_
   have p158 : 0 ≤ (x5_1 : Int):=of_decide_eq_true (by assumption)
   have q158 : x5_1 < (l0.length : Int):=of_decide_eq_true (by assumption)
   obtain ⟨ad158,A158_0,c158_0,A158_3,c158_3,e158,hx158_0,hx158_1,hx158_2,hx158_3,hl158_0,hi158_0,hl158_3,hi158_3⟩:=at_T56 HR0.out x5_1 p158 q158
   have hw158_3:=hx158_3
   have hw158_2:=hx158_2
   have hw158_1:=hx158_1
   have hw158_0:=hx158_0
   cases e158
   replace hx158_0:=(HB.out.cell (World.block_lt_of_cell? w _ hx158_0)).trans hx158_0
   replace hx158_1:=(HB.out.cell (World.block_lt_of_cell? w _ hx158_1)).trans hx158_1
   replace hx158_2:=(HB.out.cell (World.block_lt_of_cell? w _ hx158_2)).trans hx158_2
   replace hx158_3:=(HB.out.cell (World.block_lt_of_cell? w _ hx158_3)).trans hx158_3
   have HR158_0:=Aside0.mk hi158_0
   have HC158_0:=Aside0.mk hl158_0
   clear hi158_0 hl158_0
   have HR158_3:=Aside0.mk hi158_3
   have HC158_3:=Aside0.mk hl158_3
   clear hi158_3 hl158_3
   replace p158:=eq_true p158
   replace q158:=eq_true q158
   have p159 : 0 ≤ (x5_1 : Int):=of_decide_eq_true (by assumption)
   have q159 : x5_1 < (l1.length : Int):=of_decide_eq_true (by assumption)
   obtain ⟨ad159,A159_0,c159_0,A159_3,c159_3,e159,hx159_0,hx159_1,hx159_2,hx159_3,hl159_0,hi159_0,hl159_3,hi159_3⟩:=at_T56 HR1.out x5_1 p159 q159
   have hw159_3:=hx159_3
   have hw159_2:=hx159_2
   have hw159_1:=hx159_1
   have hw159_0:=hx159_0
   cases e159
   replace hx159_0:=(HB.out.cell (World.block_lt_of_cell? w _ hx159_0)).trans hx159_0
   replace hx159_1:=(HB.out.cell (World.block_lt_of_cell? w _ hx159_1)).trans hx159_1
   replace hx159_2:=(HB.out.cell (World.block_lt_of_cell? w _ hx159_2)).trans hx159_2
   replace hx159_3:=(HB.out.cell (World.block_lt_of_cell? w _ hx159_3)).trans hx159_3
   have HR159_0:=Aside0.mk hi159_0
   have HC159_0:=Aside0.mk hl159_0
   clear hi159_0 hl159_0
   have HR159_3:=Aside0.mk hi159_3
   have HC159_3:=Aside0.mk hl159_3
   clear hi159_3 hl159_3
   replace p159:=eq_true p159
   replace q159:=eq_true q159
   refine start_ (n:=10) (S:=fun w' => w'.cell? (ad158.add ((x5_1).toNat * 4)) = some (.slice A158_0 ((rd_T56 l0 x5_1).f0).length c158_0) ∧ w'.cell? ⟨(ad158.add ((x5_1).toNat * 4)).block,(ad158.add ((x5_1).toNat * 4)).off + 1,none⟩ = some (.int .i64 ((rd_T56 l0 x5_1).f1)) ∧ w'.cell? ⟨(ad158.add ((x5_1).toNat * 4)).block,(ad158.add ((x5_1).toNat * 4)).off + 2,none⟩ = some (.int .i64 ((rd_T56 l0 x5_1).f2)) ∧ w'.cell? ⟨(ad158.add ((x5_1).toNat * 4)).block,(ad158.add ((x5_1).toNat * 4)).off + 3,none⟩ = some (.slice A158_3 ((rd_T56 l0 x5_1).f3).length c158_3) ∧ w'.cell? (ad159.add ((x5_1).toNat * 4)) = some (.slice A159_0 ((rd_T56 l1 x5_1).f0).length c159_0) ∧ w'.cell? ⟨(ad159.add ((x5_1).toNat * 4)).block,(ad159.add ((x5_1).toNat * 4)).off + 1,none⟩ = some (.int .i64 ((rd_T56 l1 x5_1).f1)) ∧ w'.cell? ⟨(ad159.add ((x5_1).toNat * 4)).block,(ad159.add ((x5_1).toNat * 4)).off + 2,none⟩ = some (.int .i64 ((rd_T56 l1 x5_1).f2)) ∧ w'.cell? ⟨(ad159.add ((x5_1).toNat * 4)).block,(ad159.add ((x5_1).toNat * 4)).off + 3,none⟩ = some (.slice A159_3 ((rd_T56 l1 x5_1).f3).length c159_3)) (ds:=[]) #[false,false,false,false,false,false,false,false,false,false] (by kernel_rfl) rfl rfl ⟨((HB.out.cell (World.block_lt_of_cell? w _ hw158_0)).trans hw158_0),((HB.out.cell (World.block_lt_of_cell? w _ hw158_1)).trans hw158_1),((HB.out.cell (World.block_lt_of_cell? w _ hw158_2)).trans hw158_2),((HB.out.cell (World.block_lt_of_cell? w _ hw158_3)).trans hw158_3),((HB.out.cell (World.block_lt_of_cell? w _ hw159_0)).trans hw159_0),((HB.out.cell (World.block_lt_of_cell? w _ hw159_1)).trans hw159_1),((HB.out.cell (World.block_lt_of_cell? w _ hw159_2)).trans hw159_2),((HB.out.cell (World.block_lt_of_cell? w _ hw159_3)).trans hw159_3)⟩ (fun hHeld => ?_);refine with_tabW laws_eqBlockS.tab6 laws_eqBlockS.bits6 (fun HT_ HW_ => ?_)
   generalize wr.drew = w9 at HB HR158_0 HR158_3 HR159_0 HR159_3 hx158_0 hx158_1 hx158_2 hx158_3 hx159_0 hx159_1 hx159_2 hx159_3 hHeld ⊢
   refine pure_ (i:=0) (N:=some 17) (v:=?_) (a':=?_) #[true,false,false,false,false,false,false,false,false,false] rfl rfl (any_of HT_.out (by kernel_rfl)) (fun _ _ _ h => h) (Or.inl ⟨by rfl,?_⟩) ?_ ?_
   rotate_left
   ·intro w'
    go_simp
    with_reducible rfl
   rotate_left
   ·simp only [Act.put,List.setIfInBounds_toArray,List.set_cons_zero,List.set_cons_succ,i64_w,i32_w]
    rfl
   refine pure_ (i:=1) (N:=some 18) (v:=?_) (a':=?_) #[true,true,false,false,false,false,false,false,false,false] rfl rfl (any_of HT_.out (by kernel_rfl)) (fun _ _ _ h => h) (Or.inl ⟨by rfl,?_⟩) ?_ ?_
   rotate_left
   ·intro w'
    go_simp
    with_reducible rfl
   rotate_left
   ·simp only [Act.put,List.setIfInBounds_toArray,List.set_cons_zero,List.set_cons_succ,i64_w,i32_w]
    rfl
   refine pure_ (i:=2) (N:=some 19) (v:=?_) (a':=?_) #[true,true,true,false,false,false,false,false,false,false] rfl rfl (any_of HT_.out (by kernel_rfl)) (fun _ _ _ h => h) (Or.inl ⟨by rfl,?_⟩) ?_ ?_
   rotate_left
   ·intro w'
    go_simp
    with_reducible rfl
   rotate_left
   ·simp only [Act.put,List.setIfInBounds_toArray,List.set_cons_zero,List.set_cons_succ,i64_w,i32_w]
    rfl
   refine pure_ (i:=4) (N:=some 21) (v:=?_) (a':=?_) #[true,true,true,false,true,false,false,false,false,false] rfl rfl (any_of HT_.out (by kernel_rfl)) (fun _ _ _ h => h) (Or.inl ⟨by rfl,?_⟩) ?_ ?_
   rotate_left
   ·intro w'
    go_simp
    with_reducible rfl
   rotate_left
   ·simp only [Act.put,List.setIfInBounds_toArray,List.set_cons_zero,List.set_cons_succ,i64_w,i32_w]
    rfl
   refine pure_ (i:=5) (N:=some 22) (v:=?_) (a':=?_) #[true,true,true,false,true,true,false,false,false,false] rfl rfl (any_of HT_.out (by kernel_rfl)) (fun _ _ _ h => h) (Or.inl ⟨by rfl,?_⟩) ?_ ?_
   rotate_left
   ·intro w'
    go_simp
    with_reducible rfl
   rotate_left
   ·simp only [Act.put,List.setIfInBounds_toArray,List.set_cons_zero,List.set_cons_succ,i64_w,i32_w]
    rfl
   refine pure_ (i:=6) (N:=some 23) (v:=?_) (a':=?_) #[true,true,true,false,true,true,true,false,false,false] rfl rfl (any_of HT_.out (by kernel_rfl)) (fun _ _ _ h => h) (Or.inl ⟨by rfl,?_⟩) ?_ ?_
   rotate_left
   ·intro w'
    go_simp
    with_reducible rfl
   rotate_left
   ·simp only [Act.put,List.setIfInBounds_toArray,List.set_cons_zero,List.set_cons_succ,i64_w,i32_w]
    rfl
   refine take_ (i:=3) (N:=some 20) (v:=?_) (a':=?_) #[true,true,true,true,true,true,true,false,false,false] rfl rfl (take_ofW HT_.out HW_.out (by kernel_rfl)) (fun _ _ _ h => h) (Or.inl ⟨by rfl,?_⟩) hHeld ?_ ?_
   rotate_left
   ·rintro w' ⟨s0,s1,s2,s3,s4,s5,s6,s7⟩
    go_simp
    with_reducible rfl
   rotate_left
   ·simp only [Act.put,List.setIfInBounds_toArray,List.set_cons_zero,List.set_cons_succ,i64_w,i32_w]
    rfl
   refine take_ (i:=7) (N:=some 24) (v:=?_) (a':=?_) #[true,true,true,true,true,true,true,true,false,false] rfl rfl (take_ofW HT_.out HW_.out (by kernel_rfl)) (fun _ _ _ h => h) (Or.inl ⟨by rfl,?_⟩) hHeld ?_ ?_
   rotate_left
   ·rintro w' ⟨s0,s1,s2,s3,s4,s5,s6,s7⟩
    go_simp
    with_reducible rfl
   rotate_left
   ·simp only [Act.put,List.setIfInBounds_toArray,List.set_cons_zero,List.set_cons_succ,i64_w,i32_w]
    rfl
   refine one_ (i:=8) (N:=some 25) #[true,true,true,true,true,true,true,true,true,false] rfl rfl (one_of HT_.out (by kernel_rfl)) (by decide) (fun K hK => ?_)
   refine goes_ Try.func44 (by kernel_rfl) rfl #[.agg #[.slice A158_0 ((rd_T56 l0 x5_1).f0).length c158_0,.int .i64 ((rd_T56 l0 x5_1).f1),.int .i64 ((rd_T56 l0 x5_1).f2),.slice A158_3 ((rd_T56 l0 x5_1).f3).length c158_3],.agg #[.slice A159_0 ((rd_T56 l1 x5_1).f0).length c159_0,.int .i64 ((rd_T56 l1 x5_1).f1),.int .i64 ((rd_T56 l1 x5_1).f2),.slice A159_3 ((rd_T56 l1 x5_1).f3).length c159_3]] (by rfl) rfl rfl (by (try simp only [List.map_toArray,List.map_cons,List.map_nil]);first | done | rfl | (simp only [List.length_drop,List.length_take];rfl)) ?_
   with_reducible refine (laws_eqBlock.calls k1 _ _ ((rd_T56 l0 x5_1).f0) ((rd_T56 l0 x5_1).f1) ((rd_T56 l0 x5_1).f2) _ _ ((rd_T56 l0 x5_1).f3) _ _ ((rd_T56 l1 x5_1).f0) ((rd_T56 l1 x5_1).f1) ((rd_T56 l1 x5_1).f2) _ _ ((rd_T56 l1 x5_1).f3) true _ ?side1 ?side2 ?side3 ?side4 ?side5 ?side6 ?side7 ?side8 A7.out).mono ?_
   (case side1 => repeat (first | exact (Kd.C_below HR158_0.out HB.out) | (with_reducible refine Kd.C_alloc ?_ _) | (with_reducible refine Kd.C_drewN ?_ _) | (with_reducible refine Kd.C_drew ?_)))
   (case side2 => exact HC158_0.out)
   (case side3 => repeat (first | exact (Kd.C_below HR158_3.out HB.out) | (with_reducible refine Kd.C_alloc ?_ _) | (with_reducible refine Kd.C_drewN ?_ _) | (with_reducible refine Kd.C_drew ?_)))
   (case side4 => exact HC158_3.out)
   (case side5 => repeat (first | exact (Kd.C_below HR159_0.out HB.out) | (with_reducible refine Kd.C_alloc ?_ _) | (with_reducible refine Kd.C_drewN ?_ _) | (with_reducible refine Kd.C_drew ?_)))
   (case side6 => exact HC159_0.out)
   (case side7 => repeat (first | exact (Kd.C_below HR159_3.out HB.out) | (with_reducible refine Kd.C_alloc ?_ _) | (with_reducible refine Kd.C_drewN ?_ _) | (with_reducible refine Kd.C_drew ?_)))
   (case side8 => exact HC159_3.out)
   rintro e w10 ⟨rfl,hb⟩
   refine ⟨_,rfl,?_⟩
   have n0_:=Aside0.mk (below_step (by repeat (with_reducible first | exact HB.out | apply below_alloc | apply pw_below_drewN | apply below_drew1)) hb)
   clear HB
   have HB:=n0_
   clear n0_
   (try clear hb)
   (try clear hb2)
   (try clear hk)
   (try clear hi)
   refine hK.out _ _ ⟨((HB.out.cell (World.block_lt_of_cell? w _ hw158_0)).trans hw158_0),((HB.out.cell (World.block_lt_of_cell? w _ hw158_1)).trans hw158_1),((HB.out.cell (World.block_lt_of_cell? w _ hw158_2)).trans hw158_2),((HB.out.cell (World.block_lt_of_cell? w _ hw158_3)).trans hw158_3),((HB.out.cell (World.block_lt_of_cell? w _ hw159_0)).trans hw159_0),((HB.out.cell (World.block_lt_of_cell? w _ hw159_1)).trans hw159_1),((HB.out.cell (World.block_lt_of_cell? w _ hw159_2)).trans hw159_2),((HB.out.cell (World.block_lt_of_cell? w _ hw159_3)).trans hw159_3)⟩ (fun hHeld => ?_)
   clear hK K
   refine norm_ (a':=?_) ?_ ?_
   rotate_left
   ·show Act.put _ (some 25) _ = _
    simp only [Act.put,List.setIfInBounds_toArray,List.set_cons_zero,List.set_cons_succ,i64_w,i32_w]
    rfl
   refine pure_ (i:=9) (N:=some 26) (v:=?_) (a':=?_) #[true,true,true,true,true,true,true,true,true,true] rfl rfl (any_of HT_.out (by kernel_rfl)) (fun _ _ _ h => h) (Or.inl ⟨by rfl,?_⟩) ?_ ?_
   rotate_left
   ·intro w'
    go_simp
    with_reducible rfl
   rotate_left
   ·simp only [Act.put,List.setIfInBounds_toArray,List.set_cons_zero,List.set_cons_succ,i64_w,i32_w]
    rfl
   refine done_ (done_of HT_.out (by kernel_rfl)) ?_
   try go_wp2
   go_roundg k1
   case measure => have:=HK1.out;omega
   case rel => exact ⟨(wrap64 (x5_1 + 1)),(by first | rfl | (simp;done) | (simp [*];done)),H',⟨by have:=HK1.out;omega⟩,⟨by repeat (with_reducible first | exact HB.out | apply below_alloc | apply pw_below_drewN | apply below_drew1)⟩⟩

/-! ### laws_markIntS: function 23 -/
def laws_markIntS.l0 : Nat → List Int → Int → Int → Option (Int × List Int)
 | 0,_,_,_ => none
 | k + 1,x0,x1,x5 => if x5 < (x0.length : Int) then (if 0 ≤ x5 then (laws_markIntS.l0 k (x0.set (x5 : Int).toNat x1) (wrap64 (x1 + 1)) (wrap64 (x5 + 1))) else (none)) else (some (x1,x0))
def laws_markIntS.f (k : Nat) (l0 : List Int) (a1 : Int) : Option (Int × List Int):=laws_markIntS.l0 k l0 a1 0
theorem laws_markIntS.mono_l : ∀ k,(∀ y0 y1 y2,LeO (laws_markIntS.l0 k y0 y1 y2) (laws_markIntS.l0 (k + 1) y0 y1 y2))
 | 0 => fun _ _ _ r h => by simp [laws_markIntS.l0] at h
 | k + 1 => by
  have ih0:=laws_markIntS.mono_l k
  ·intro y0 y1 y2
   unfold laws_markIntS.l0
   repeat' first
   | (with_reducible exact ih0 _ _ _)
   | (with_reducible exact LeO.refl _)
   | (with_reducible exact LeO.none _)
   | (with_reducible refine LeO.ite ?_ ?_)
   | (with_reducible refine LeO.bind ?_ (fun _ => ?_))
theorem laws_markIntS.mono : ∀ a0 a1 k,LeO (laws_markIntS.f k a0 a1) (laws_markIntS.f (k + 1) a0 a1):=by
 intro a0 a1 k
 have ih0:=laws_markIntS.mono_l k
 unfold laws_markIntS.f
 repeat' first
   | (with_reducible exact ih0 _ _ _)
   | (with_reducible exact LeO.refl _)
   | (with_reducible exact LeO.none _)
   | (with_reducible refine LeO.ite ?_ ?_)
   | (with_reducible refine LeO.bind ?_ (fun _ => ?_))
set_option maxHeartbeats 8000000 in
set_option maxRecDepth 100000 in
theorem laws_markIntS.calls (k : Nat) (P0_ : Nat → Prop) (u9000_ : Value) (l0 : List Int) (a1 : Int) (r1 : Int) (r2 : List Int) (w0 w : World) (hB : Below w0.heap.size w0 w) (ho0 : Kd.R (Kd.int .i64) 3 w w0.heap.size P0_ u9000_ l0) (h : laws_markIntS.f k l0 a1 = some (r1,r2)) :
  Calls Try.prog 23 #[u9000_,.int .i64 a1] w fun e w' => e = .returned (.int .i64 r1) ∧ Kd.R (Kd.int .i64) 3 w' w0.heap.size (fun k_ => (P0_ k_ ∨ w.heap.size ≤ k_)) u9000_ r2 ∧ Below w0.heap.size w0 w' ∧ Kept w w' (fun k_ => P0_ k_):=by
 have HO0:=Aside0.mk (show Kd.R (Kd.int .i64) 3 w w0.heap.size (fun k_ => (P0_ k_ ∨ w.heap.size ≤ k_)) u9000_ l0 from Kd.R_mono ho0 (fun k_ hk => (.inl hk)))
 have HK:=Aside0.mk (Kept.refl w (fun k_ => P0_ k_))
 have HW0:=Aside0.mk hB.size
 have HB:=Aside0.mk hB
 clear hB
 have H : (laws_markIntS.l0 k l0 a1 0) = some (r1,r2):=h
 clear h
 have H':=Aside0.mk H
 clear H
 go_enter Try.func23,Try.ntmps23
 go_wp2
 go_loopg [1,5] k (fun kq v1 v5 w' => ∃ (x0_1 : List Int) (x1_1 : Int) (x5_1 : Int),v1 = .int .i64 x1_1 ∧ v5 = .int .i64 x5_1 ∧ Aside0 (laws_markIntS.l0 kq x0_1 x1_1 x5_1 = some (r1,r2)) ∧ Aside0 (kq ≤ k) ∧ Aside0 (Kd.R (Kd.int .i64) 3 w' w0.heap.size (fun k_ => (P0_ k_ ∨ w.heap.size ≤ k_)) u9000_ x0_1) ∧ Aside0 (Kept w w' (fun k_ => P0_ k_)) ∧ Aside0 (Below w0.heap.size w0 w'))
 case atStart => exact ⟨(l0),(a1),(0),(by first | rfl | (simp;done) | (simp [*];done)),(by first | rfl | (simp;done) | (simp [*];done)),H',⟨Nat.le_refl _⟩,⟨by (with_reducible repeat (first | apply Kd.R_alloc | apply Kd.R_drewN | apply Kd.R_drew));exact HO0.out⟩,⟨by repeat (first | (with_reducible first | exact HK.out | apply Kept.alloc | apply Kept.drewN | apply Kept.drew) | exact HK.out)⟩,⟨by repeat (with_reducible first | exact HB.out | apply below_alloc | apply pw_below_drewN | apply below_drew1)⟩⟩
 case round =>
  clear H'
  try clear c2
  try clear p2
  obtain ⟨x0_1,x1_1,x5_1,rfl,rfl,HA,HK1,HO_0,HK,HB⟩:=hrel
  cases gk with
  | zero => exact absurd HA.out (by simp [laws_markIntS.l0])
  | succ k1 =>
   have H:=HA.out
   clear HA
   simp only [laws_markIntS.l0] at H
   by_cases c3 : x5_1 < (x0_1.length : Int)
   rotate_left
   ·rw [if_neg c3] at H
    have c3b0 : decide (x5_1 < (x0_1.length : Int)) = false:=decide_eq_false c3
    clear c3
    simp only [Option.some.injEq,Prod.mk.injEq] at H
    obtain ⟨rfl,rfl⟩:=H
    obtain ⟨Ao9,co9,eo9⟩:=Kd.R_slice HO_0.out
    subst eo9
    go_wp2
    go_ret
    exact ⟨by first | rfl | (simp [*,errW_none,errW_some] <;> rfl),by (with_reducible repeat (first | apply Kd.R_alloc | apply Kd.R_drewN | apply Kd.R_drew));exact HO_0.out,by repeat (with_reducible first | exact HB.out | apply below_alloc | apply pw_below_drewN | apply below_drew1),by repeat (first | (with_reducible first | exact HK.out | apply Kept.alloc | apply Kept.drewN | apply Kept.drew) | exact HK.out)⟩
   rw [if_pos c3] at H
   have c3b0 : decide (x5_1 < (x0_1.length : Int)) = true:=decide_eq_true c3
   clear c3
   by_cases c4 : 0 ≤ x5_1
   rotate_left
   ·rw [if_neg c4] at H
    exact absurd H (by simp)
   rw [if_pos c4] at H
   have c4b0 : decide (0 ≤ x5_1) = true:=decide_eq_true c4
   clear c4
   obtain ⟨y161,hy161⟩ : ∃ y_ : List Int,y_ = (x0_1.set (x5_1 : Int).toNat x1_1):=⟨_,rfl⟩
   replace H : (laws_markIntS.l0 k1 y161 (wrap64 (x1_1 + 1)) (wrap64 (x5_1 + 1))) = some (r1,r2):=by first | (rw [hy161];with_reducible exact H) | (have H2_:=(Option.bind_some _ _).symm.trans H;rw [hy161];with_reducible exact H2_) | (have H2_:=(Option.bind_some _ _).symm.trans H;with_reducible exact H2_) | with_reducible exact H | (rw [hy161];exact H) | exact H
   have Ny161:=Aside0.mk hy161
   clear hy161
   have H':=Aside0.mk H
   clear H
   obtain ⟨Ao6,co6,eo6⟩:=Kd.R_slice HO_0.out
   subst eo6
   have p5 : 0 ≤ (x5_1 : Int):=of_decide_eq_true (by assumption)
   have q5 : (x5_1 : Int) < ((x0_1.length : Int) : Int):=of_decide_eq_true (by assumption)
   obtain ⟨go5,co5,eo5,gb5,gl5,cl5,HG5⟩:=Kd.R_form HO_0.out (by omega)
   (first | cases eo5 | (injection eo5 with ea_ en_ ec_;(first | subst ea_ | (injection ea_ with ea_;subst ea_));subst ec_;clear en_))
   have GB5:=Aside0.mk gb5
   have GG5:=Aside0.mk HG5
   clear gb5 gl5 HG5
   have HMgo5:=Aside0.mk (show (P0_ go5 ∨ w.heap.size ≤ go5) from (HO_0.out.1 _ rfl))
   obtain ⟨hx5_0,hf5_0⟩:=Kd.R_celln 0 HO_0.out (x5_1 : Int) p5 q5
   replace p5:=eq_true p5
   replace q5:=eq_true q5
   have HP7:=Kd.R_putg HO_0.out (x5_1 : Int) x1_1
   go_wp2_with (first | ((with_reducible refine gate_store (t:=3) (p:=15) rfl ?_);refine store_event (t:=3) (p:=15) (v:=?vo_w8) (w1:=(wr.setCell ⟨go5,(x5_1 : Int).toNat,none⟩ (.int .i64 x1_1))) ?hg ?ho ?hn ?hr ?_;(case ho => rfl);(case hg => rfl);(case hn => rfl);(case hr => first | (go_simp;done) | (go_simp;rfl));intro w8 hw;have hg : wr.grownBy w8 (some go5):=(by rw [hw];exact HP7.2);have hp_ : Kd.R (Kd.int .i64) 3 w8 w0.heap.size (fun k_ => (P0_ k_ ∨ w.heap.size ≤ k_)) (.slice (some ⟨go5,0,none⟩) x0_1.length co6) y161:=(by rw [hw,Ny161.out];exact HP7.1);clear HP7;have n0_:=Aside0.mk (hp_);have n1_:=Aside0.mk ((by rw [hw];exact below_set (HB.out) GB5.out : Below w0.heap.size w0 w8));have n2_:=Aside0.mk (Kept.of_grown (S:=(fun k_ => P0_ k_)) hg (by repeat (first | (with_reducible first | exact HK.out | apply Kept.alloc | apply Kept.drewN | apply Kept.drew) | exact HK.out)) (fun k_ e_ => (HO_0.out.1 k_ e_)));clear HO_0;clear HB;clear HK;have HO_0:=n0_;have HB:=n1_;have HK:=n2_;clear n0_ n1_ n2_;clear hg hw hp_))
   go_roundg k1
   case measure => have:=HK1.out;omega
   case rel => exact ⟨(y161),(wrap64 (x1_1 + 1)),(wrap64 (x5_1 + 1)),(by first | rfl | (simp;done) | (simp [*];done)),(by first | rfl | (simp;done) | (simp [*];done)),H',⟨by have:=HK1.out;omega⟩,⟨by (with_reducible repeat (first | apply Kd.R_alloc | apply Kd.R_drewN | apply Kd.R_drew));exact HO_0.out⟩,⟨by repeat (first | (with_reducible first | exact HK.out | apply Kept.alloc | apply Kept.drewN | apply Kept.drew) | exact HK.out)⟩,⟨by repeat (with_reducible first | exact HB.out | apply below_alloc | apply pw_below_drewN | apply below_drew1)⟩⟩

/-! ### laws_markFlatS: function 48 -/
def laws_markFlatS.l0 : Nat → List (S79) → Int → Int → Option (Int × (List (S79)))
 | 0,_,_,_ => none
 | k + 1,x0,x1,x5 => if x5 < (x0.length : Int) then (if 0 ≤ x5 then ((some (x0.set (x5 : Int).toNat (⟨x1,(rd_T79 x0 x5).f1,(rd_T79 x0 x5).f2,(rd_T79 x0 x5).f3,(rd_T79 x0 x5).f4,(rd_T79 x0 x5).f5⟩ : S79) : List (S79))).bind fun y162 => ((some (y162.set (x5 : Int).toNat (⟨(rd_T79 y162 x5).f0,wrap64 (x1 + 1),(rd_T79 y162 x5).f2,(rd_T79 y162 x5).f3,(rd_T79 y162 x5).f4,(rd_T79 y162 x5).f5⟩ : S79) : List (S79))).bind fun y163 => ((some (y163.set (x5 : Int).toNat (⟨(rd_T79 y163 x5).f0,(rd_T79 y163 x5).f1,wrap64 ((wrap64 (x1 + 1)) + 1),(rd_T79 y163 x5).f3,(rd_T79 y163 x5).f4,(rd_T79 y163 x5).f5⟩ : S79) : List (S79))).bind fun y164 => ((some (y164.set (x5 : Int).toNat (⟨(rd_T79 y164 x5).f0,(rd_T79 y164 x5).f1,(rd_T79 y164 x5).f2,wrap64 ((wrap64 ((wrap64 (x1 + 1)) + 1)) + 1),(rd_T79 y164 x5).f4,(rd_T79 y164 x5).f5⟩ : S79) : List (S79))).bind fun y165 => ((some (y165.set (x5 : Int).toNat (⟨(rd_T79 y165 x5).f0,(rd_T79 y165 x5).f1,(rd_T79 y165 x5).f2,(rd_T79 y165 x5).f3,wrap64 ((wrap64 ((wrap64 ((wrap64 (x1 + 1)) + 1)) + 1)) + 1),(rd_T79 y165 x5).f5⟩ : S79) : List (S79))).bind fun y166 => (laws_markFlatS.l0 k (y166.set (x5 : Int).toNat (⟨(rd_T79 y166 x5).f0,(rd_T79 y166 x5).f1,(rd_T79 y166 x5).f2,(rd_T79 y166 x5).f3,(rd_T79 y166 x5).f4,wrap64 ((wrap64 ((wrap64 ((wrap64 ((wrap64 (x1 + 1)) + 1)) + 1)) + 1)) + 1)⟩ : S79)) (wrap64 ((wrap64 ((wrap64 ((wrap64 ((wrap64 ((wrap64 (x1 + 1)) + 1)) + 1)) + 1)) + 1)) + 1)) (wrap64 (x5 + 1)))))))) else (none)) else (some (x1,x0))
def laws_markFlatS.f (k : Nat) (l0 : List (S79)) (a1 : Int) : Option (Int × (List (S79))):=laws_markFlatS.l0 k l0 a1 0
theorem laws_markFlatS.mono_l : ∀ k,(∀ y0 y1 y2,LeO (laws_markFlatS.l0 k y0 y1 y2) (laws_markFlatS.l0 (k + 1) y0 y1 y2))
 | 0 => fun _ _ _ r h => by simp [laws_markFlatS.l0] at h
 | k + 1 => by
  have ih0:=laws_markFlatS.mono_l k
  ·intro y0 y1 y2
   unfold laws_markFlatS.l0
   repeat' first
   | (with_reducible exact ih0 _ _ _)
   | (with_reducible exact LeO.refl _)
   | (with_reducible exact LeO.none _)
   | (with_reducible refine LeO.ite ?_ ?_)
   | (with_reducible refine LeO.bind ?_ (fun _ => ?_))
theorem laws_markFlatS.mono : ∀ a0 a1 k,LeO (laws_markFlatS.f k a0 a1) (laws_markFlatS.f (k + 1) a0 a1):=by
 intro a0 a1 k
 have ih0:=laws_markFlatS.mono_l k
 unfold laws_markFlatS.f
 repeat' first
   | (with_reducible exact ih0 _ _ _)
   | (with_reducible exact LeO.refl _)
   | (with_reducible exact LeO.none _)
   | (with_reducible refine LeO.ite ?_ ?_)
   | (with_reducible refine LeO.bind ?_ (fun _ => ?_))
set_option maxHeartbeats 8000000 in
set_option maxRecDepth 100000 in
theorem laws_markFlatS.calls (k : Nat) (P0_ : Nat → Prop) (u9000_ : Value) (l0 : List (S79)) (a1 : Int) (r1 : Int) (r2 : List (S79)) (w0 w : World) (hB : Below w0.heap.size w0 w) (ho0 : Kd.R k79 79 w w0.heap.size P0_ u9000_ l0) (h : laws_markFlatS.f k l0 a1 = some (r1,r2)) :
  Calls Try.prog 48 #[u9000_,.int .i64 a1] w fun e w' => e = .returned (.int .i64 r1) ∧ Kd.R k79 79 w' w0.heap.size (fun k_ => (P0_ k_ ∨ w.heap.size ≤ k_)) u9000_ r2 ∧ Below w0.heap.size w0 w' ∧ Kept w w' (fun k_ => P0_ k_):=by
 have HO0:=Aside0.mk (show Kd.R k79 79 w w0.heap.size (fun k_ => (P0_ k_ ∨ w.heap.size ≤ k_)) u9000_ l0 from Kd.R_mono ho0 (fun k_ hk => (.inl hk)))
 have HK:=Aside0.mk (Kept.refl w (fun k_ => P0_ k_))
 have HW0:=Aside0.mk hB.size
 have HB:=Aside0.mk hB
 clear hB
 have H : (laws_markFlatS.l0 k l0 a1 0) = some (r1,r2):=h
 clear h
 have H':=Aside0.mk H
 clear H
 go_enter Try.func48,Try.ntmps48
 go_wp2
 go_loopg [1,5] k (fun kq v1 v5 w' => ∃ (x0_1 : List (S79)) (x1_1 : Int) (x5_1 : Int),v1 = .int .i64 x1_1 ∧ v5 = .int .i64 x5_1 ∧ Aside0 (laws_markFlatS.l0 kq x0_1 x1_1 x5_1 = some (r1,r2)) ∧ Aside0 (kq ≤ k) ∧ Aside0 (Kd.R k79 79 w' w0.heap.size (fun k_ => (P0_ k_ ∨ w.heap.size ≤ k_)) u9000_ x0_1) ∧ Aside0 (Kept w w' (fun k_ => P0_ k_)) ∧ Aside0 (Below w0.heap.size w0 w'))
 case atStart => exact ⟨(l0),(a1),(0),(by first | rfl | (simp;done) | (simp [*];done)),(by first | rfl | (simp;done) | (simp [*];done)),H',⟨Nat.le_refl _⟩,⟨by (with_reducible repeat (first | apply Kd.R_alloc | apply Kd.R_drewN | apply Kd.R_drew));exact HO0.out⟩,⟨by repeat (first | (with_reducible first | exact HK.out | apply Kept.alloc | apply Kept.drewN | apply Kept.drew) | exact HK.out)⟩,⟨by repeat (with_reducible first | exact HB.out | apply below_alloc | apply pw_below_drewN | apply below_drew1)⟩⟩
 case round =>
  clear H'
  try clear p2
  obtain ⟨x0_1,x1_1,x5_1,rfl,rfl,HA,HK1,HO_0,HK,HB⟩:=hrel
  cases gk with
  | zero => exact absurd HA.out (by simp [laws_markFlatS.l0])
  | succ k1 =>
   have H:=HA.out
   clear HA
   simp only [laws_markFlatS.l0] at H
   by_cases c3 : x5_1 < (x0_1.length : Int)
   rotate_left
   ·rw [if_neg c3] at H
    have c3b0 : decide (x5_1 < (x0_1.length : Int)) = false:=decide_eq_false c3
    clear c3
    simp only [Option.some.injEq,Prod.mk.injEq] at H
    obtain ⟨rfl,rfl⟩:=H
    obtain ⟨Ao24,co24,eo24⟩:=Kd.R_slice HO_0.out
    subst eo24
    go_wp2
    go_ret
    exact ⟨by first | rfl | (simp [*,errW_none,errW_some] <;> rfl),by (with_reducible repeat (first | apply Kd.R_alloc | apply Kd.R_drewN | apply Kd.R_drew));exact HO_0.out,by repeat (with_reducible first | exact HB.out | apply below_alloc | apply pw_below_drewN | apply below_drew1),by repeat (first | (with_reducible first | exact HK.out | apply Kept.alloc | apply Kept.drewN | apply Kept.drew) | exact HK.out)⟩
   rw [if_pos c3] at H
   have c3b0 : decide (x5_1 < (x0_1.length : Int)) = true:=decide_eq_true c3
   clear c3
   by_cases c4 : 0 ≤ x5_1
   rotate_left
   ·rw [if_neg c4] at H
    exact absurd H (by simp)
   rw [if_pos c4] at H
   have c4b0 : decide (0 ≤ x5_1) = true:=decide_eq_true c4
   clear c4
   obtain ⟨y162,hy162⟩ : ∃ y_ : List (S79),y_ = (x0_1.set (x5_1 : Int).toNat (⟨x1_1,(rd_T79 x0_1 x5_1).f1,(rd_T79 x0_1 x5_1).f2,(rd_T79 x0_1 x5_1).f3,(rd_T79 x0_1 x5_1).f4,(rd_T79 x0_1 x5_1).f5⟩ : S79)):=⟨_,rfl⟩
   replace H : ((some (y162.set (x5_1 : Int).toNat (⟨(rd_T79 y162 x5_1).f0,wrap64 (x1_1 + 1),(rd_T79 y162 x5_1).f2,(rd_T79 y162 x5_1).f3,(rd_T79 y162 x5_1).f4,(rd_T79 y162 x5_1).f5⟩ : S79) : List (S79))).bind fun y163 => ((some (y163.set (x5_1 : Int).toNat (⟨(rd_T79 y163 x5_1).f0,(rd_T79 y163 x5_1).f1,wrap64 ((wrap64 (x1_1 + 1)) + 1),(rd_T79 y163 x5_1).f3,(rd_T79 y163 x5_1).f4,(rd_T79 y163 x5_1).f5⟩ : S79) : List (S79))).bind fun y164 => ((some (y164.set (x5_1 : Int).toNat (⟨(rd_T79 y164 x5_1).f0,(rd_T79 y164 x5_1).f1,(rd_T79 y164 x5_1).f2,wrap64 ((wrap64 ((wrap64 (x1_1 + 1)) + 1)) + 1),(rd_T79 y164 x5_1).f4,(rd_T79 y164 x5_1).f5⟩ : S79) : List (S79))).bind fun y165 => ((some (y165.set (x5_1 : Int).toNat (⟨(rd_T79 y165 x5_1).f0,(rd_T79 y165 x5_1).f1,(rd_T79 y165 x5_1).f2,(rd_T79 y165 x5_1).f3,wrap64 ((wrap64 ((wrap64 ((wrap64 (x1_1 + 1)) + 1)) + 1)) + 1),(rd_T79 y165 x5_1).f5⟩ : S79) : List (S79))).bind fun y166 => (laws_markFlatS.l0 k1 (y166.set (x5_1 : Int).toNat (⟨(rd_T79 y166 x5_1).f0,(rd_T79 y166 x5_1).f1,(rd_T79 y166 x5_1).f2,(rd_T79 y166 x5_1).f3,(rd_T79 y166 x5_1).f4,wrap64 ((wrap64 ((wrap64 ((wrap64 ((wrap64 (x1_1 + 1)) + 1)) + 1)) + 1)) + 1)⟩ : S79)) (wrap64 ((wrap64 ((wrap64 ((wrap64 ((wrap64 ((wrap64 (x1_1 + 1)) + 1)) + 1)) + 1)) + 1)) + 1)) (wrap64 (x5_1 + 1))))))) = some (r1,r2):=by first | (rw [hy162];with_reducible exact H) | (have H2_:=(Option.bind_some _ _).symm.trans H;rw [hy162];with_reducible exact H2_) | (have H2_:=(Option.bind_some _ _).symm.trans H;with_reducible exact H2_) | with_reducible exact H | (rw [hy162];exact H) | exact H
   have Ny162:=Aside0.mk hy162
   clear hy162
   obtain ⟨y163,hy163⟩ : ∃ y_ : List (S79),y_ = (y162.set (x5_1 : Int).toNat (⟨(rd_T79 y162 x5_1).f0,wrap64 (x1_1 + 1),(rd_T79 y162 x5_1).f2,(rd_T79 y162 x5_1).f3,(rd_T79 y162 x5_1).f4,(rd_T79 y162 x5_1).f5⟩ : S79)):=⟨_,rfl⟩
   replace H : ((some (y163.set (x5_1 : Int).toNat (⟨(rd_T79 y163 x5_1).f0,(rd_T79 y163 x5_1).f1,wrap64 ((wrap64 (x1_1 + 1)) + 1),(rd_T79 y163 x5_1).f3,(rd_T79 y163 x5_1).f4,(rd_T79 y163 x5_1).f5⟩ : S79) : List (S79))).bind fun y164 => ((some (y164.set (x5_1 : Int).toNat (⟨(rd_T79 y164 x5_1).f0,(rd_T79 y164 x5_1).f1,(rd_T79 y164 x5_1).f2,wrap64 ((wrap64 ((wrap64 (x1_1 + 1)) + 1)) + 1),(rd_T79 y164 x5_1).f4,(rd_T79 y164 x5_1).f5⟩ : S79) : List (S79))).bind fun y165 => ((some (y165.set (x5_1 : Int).toNat (⟨(rd_T79 y165 x5_1).f0,(rd_T79 y165 x5_1).f1,(rd_T79 y165 x5_1).f2,(rd_T79 y165 x5_1).f3,wrap64 ((wrap64 ((wrap64 ((wrap64 (x1_1 + 1)) + 1)) + 1)) + 1),(rd_T79 y165 x5_1).f5⟩ : S79) : List (S79))).bind fun y166 => (laws_markFlatS.l0 k1 (y166.set (x5_1 : Int).toNat (⟨(rd_T79 y166 x5_1).f0,(rd_T79 y166 x5_1).f1,(rd_T79 y166 x5_1).f2,(rd_T79 y166 x5_1).f3,(rd_T79 y166 x5_1).f4,wrap64 ((wrap64 ((wrap64 ((wrap64 ((wrap64 (x1_1 + 1)) + 1)) + 1)) + 1)) + 1)⟩ : S79)) (wrap64 ((wrap64 ((wrap64 ((wrap64 ((wrap64 ((wrap64 (x1_1 + 1)) + 1)) + 1)) + 1)) + 1)) + 1)) (wrap64 (x5_1 + 1)))))) = some (r1,r2):=by first | (rw [hy163];with_reducible exact H) | (have H2_:=(Option.bind_some _ _).symm.trans H;rw [hy163];with_reducible exact H2_) | (have H2_:=(Option.bind_some _ _).symm.trans H;with_reducible exact H2_) | with_reducible exact H | (rw [hy163];exact H) | exact H
   have Ny163:=Aside0.mk hy163
   clear hy163
   obtain ⟨y164,hy164⟩ : ∃ y_ : List (S79),y_ = (y163.set (x5_1 : Int).toNat (⟨(rd_T79 y163 x5_1).f0,(rd_T79 y163 x5_1).f1,wrap64 ((wrap64 (x1_1 + 1)) + 1),(rd_T79 y163 x5_1).f3,(rd_T79 y163 x5_1).f4,(rd_T79 y163 x5_1).f5⟩ : S79)):=⟨_,rfl⟩
   replace H : ((some (y164.set (x5_1 : Int).toNat (⟨(rd_T79 y164 x5_1).f0,(rd_T79 y164 x5_1).f1,(rd_T79 y164 x5_1).f2,wrap64 ((wrap64 ((wrap64 (x1_1 + 1)) + 1)) + 1),(rd_T79 y164 x5_1).f4,(rd_T79 y164 x5_1).f5⟩ : S79) : List (S79))).bind fun y165 => ((some (y165.set (x5_1 : Int).toNat (⟨(rd_T79 y165 x5_1).f0,(rd_T79 y165 x5_1).f1,(rd_T79 y165 x5_1).f2,(rd_T79 y165 x5_1).f3,wrap64 ((wrap64 ((wrap64 ((wrap64 (x1_1 + 1)) + 1)) + 1)) + 1),(rd_T79 y165 x5_1).f5⟩ : S79) : List (S79))).bind fun y166 => (laws_markFlatS.l0 k1 (y166.set (x5_1 : Int).toNat (⟨(rd_T79 y166 x5_1).f0,(rd_T79 y166 x5_1).f1,(rd_T79 y166 x5_1).f2,(rd_T79 y166 x5_1).f3,(rd_T79 y166 x5_1).f4,wrap64 ((wrap64 ((wrap64 ((wrap64 ((wrap64 (x1_1 + 1)) + 1)) + 1)) + 1)) + 1)⟩ : S79)) (wrap64 ((wrap64 ((wrap64 ((wrap64 ((wrap64 ((wrap64 (x1_1 + 1)) + 1)) + 1)) + 1)) + 1)) + 1)) (wrap64 (x5_1 + 1))))) = some (r1,r2):=by first | (rw [hy164];with_reducible exact H) | (have H2_:=(Option.bind_some _ _).symm.trans H;rw [hy164];with_reducible exact H2_) | (have H2_:=(Option.bind_some _ _).symm.trans H;with_reducible exact H2_) | with_reducible exact H | (rw [hy164];exact H) | exact H
   have Ny164:=Aside0.mk hy164
   clear hy164
   obtain ⟨y165,hy165⟩ : ∃ y_ : List (S79),y_ = (y164.set (x5_1 : Int).toNat (⟨(rd_T79 y164 x5_1).f0,(rd_T79 y164 x5_1).f1,(rd_T79 y164 x5_1).f2,wrap64 ((wrap64 ((wrap64 (x1_1 + 1)) + 1)) + 1),(rd_T79 y164 x5_1).f4,(rd_T79 y164 x5_1).f5⟩ : S79)):=⟨_,rfl⟩
   replace H : ((some (y165.set (x5_1 : Int).toNat (⟨(rd_T79 y165 x5_1).f0,(rd_T79 y165 x5_1).f1,(rd_T79 y165 x5_1).f2,(rd_T79 y165 x5_1).f3,wrap64 ((wrap64 ((wrap64 ((wrap64 (x1_1 + 1)) + 1)) + 1)) + 1),(rd_T79 y165 x5_1).f5⟩ : S79) : List (S79))).bind fun y166 => (laws_markFlatS.l0 k1 (y166.set (x5_1 : Int).toNat (⟨(rd_T79 y166 x5_1).f0,(rd_T79 y166 x5_1).f1,(rd_T79 y166 x5_1).f2,(rd_T79 y166 x5_1).f3,(rd_T79 y166 x5_1).f4,wrap64 ((wrap64 ((wrap64 ((wrap64 ((wrap64 (x1_1 + 1)) + 1)) + 1)) + 1)) + 1)⟩ : S79)) (wrap64 ((wrap64 ((wrap64 ((wrap64 ((wrap64 ((wrap64 (x1_1 + 1)) + 1)) + 1)) + 1)) + 1)) + 1)) (wrap64 (x5_1 + 1)))) = some (r1,r2):=by first | (rw [hy165];with_reducible exact H) | (have H2_:=(Option.bind_some _ _).symm.trans H;rw [hy165];with_reducible exact H2_) | (have H2_:=(Option.bind_some _ _).symm.trans H;with_reducible exact H2_) | with_reducible exact H | (rw [hy165];exact H) | exact H
   have Ny165:=Aside0.mk hy165
   clear hy165
   obtain ⟨y166,hy166⟩ : ∃ y_ : List (S79),y_ = (y165.set (x5_1 : Int).toNat (⟨(rd_T79 y165 x5_1).f0,(rd_T79 y165 x5_1).f1,(rd_T79 y165 x5_1).f2,(rd_T79 y165 x5_1).f3,wrap64 ((wrap64 ((wrap64 ((wrap64 (x1_1 + 1)) + 1)) + 1)) + 1),(rd_T79 y165 x5_1).f5⟩ : S79)):=⟨_,rfl⟩
   replace H : (laws_markFlatS.l0 k1 (y166.set (x5_1 : Int).toNat (⟨(rd_T79 y166 x5_1).f0,(rd_T79 y166 x5_1).f1,(rd_T79 y166 x5_1).f2,(rd_T79 y166 x5_1).f3,(rd_T79 y166 x5_1).f4,wrap64 ((wrap64 ((wrap64 ((wrap64 ((wrap64 (x1_1 + 1)) + 1)) + 1)) + 1)) + 1)⟩ : S79)) (wrap64 ((wrap64 ((wrap64 ((wrap64 ((wrap64 ((wrap64 (x1_1 + 1)) + 1)) + 1)) + 1)) + 1)) + 1)) (wrap64 (x5_1 + 1))) = some (r1,r2):=by first | (rw [hy166];with_reducible exact H) | (have H2_:=(Option.bind_some _ _).symm.trans H;rw [hy166];with_reducible exact H2_) | (have H2_:=(Option.bind_some _ _).symm.trans H;with_reducible exact H2_) | with_reducible exact H | (rw [hy166];exact H) | exact H
   have Ny166:=Aside0.mk hy166
   clear hy166
   obtain ⟨y167,hy167⟩ : ∃ y_ : List (S79),y_ = (y166.set (x5_1 : Int).toNat (⟨(rd_T79 y166 x5_1).f0,(rd_T79 y166 x5_1).f1,(rd_T79 y166 x5_1).f2,(rd_T79 y166 x5_1).f3,(rd_T79 y166 x5_1).f4,wrap64 ((wrap64 ((wrap64 ((wrap64 ((wrap64 (x1_1 + 1)) + 1)) + 1)) + 1)) + 1)⟩ : S79)):=⟨_,rfl⟩
   replace H : (laws_markFlatS.l0 k1 y167 (wrap64 ((wrap64 ((wrap64 ((wrap64 ((wrap64 ((wrap64 (x1_1 + 1)) + 1)) + 1)) + 1)) + 1)) + 1)) (wrap64 (x5_1 + 1))) = some (r1,r2):=by first | (rw [hy167];with_reducible exact H) | (have H2_:=(Option.bind_some _ _).symm.trans H;rw [hy167];with_reducible exact H2_) | (have H2_:=(Option.bind_some _ _).symm.trans H;with_reducible exact H2_) | with_reducible exact H | (rw [hy167];exact H) | exact H
   have Ny167:=Aside0.mk hy167
   clear hy167
   have H':=Aside0.mk H
   clear H
   obtain ⟨Ao11,co11,eo11⟩:=Kd.R_slice HO_0.out
   subst eo11
   have p5 : 0 ≤ (x5_1 : Int):=of_decide_eq_true (by assumption)
   have q5 : (x5_1 : Int) < ((x0_1.length : Int) : Int):=of_decide_eq_true (by assumption)
   obtain ⟨go5,co5,eo5,gb5,gl5,cl5,HG5⟩:=Kd.R_form HO_0.out (by omega)
   (first | cases eo5 | (injection eo5 with ea_ en_ ec_;(first | subst ea_ | (injection ea_ with ea_;subst ea_));subst ec_;clear en_))
   have GB5:=Aside0.mk gb5
   have GG5:=Aside0.mk HG5
   clear gb5 gl5 HG5
   have HMgo5:=Aside0.mk (show (P0_ go5 ∨ w.heap.size ≤ go5) from (HO_0.out.1 _ rfl))
   obtain ⟨ce5,hcl5,hM5,hcc5,hfr5⟩:=Kd.R_elem HO_0.out z79 (x5_1 : Int) p5 q5
   obtain rfl:=k79_openM hM5
   have hx5_0 : wr.cell? ⟨go5,(x5_1 : Int).toNat * 6,none⟩ = some (.int .i64 ((rd_T79 x0_1 x5_1).f0)):=hcc5 0 _ rfl
   have hx5_1 : wr.cell? ⟨go5,(x5_1 : Int).toNat * 6 + 1,none⟩ = some (.int .i64 ((rd_T79 x0_1 x5_1).f1)):=hcc5 1 _ rfl
   have hx5_2 : wr.cell? ⟨go5,(x5_1 : Int).toNat * 6 + 2,none⟩ = some (.int .i64 ((rd_T79 x0_1 x5_1).f2)):=hcc5 2 _ rfl
   have hx5_3 : wr.cell? ⟨go5,(x5_1 : Int).toNat * 6 + 3,none⟩ = some (.int .i64 ((rd_T79 x0_1 x5_1).f3)):=hcc5 3 _ rfl
   have hx5_4 : wr.cell? ⟨go5,(x5_1 : Int).toNat * 6 + 4,none⟩ = some (.int .i64 ((rd_T79 x0_1 x5_1).f4)):=hcc5 4 _ rfl
   have hx5_5 : wr.cell? ⟨go5,(x5_1 : Int).toNat * 6 + 5,none⟩ = some (.int .i64 ((rd_T79 x0_1 x5_1).f5)):=hcc5 5 _ rfl
   have hf5_0 : wr.frozen? ⟨go5,(x5_1 : Int).toNat * 6,none⟩ = false:=hfr5 0
   have hf5_1 : wr.frozen? ⟨go5,(x5_1 : Int).toNat * 6 + 1,none⟩ = false:=hfr5 1
   have hf5_2 : wr.frozen? ⟨go5,(x5_1 : Int).toNat * 6 + 2,none⟩ = false:=hfr5 2
   have hf5_3 : wr.frozen? ⟨go5,(x5_1 : Int).toNat * 6 + 3,none⟩ = false:=hfr5 3
   have hf5_4 : wr.frozen? ⟨go5,(x5_1 : Int).toNat * 6 + 4,none⟩ = false:=hfr5 4
   have hf5_5 : wr.frozen? ⟨go5,(x5_1 : Int).toNat * 6 + 5,none⟩ = false:=hfr5 5
   clear hcl5 hcc5 hfr5;(try clear hM5)
   replace p5:=eq_true p5
   replace q5:=eq_true q5
   have HX12:=Aside0.mk (show Kd.R k79 79 wr w0.heap.size (fun k_ => (P0_ k_ ∨ w.heap.size ≤ k_)) (.slice (some ⟨go5,0,none⟩) x0_1.length co11) x0_1 from (by (with_reducible repeat (first | apply Kd.R_alloc | apply Kd.R_drewN | apply Kd.R_drew));exact HO_0.out))
   obtain ⟨ce12,hcl12,hM12,hcc12,hfr12⟩:=Kd.R_elem HX12.out z79 (x5_1 : Int) (of_decide_eq_true (by assumption)) (by have h_ : (x5_1 : Int) < ((x0_1.length : Int) : Int):=of_decide_eq_true (by assumption);first | exact h_ | (have e_:=(Kd.R_reads' HO_0.out).1;omega) | simpa using h_)
   obtain rfl:=k79_openM hM12
   have HP12:=Kd.R_seg HX12.out (x5_1 : Int) (of_decide_eq_true (by assumption)) (by have h_ : (x5_1 : Int) < ((x0_1.length : Int) : Int):=of_decide_eq_true (by assumption);first | exact h_ | (have e_:=(Kd.R_reads' HO_0.out).1;omega) | simpa using h_) (seg:=[.int .i64 x1_1]) (j:=0) hcl12 hcc12 (show 1 ≤ 6 from by decide) (x':=(⟨x1_1,(rd_T79 x0_1 x5_1).f1,(rd_T79 x0_1 x5_1).f2,(rd_T79 x0_1 x5_1).f3,(rd_T79 x0_1 x5_1).f4,(rd_T79 x0_1 x5_1).f5⟩ : S79)) (k79_mkM _ _ _ (⟨x1_1,(rd_T79 x0_1 x5_1).f1,(rd_T79 x0_1 x5_1).f2,(rd_T79 x0_1 x5_1).f3,(rd_T79 x0_1 x5_1).f4,(rd_T79 x0_1 x5_1).f5⟩ : S79) ) (fun _ hk => hk)
   have hx12_0:=hcc12 0 _ rfl
   (try simp only [show (k79).sz = 6 from rfl,Nat.mul_one,Nat.add_zero] at hx12_0)
   have hf12_0:=hfr12 0
   (try simp only [show (k79).sz = 6 from rfl,Nat.mul_one,Nat.add_zero] at hf12_0)
   clear hcl12 hcc12 hfr12;(try clear hM12)
   go_wp2_with (first | ((with_reducible refine gate_store (t:=3) (p:=16) rfl ?_);refine store_event (t:=3) (p:=16) (v:=?vo_w13) (w1:=(wr.setCell ⟨go5,(x5_1 : Int).toNat * 6,none⟩ (.int .i64 x1_1))) ?hg ?ho ?hn ?hr ?_;(case ho => rfl);(case hg => rfl);(case hn => rfl);(case hr => first | (go_simp;done) | (go_simp;rfl));intro w13 hw;have hg : wr.grownBy w13 (some go5):=(by rw [hw];exact HP12.2);have hp_ : Kd.R k79 79 w13 w0.heap.size (fun k_ => (P0_ k_ ∨ w.heap.size ≤ k_)) (.slice (some ⟨go5,0,none⟩) x0_1.length co11) y162:=(by rw [hw,Ny162.out];exact HP12.1);clear HP12;have n0_:=Aside0.mk (hp_);have n1_:=Aside0.mk ((by rw [hw];exact below_set (HB.out) GB5.out : Below w0.heap.size w0 w13));have n2_:=Aside0.mk (Kept.of_grown (S:=(fun k_ => P0_ k_)) hg (by repeat (first | (with_reducible first | exact HK.out | apply Kept.alloc | apply Kept.drewN | apply Kept.drew) | exact HK.out)) (fun k_ e_ => (HO_0.out.1 k_ e_)));clear HO_0;clear HB;clear HK;have HO_0:=n0_;have HB:=n1_;have HK:=n2_;clear n0_ n1_ n2_;clear hg hw hp_;have p6 : 0 ≤ (x5_1 : Int):=of_decide_eq_true (by assumption);have q6 : (x5_1 : Int) < ((x0_1.length : Int) : Int):=of_decide_eq_true (by assumption);obtain ⟨ce6,hcl6,hM6,hcc6,hfr6⟩:=Kd.R_elem HO_0.out z79 (x5_1 : Int) p6 q6;obtain rfl:=k79_openM hM6;have hx6_0 : w13.cell? ⟨go5,(x5_1 : Int).toNat * 6,none⟩ = some (.int .i64 ((rd_T79 y162 x5_1).f0)):=hcc6 0 _ rfl;have hx6_1 : w13.cell? ⟨go5,(x5_1 : Int).toNat * 6 + 1,none⟩ = some (.int .i64 ((rd_T79 y162 x5_1).f1)):=hcc6 1 _ rfl;have hx6_2 : w13.cell? ⟨go5,(x5_1 : Int).toNat * 6 + 2,none⟩ = some (.int .i64 ((rd_T79 y162 x5_1).f2)):=hcc6 2 _ rfl;have hx6_3 : w13.cell? ⟨go5,(x5_1 : Int).toNat * 6 + 3,none⟩ = some (.int .i64 ((rd_T79 y162 x5_1).f3)):=hcc6 3 _ rfl;have hx6_4 : w13.cell? ⟨go5,(x5_1 : Int).toNat * 6 + 4,none⟩ = some (.int .i64 ((rd_T79 y162 x5_1).f4)):=hcc6 4 _ rfl;have hx6_5 : w13.cell? ⟨go5,(x5_1 : Int).toNat * 6 + 5,none⟩ = some (.int .i64 ((rd_T79 y162 x5_1).f5)):=hcc6 5 _ rfl;have hf6_0 : w13.frozen? ⟨go5,(x5_1 : Int).toNat * 6,none⟩ = false:=hfr6 0;have hf6_1 : w13.frozen? ⟨go5,(x5_1 : Int).toNat * 6 + 1,none⟩ = false:=hfr6 1;have hf6_2 : w13.frozen? ⟨go5,(x5_1 : Int).toNat * 6 + 2,none⟩ = false:=hfr6 2;have hf6_3 : w13.frozen? ⟨go5,(x5_1 : Int).toNat * 6 + 3,none⟩ = false:=hfr6 3;have hf6_4 : w13.frozen? ⟨go5,(x5_1 : Int).toNat * 6 + 4,none⟩ = false:=hfr6 4;have hf6_5 : w13.frozen? ⟨go5,(x5_1 : Int).toNat * 6 + 5,none⟩ = false:=hfr6 5;clear hcl6 hcc6 hfr6;(try clear hM6);replace p6:=eq_true p6;replace q6:=eq_true q6;have HX14:=Aside0.mk (show Kd.R k79 79 w13 w0.heap.size (fun k_ => (P0_ k_ ∨ w.heap.size ≤ k_)) (.slice (some ⟨go5,0,none⟩) x0_1.length co11) y162 from (by (with_reducible repeat (first | apply Kd.R_alloc | apply Kd.R_drewN | apply Kd.R_drew));exact HO_0.out));obtain ⟨ce14,hcl14,hM14,hcc14,hfr14⟩:=Kd.R_elem HX14.out z79 (x5_1 : Int) (of_decide_eq_true (by assumption)) (by have h_ : (x5_1 : Int) < ((x0_1.length : Int) : Int):=of_decide_eq_true (by assumption);first | exact h_ | (have e_:=(Kd.R_reads' HO_0.out).1;omega) | simpa using h_);obtain rfl:=k79_openM hM14;have HP14:=Kd.R_seg HX14.out (x5_1 : Int) (of_decide_eq_true (by assumption)) (by have h_ : (x5_1 : Int) < ((x0_1.length : Int) : Int):=of_decide_eq_true (by assumption);first | exact h_ | (have e_:=(Kd.R_reads' HO_0.out).1;omega) | simpa using h_) (seg:=[.int .i64 (wrap64 (x1_1 + 1))]) (j:=1) hcl14 hcc14 (show 2 ≤ 6 from by decide) (x':=(⟨(rd_T79 y162 x5_1).f0,wrap64 (x1_1 + 1),(rd_T79 y162 x5_1).f2,(rd_T79 y162 x5_1).f3,(rd_T79 y162 x5_1).f4,(rd_T79 y162 x5_1).f5⟩ : S79)) (k79_mkM _ _ _ (⟨(rd_T79 y162 x5_1).f0,wrap64 (x1_1 + 1),(rd_T79 y162 x5_1).f2,(rd_T79 y162 x5_1).f3,(rd_T79 y162 x5_1).f4,(rd_T79 y162 x5_1).f5⟩ : S79) ) (fun _ hk => hk);have hx14_1:=hcc14 1 _ rfl;(try simp only [show (k79).sz = 6 from rfl,Nat.mul_one,Nat.add_zero] at hx14_1);have hf14_1:=hfr14 1;(try simp only [show (k79).sz = 6 from rfl,Nat.mul_one,Nat.add_zero] at hf14_1);clear hcl14 hcc14 hfr14;(try clear hM14)) | ((with_reducible refine gate_store (t:=3) (p:=23) rfl ?_);refine store_event (t:=3) (p:=23) (v:=?vo_w15) (w1:=(w13.setCell ⟨go5,(x5_1 : Int).toNat * 6 + 1,none⟩ (.int .i64 (wrap64 (x1_1 + 1))))) ?hg ?ho ?hn ?hr ?_;(case ho => rfl);(case hg => rfl);(case hn => rfl);(case hr => first | (go_simp;done) | (go_simp;rfl));intro w15 hw;have hg : w13.grownBy w15 (some go5):=(by rw [hw];exact HP14.2);have hp_ : Kd.R k79 79 w15 w0.heap.size (fun k_ => (P0_ k_ ∨ w.heap.size ≤ k_)) (.slice (some ⟨go5,0,none⟩) x0_1.length co11) y163:=(by rw [hw,Ny163.out];exact HP14.1);clear HP14;have n0_:=Aside0.mk (hp_);have n1_:=Aside0.mk ((by rw [hw];exact below_set (HB.out) GB5.out : Below w0.heap.size w0 w15));have n2_:=Aside0.mk (Kept.of_grown (S:=(fun k_ => P0_ k_)) hg (by repeat (first | (with_reducible first | exact HK.out | apply Kept.alloc | apply Kept.drewN | apply Kept.drew) | exact HK.out)) (fun k_ e_ => (HO_0.out.1 k_ e_)));clear HO_0;clear HB;clear HK;have HO_0:=n0_;have HB:=n1_;have HK:=n2_;clear n0_ n1_ n2_;clear hg hw hp_;have p7 : 0 ≤ (x5_1 : Int):=of_decide_eq_true (by assumption);have q7 : (x5_1 : Int) < ((x0_1.length : Int) : Int):=of_decide_eq_true (by assumption);obtain ⟨ce7,hcl7,hM7,hcc7,hfr7⟩:=Kd.R_elem HO_0.out z79 (x5_1 : Int) p7 q7;obtain rfl:=k79_openM hM7;have hx7_0 : w15.cell? ⟨go5,(x5_1 : Int).toNat * 6,none⟩ = some (.int .i64 ((rd_T79 y163 x5_1).f0)):=hcc7 0 _ rfl;have hx7_1 : w15.cell? ⟨go5,(x5_1 : Int).toNat * 6 + 1,none⟩ = some (.int .i64 ((rd_T79 y163 x5_1).f1)):=hcc7 1 _ rfl;have hx7_2 : w15.cell? ⟨go5,(x5_1 : Int).toNat * 6 + 2,none⟩ = some (.int .i64 ((rd_T79 y163 x5_1).f2)):=hcc7 2 _ rfl;have hx7_3 : w15.cell? ⟨go5,(x5_1 : Int).toNat * 6 + 3,none⟩ = some (.int .i64 ((rd_T79 y163 x5_1).f3)):=hcc7 3 _ rfl;have hx7_4 : w15.cell? ⟨go5,(x5_1 : Int).toNat * 6 + 4,none⟩ = some (.int .i64 ((rd_T79 y163 x5_1).f4)):=hcc7 4 _ rfl;have hx7_5 : w15.cell? ⟨go5,(x5_1 : Int).toNat * 6 + 5,none⟩ = some (.int .i64 ((rd_T79 y163 x5_1).f5)):=hcc7 5 _ rfl;have hf7_0 : w15.frozen? ⟨go5,(x5_1 : Int).toNat * 6,none⟩ = false:=hfr7 0;have hf7_1 : w15.frozen? ⟨go5,(x5_1 : Int).toNat * 6 + 1,none⟩ = false:=hfr7 1;have hf7_2 : w15.frozen? ⟨go5,(x5_1 : Int).toNat * 6 + 2,none⟩ = false:=hfr7 2;have hf7_3 : w15.frozen? ⟨go5,(x5_1 : Int).toNat * 6 + 3,none⟩ = false:=hfr7 3;have hf7_4 : w15.frozen? ⟨go5,(x5_1 : Int).toNat * 6 + 4,none⟩ = false:=hfr7 4;have hf7_5 : w15.frozen? ⟨go5,(x5_1 : Int).toNat * 6 + 5,none⟩ = false:=hfr7 5;clear hcl7 hcc7 hfr7;(try clear hM7);replace p7:=eq_true p7;replace q7:=eq_true q7;have HX16:=Aside0.mk (show Kd.R k79 79 w15 w0.heap.size (fun k_ => (P0_ k_ ∨ w.heap.size ≤ k_)) (.slice (some ⟨go5,0,none⟩) x0_1.length co11) y163 from (by (with_reducible repeat (first | apply Kd.R_alloc | apply Kd.R_drewN | apply Kd.R_drew));exact HO_0.out));obtain ⟨ce16,hcl16,hM16,hcc16,hfr16⟩:=Kd.R_elem HX16.out z79 (x5_1 : Int) (of_decide_eq_true (by assumption)) (by have h_ : (x5_1 : Int) < ((x0_1.length : Int) : Int):=of_decide_eq_true (by assumption);first | exact h_ | (have e_:=(Kd.R_reads' HO_0.out).1;omega) | simpa using h_);obtain rfl:=k79_openM hM16;have HP16:=Kd.R_seg HX16.out (x5_1 : Int) (of_decide_eq_true (by assumption)) (by have h_ : (x5_1 : Int) < ((x0_1.length : Int) : Int):=of_decide_eq_true (by assumption);first | exact h_ | (have e_:=(Kd.R_reads' HO_0.out).1;omega) | simpa using h_) (seg:=[.int .i64 (wrap64 ((wrap64 (x1_1 + 1)) + 1))]) (j:=2) hcl16 hcc16 (show 3 ≤ 6 from by decide) (x':=(⟨(rd_T79 y163 x5_1).f0,(rd_T79 y163 x5_1).f1,wrap64 ((wrap64 (x1_1 + 1)) + 1),(rd_T79 y163 x5_1).f3,(rd_T79 y163 x5_1).f4,(rd_T79 y163 x5_1).f5⟩ : S79)) (k79_mkM _ _ _ (⟨(rd_T79 y163 x5_1).f0,(rd_T79 y163 x5_1).f1,wrap64 ((wrap64 (x1_1 + 1)) + 1),(rd_T79 y163 x5_1).f3,(rd_T79 y163 x5_1).f4,(rd_T79 y163 x5_1).f5⟩ : S79) ) (fun _ hk => hk);have hx16_2:=hcc16 2 _ rfl;(try simp only [show (k79).sz = 6 from rfl,Nat.mul_one,Nat.add_zero] at hx16_2);have hf16_2:=hfr16 2;(try simp only [show (k79).sz = 6 from rfl,Nat.mul_one,Nat.add_zero] at hf16_2);clear hcl16 hcc16 hfr16;(try clear hM16)) | ((with_reducible refine gate_store (t:=3) (p:=30) rfl ?_);refine store_event (t:=3) (p:=30) (v:=?vo_w17) (w1:=(w15.setCell ⟨go5,(x5_1 : Int).toNat * 6 + 2,none⟩ (.int .i64 (wrap64 ((wrap64 (x1_1 + 1)) + 1))))) ?hg ?ho ?hn ?hr ?_;(case ho => rfl);(case hg => rfl);(case hn => rfl);(case hr => first | (go_simp;done) | (go_simp;rfl));intro w17 hw;have hg : w15.grownBy w17 (some go5):=(by rw [hw];exact HP16.2);have hp_ : Kd.R k79 79 w17 w0.heap.size (fun k_ => (P0_ k_ ∨ w.heap.size ≤ k_)) (.slice (some ⟨go5,0,none⟩) x0_1.length co11) y164:=(by rw [hw,Ny164.out];exact HP16.1);clear HP16;have n0_:=Aside0.mk (hp_);have n1_:=Aside0.mk ((by rw [hw];exact below_set (HB.out) GB5.out : Below w0.heap.size w0 w17));have n2_:=Aside0.mk (Kept.of_grown (S:=(fun k_ => P0_ k_)) hg (by repeat (first | (with_reducible first | exact HK.out | apply Kept.alloc | apply Kept.drewN | apply Kept.drew) | exact HK.out)) (fun k_ e_ => (HO_0.out.1 k_ e_)));clear HO_0;clear HB;clear HK;have HO_0:=n0_;have HB:=n1_;have HK:=n2_;clear n0_ n1_ n2_;clear hg hw hp_;have p8 : 0 ≤ (x5_1 : Int):=of_decide_eq_true (by assumption);have q8 : (x5_1 : Int) < ((x0_1.length : Int) : Int):=of_decide_eq_true (by assumption);obtain ⟨ce8,hcl8,hM8,hcc8,hfr8⟩:=Kd.R_elem HO_0.out z79 (x5_1 : Int) p8 q8;obtain rfl:=k79_openM hM8;have hx8_0 : w17.cell? ⟨go5,(x5_1 : Int).toNat * 6,none⟩ = some (.int .i64 ((rd_T79 y164 x5_1).f0)):=hcc8 0 _ rfl;have hx8_1 : w17.cell? ⟨go5,(x5_1 : Int).toNat * 6 + 1,none⟩ = some (.int .i64 ((rd_T79 y164 x5_1).f1)):=hcc8 1 _ rfl;have hx8_2 : w17.cell? ⟨go5,(x5_1 : Int).toNat * 6 + 2,none⟩ = some (.int .i64 ((rd_T79 y164 x5_1).f2)):=hcc8 2 _ rfl;have hx8_3 : w17.cell? ⟨go5,(x5_1 : Int).toNat * 6 + 3,none⟩ = some (.int .i64 ((rd_T79 y164 x5_1).f3)):=hcc8 3 _ rfl;have hx8_4 : w17.cell? ⟨go5,(x5_1 : Int).toNat * 6 + 4,none⟩ = some (.int .i64 ((rd_T79 y164 x5_1).f4)):=hcc8 4 _ rfl;have hx8_5 : w17.cell? ⟨go5,(x5_1 : Int).toNat * 6 + 5,none⟩ = some (.int .i64 ((rd_T79 y164 x5_1).f5)):=hcc8 5 _ rfl;have hf8_0 : w17.frozen? ⟨go5,(x5_1 : Int).toNat * 6,none⟩ = false:=hfr8 0;have hf8_1 : w17.frozen? ⟨go5,(x5_1 : Int).toNat * 6 + 1,none⟩ = false:=hfr8 1;have hf8_2 : w17.frozen? ⟨go5,(x5_1 : Int).toNat * 6 + 2,none⟩ = false:=hfr8 2;have hf8_3 : w17.frozen? ⟨go5,(x5_1 : Int).toNat * 6 + 3,none⟩ = false:=hfr8 3;have hf8_4 : w17.frozen? ⟨go5,(x5_1 : Int).toNat * 6 + 4,none⟩ = false:=hfr8 4;have hf8_5 : w17.frozen? ⟨go5,(x5_1 : Int).toNat * 6 + 5,none⟩ = false:=hfr8 5;clear hcl8 hcc8 hfr8;(try clear hM8);replace p8:=eq_true p8;replace q8:=eq_true q8;have HX18:=Aside0.mk (show Kd.R k79 79 w17 w0.heap.size (fun k_ => (P0_ k_ ∨ w.heap.size ≤ k_)) (.slice (some ⟨go5,0,none⟩) x0_1.length co11) y164 from (by (with_reducible repeat (first | apply Kd.R_alloc | apply Kd.R_drewN | apply Kd.R_drew));exact HO_0.out));obtain ⟨ce18,hcl18,hM18,hcc18,hfr18⟩:=Kd.R_elem HX18.out z79 (x5_1 : Int) (of_decide_eq_true (by assumption)) (by have h_ : (x5_1 : Int) < ((x0_1.length : Int) : Int):=of_decide_eq_true (by assumption);first | exact h_ | (have e_:=(Kd.R_reads' HO_0.out).1;omega) | simpa using h_);obtain rfl:=k79_openM hM18;have HP18:=Kd.R_seg HX18.out (x5_1 : Int) (of_decide_eq_true (by assumption)) (by have h_ : (x5_1 : Int) < ((x0_1.length : Int) : Int):=of_decide_eq_true (by assumption);first | exact h_ | (have e_:=(Kd.R_reads' HO_0.out).1;omega) | simpa using h_) (seg:=[.int .i64 (wrap64 ((wrap64 ((wrap64 (x1_1 + 1)) + 1)) + 1))]) (j:=3) hcl18 hcc18 (show 4 ≤ 6 from by decide) (x':=(⟨(rd_T79 y164 x5_1).f0,(rd_T79 y164 x5_1).f1,(rd_T79 y164 x5_1).f2,wrap64 ((wrap64 ((wrap64 (x1_1 + 1)) + 1)) + 1),(rd_T79 y164 x5_1).f4,(rd_T79 y164 x5_1).f5⟩ : S79)) (k79_mkM _ _ _ (⟨(rd_T79 y164 x5_1).f0,(rd_T79 y164 x5_1).f1,(rd_T79 y164 x5_1).f2,wrap64 ((wrap64 ((wrap64 (x1_1 + 1)) + 1)) + 1),(rd_T79 y164 x5_1).f4,(rd_T79 y164 x5_1).f5⟩ : S79) ) (fun _ hk => hk);have hx18_3:=hcc18 3 _ rfl;(try simp only [show (k79).sz = 6 from rfl,Nat.mul_one,Nat.add_zero] at hx18_3);have hf18_3:=hfr18 3;(try simp only [show (k79).sz = 6 from rfl,Nat.mul_one,Nat.add_zero] at hf18_3);clear hcl18 hcc18 hfr18;(try clear hM18)) | ((with_reducible refine gate_store (t:=3) (p:=37) rfl ?_);refine store_event (t:=3) (p:=37) (v:=?vo_w19) (w1:=(w17.setCell ⟨go5,(x5_1 : Int).toNat * 6 + 3,none⟩ (.int .i64 (wrap64 ((wrap64 ((wrap64 (x1_1 + 1)) + 1)) + 1))))) ?hg ?ho ?hn ?hr ?_;(case ho => rfl);(case hg => rfl);(case hn => rfl);(case hr => first | (go_simp;done) | (go_simp;rfl));intro w19 hw;have hg : w17.grownBy w19 (some go5):=(by rw [hw];exact HP18.2);have hp_ : Kd.R k79 79 w19 w0.heap.size (fun k_ => (P0_ k_ ∨ w.heap.size ≤ k_)) (.slice (some ⟨go5,0,none⟩) x0_1.length co11) y165:=(by rw [hw,Ny165.out];exact HP18.1);clear HP18;have n0_:=Aside0.mk (hp_);have n1_:=Aside0.mk ((by rw [hw];exact below_set (HB.out) GB5.out : Below w0.heap.size w0 w19));have n2_:=Aside0.mk (Kept.of_grown (S:=(fun k_ => P0_ k_)) hg (by repeat (first | (with_reducible first | exact HK.out | apply Kept.alloc | apply Kept.drewN | apply Kept.drew) | exact HK.out)) (fun k_ e_ => (HO_0.out.1 k_ e_)));clear HO_0;clear HB;clear HK;have HO_0:=n0_;have HB:=n1_;have HK:=n2_;clear n0_ n1_ n2_;clear hg hw hp_;have p9 : 0 ≤ (x5_1 : Int):=of_decide_eq_true (by assumption);have q9 : (x5_1 : Int) < ((x0_1.length : Int) : Int):=of_decide_eq_true (by assumption);obtain ⟨ce9,hcl9,hM9,hcc9,hfr9⟩:=Kd.R_elem HO_0.out z79 (x5_1 : Int) p9 q9;obtain rfl:=k79_openM hM9;have hx9_0 : w19.cell? ⟨go5,(x5_1 : Int).toNat * 6,none⟩ = some (.int .i64 ((rd_T79 y165 x5_1).f0)):=hcc9 0 _ rfl;have hx9_1 : w19.cell? ⟨go5,(x5_1 : Int).toNat * 6 + 1,none⟩ = some (.int .i64 ((rd_T79 y165 x5_1).f1)):=hcc9 1 _ rfl;have hx9_2 : w19.cell? ⟨go5,(x5_1 : Int).toNat * 6 + 2,none⟩ = some (.int .i64 ((rd_T79 y165 x5_1).f2)):=hcc9 2 _ rfl;have hx9_3 : w19.cell? ⟨go5,(x5_1 : Int).toNat * 6 + 3,none⟩ = some (.int .i64 ((rd_T79 y165 x5_1).f3)):=hcc9 3 _ rfl;have hx9_4 : w19.cell? ⟨go5,(x5_1 : Int).toNat * 6 + 4,none⟩ = some (.int .i64 ((rd_T79 y165 x5_1).f4)):=hcc9 4 _ rfl;have hx9_5 : w19.cell? ⟨go5,(x5_1 : Int).toNat * 6 + 5,none⟩ = some (.int .i64 ((rd_T79 y165 x5_1).f5)):=hcc9 5 _ rfl;have hf9_0 : w19.frozen? ⟨go5,(x5_1 : Int).toNat * 6,none⟩ = false:=hfr9 0;have hf9_1 : w19.frozen? ⟨go5,(x5_1 : Int).toNat * 6 + 1,none⟩ = false:=hfr9 1;have hf9_2 : w19.frozen? ⟨go5,(x5_1 : Int).toNat * 6 + 2,none⟩ = false:=hfr9 2;have hf9_3 : w19.frozen? ⟨go5,(x5_1 : Int).toNat * 6 + 3,none⟩ = false:=hfr9 3;have hf9_4 : w19.frozen? ⟨go5,(x5_1 : Int).toNat * 6 + 4,none⟩ = false:=hfr9 4;have hf9_5 : w19.frozen? ⟨go5,(x5_1 : Int).toNat * 6 + 5,none⟩ = false:=hfr9 5;clear hcl9 hcc9 hfr9;(try clear hM9);replace p9:=eq_true p9;replace q9:=eq_true q9;have HX20:=Aside0.mk (show Kd.R k79 79 w19 w0.heap.size (fun k_ => (P0_ k_ ∨ w.heap.size ≤ k_)) (.slice (some ⟨go5,0,none⟩) x0_1.length co11) y165 from (by (with_reducible repeat (first | apply Kd.R_alloc | apply Kd.R_drewN | apply Kd.R_drew));exact HO_0.out));obtain ⟨ce20,hcl20,hM20,hcc20,hfr20⟩:=Kd.R_elem HX20.out z79 (x5_1 : Int) (of_decide_eq_true (by assumption)) (by have h_ : (x5_1 : Int) < ((x0_1.length : Int) : Int):=of_decide_eq_true (by assumption);first | exact h_ | (have e_:=(Kd.R_reads' HO_0.out).1;omega) | simpa using h_);obtain rfl:=k79_openM hM20;have HP20:=Kd.R_seg HX20.out (x5_1 : Int) (of_decide_eq_true (by assumption)) (by have h_ : (x5_1 : Int) < ((x0_1.length : Int) : Int):=of_decide_eq_true (by assumption);first | exact h_ | (have e_:=(Kd.R_reads' HO_0.out).1;omega) | simpa using h_) (seg:=[.int .i64 (wrap64 ((wrap64 ((wrap64 ((wrap64 (x1_1 + 1)) + 1)) + 1)) + 1))]) (j:=4) hcl20 hcc20 (show 5 ≤ 6 from by decide) (x':=(⟨(rd_T79 y165 x5_1).f0,(rd_T79 y165 x5_1).f1,(rd_T79 y165 x5_1).f2,(rd_T79 y165 x5_1).f3,wrap64 ((wrap64 ((wrap64 ((wrap64 (x1_1 + 1)) + 1)) + 1)) + 1),(rd_T79 y165 x5_1).f5⟩ : S79)) (k79_mkM _ _ _ (⟨(rd_T79 y165 x5_1).f0,(rd_T79 y165 x5_1).f1,(rd_T79 y165 x5_1).f2,(rd_T79 y165 x5_1).f3,wrap64 ((wrap64 ((wrap64 ((wrap64 (x1_1 + 1)) + 1)) + 1)) + 1),(rd_T79 y165 x5_1).f5⟩ : S79) ) (fun _ hk => hk);have hx20_4:=hcc20 4 _ rfl;(try simp only [show (k79).sz = 6 from rfl,Nat.mul_one,Nat.add_zero] at hx20_4);have hf20_4:=hfr20 4;(try simp only [show (k79).sz = 6 from rfl,Nat.mul_one,Nat.add_zero] at hf20_4);clear hcl20 hcc20 hfr20;(try clear hM20)) | ((with_reducible refine gate_store (t:=3) (p:=44) rfl ?_);refine store_event (t:=3) (p:=44) (v:=?vo_w21) (w1:=(w19.setCell ⟨go5,(x5_1 : Int).toNat * 6 + 4,none⟩ (.int .i64 (wrap64 ((wrap64 ((wrap64 ((wrap64 (x1_1 + 1)) + 1)) + 1)) + 1))))) ?hg ?ho ?hn ?hr ?_;(case ho => rfl);(case hg => rfl);(case hn => rfl);(case hr => first | (go_simp;done) | (go_simp;rfl));intro w21 hw;have hg : w19.grownBy w21 (some go5):=(by rw [hw];exact HP20.2);have hp_ : Kd.R k79 79 w21 w0.heap.size (fun k_ => (P0_ k_ ∨ w.heap.size ≤ k_)) (.slice (some ⟨go5,0,none⟩) x0_1.length co11) y166:=(by rw [hw,Ny166.out];exact HP20.1);clear HP20;have n0_:=Aside0.mk (hp_);have n1_:=Aside0.mk ((by rw [hw];exact below_set (HB.out) GB5.out : Below w0.heap.size w0 w21));have n2_:=Aside0.mk (Kept.of_grown (S:=(fun k_ => P0_ k_)) hg (by repeat (first | (with_reducible first | exact HK.out | apply Kept.alloc | apply Kept.drewN | apply Kept.drew) | exact HK.out)) (fun k_ e_ => (HO_0.out.1 k_ e_)));clear HO_0;clear HB;clear HK;have HO_0:=n0_;have HB:=n1_;have HK:=n2_;clear n0_ n1_ n2_;clear hg hw hp_;have p10 : 0 ≤ (x5_1 : Int):=of_decide_eq_true (by assumption);have q10 : (x5_1 : Int) < ((x0_1.length : Int) : Int):=of_decide_eq_true (by assumption);obtain ⟨ce10,hcl10,hM10,hcc10,hfr10⟩:=Kd.R_elem HO_0.out z79 (x5_1 : Int) p10 q10;obtain rfl:=k79_openM hM10;have hx10_0 : w21.cell? ⟨go5,(x5_1 : Int).toNat * 6,none⟩ = some (.int .i64 ((rd_T79 y166 x5_1).f0)):=hcc10 0 _ rfl;have hx10_1 : w21.cell? ⟨go5,(x5_1 : Int).toNat * 6 + 1,none⟩ = some (.int .i64 ((rd_T79 y166 x5_1).f1)):=hcc10 1 _ rfl;have hx10_2 : w21.cell? ⟨go5,(x5_1 : Int).toNat * 6 + 2,none⟩ = some (.int .i64 ((rd_T79 y166 x5_1).f2)):=hcc10 2 _ rfl;have hx10_3 : w21.cell? ⟨go5,(x5_1 : Int).toNat * 6 + 3,none⟩ = some (.int .i64 ((rd_T79 y166 x5_1).f3)):=hcc10 3 _ rfl;have hx10_4 : w21.cell? ⟨go5,(x5_1 : Int).toNat * 6 + 4,none⟩ = some (.int .i64 ((rd_T79 y166 x5_1).f4)):=hcc10 4 _ rfl;have hx10_5 : w21.cell? ⟨go5,(x5_1 : Int).toNat * 6 + 5,none⟩ = some (.int .i64 ((rd_T79 y166 x5_1).f5)):=hcc10 5 _ rfl;have hf10_0 : w21.frozen? ⟨go5,(x5_1 : Int).toNat * 6,none⟩ = false:=hfr10 0;have hf10_1 : w21.frozen? ⟨go5,(x5_1 : Int).toNat * 6 + 1,none⟩ = false:=hfr10 1;have hf10_2 : w21.frozen? ⟨go5,(x5_1 : Int).toNat * 6 + 2,none⟩ = false:=hfr10 2;have hf10_3 : w21.frozen? ⟨go5,(x5_1 : Int).toNat * 6 + 3,none⟩ = false:=hfr10 3;have hf10_4 : w21.frozen? ⟨go5,(x5_1 : Int).toNat * 6 + 4,none⟩ = false:=hfr10 4;have hf10_5 : w21.frozen? ⟨go5,(x5_1 : Int).toNat * 6 + 5,none⟩ = false:=hfr10 5;clear hcl10 hcc10 hfr10;(try clear hM10);replace p10:=eq_true p10;replace q10:=eq_true q10;have HX22:=Aside0.mk (show Kd.R k79 79 w21 w0.heap.size (fun k_ => (P0_ k_ ∨ w.heap.size ≤ k_)) (.slice (some ⟨go5,0,none⟩) x0_1.length co11) y166 from (by (with_reducible repeat (first | apply Kd.R_alloc | apply Kd.R_drewN | apply Kd.R_drew));exact HO_0.out));obtain ⟨ce22,hcl22,hM22,hcc22,hfr22⟩:=Kd.R_elem HX22.out z79 (x5_1 : Int) (of_decide_eq_true (by assumption)) (by have h_ : (x5_1 : Int) < ((x0_1.length : Int) : Int):=of_decide_eq_true (by assumption);first | exact h_ | (have e_:=(Kd.R_reads' HO_0.out).1;omega) | simpa using h_);obtain rfl:=k79_openM hM22;have HP22:=Kd.R_seg HX22.out (x5_1 : Int) (of_decide_eq_true (by assumption)) (by have h_ : (x5_1 : Int) < ((x0_1.length : Int) : Int):=of_decide_eq_true (by assumption);first | exact h_ | (have e_:=(Kd.R_reads' HO_0.out).1;omega) | simpa using h_) (seg:=[.int .i64 (wrap64 ((wrap64 ((wrap64 ((wrap64 ((wrap64 (x1_1 + 1)) + 1)) + 1)) + 1)) + 1))]) (j:=5) hcl22 hcc22 (show 6 ≤ 6 from by decide) (x':=(⟨(rd_T79 y166 x5_1).f0,(rd_T79 y166 x5_1).f1,(rd_T79 y166 x5_1).f2,(rd_T79 y166 x5_1).f3,(rd_T79 y166 x5_1).f4,wrap64 ((wrap64 ((wrap64 ((wrap64 ((wrap64 (x1_1 + 1)) + 1)) + 1)) + 1)) + 1)⟩ : S79)) (k79_mkM _ _ _ (⟨(rd_T79 y166 x5_1).f0,(rd_T79 y166 x5_1).f1,(rd_T79 y166 x5_1).f2,(rd_T79 y166 x5_1).f3,(rd_T79 y166 x5_1).f4,wrap64 ((wrap64 ((wrap64 ((wrap64 ((wrap64 (x1_1 + 1)) + 1)) + 1)) + 1)) + 1)⟩ : S79) ) (fun _ hk => hk);have hx22_5:=hcc22 5 _ rfl;(try simp only [show (k79).sz = 6 from rfl,Nat.mul_one,Nat.add_zero] at hx22_5);have hf22_5:=hfr22 5;(try simp only [show (k79).sz = 6 from rfl,Nat.mul_one,Nat.add_zero] at hf22_5);clear hcl22 hcc22 hfr22;(try clear hM22)) | ((with_reducible refine gate_store (t:=3) (p:=51) rfl ?_);refine store_event (t:=3) (p:=51) (v:=?vo_w23) (w1:=(w21.setCell ⟨go5,(x5_1 : Int).toNat * 6 + 5,none⟩ (.int .i64 (wrap64 ((wrap64 ((wrap64 ((wrap64 ((wrap64 (x1_1 + 1)) + 1)) + 1)) + 1)) + 1))))) ?hg ?ho ?hn ?hr ?_;(case ho => rfl);(case hg => rfl);(case hn => rfl);(case hr => first | (go_simp;done) | (go_simp;rfl));intro w23 hw;have hg : w21.grownBy w23 (some go5):=(by rw [hw];exact HP22.2);have hp_ : Kd.R k79 79 w23 w0.heap.size (fun k_ => (P0_ k_ ∨ w.heap.size ≤ k_)) (.slice (some ⟨go5,0,none⟩) x0_1.length co11) y167:=(by rw [hw,Ny167.out];exact HP22.1);clear HP22;have n0_:=Aside0.mk (hp_);have n1_:=Aside0.mk ((by rw [hw];exact below_set (HB.out) GB5.out : Below w0.heap.size w0 w23));have n2_:=Aside0.mk (Kept.of_grown (S:=(fun k_ => P0_ k_)) hg (by repeat (first | (with_reducible first | exact HK.out | apply Kept.alloc | apply Kept.drewN | apply Kept.drew) | exact HK.out)) (fun k_ e_ => (HO_0.out.1 k_ e_)));clear HO_0;clear HB;clear HK;have HO_0:=n0_;have HB:=n1_;have HK:=n2_;clear n0_ n1_ n2_;clear hg hw hp_))
   go_roundg k1
   case measure => have:=HK1.out;omega
   case rel => exact ⟨(y167),(wrap64 ((wrap64 ((wrap64 ((wrap64 ((wrap64 ((wrap64 (x1_1 + 1)) + 1)) + 1)) + 1)) + 1)) + 1)),(wrap64 (x5_1 + 1)),(by first | rfl | (simp;done) | (simp [*];done)),(by first | rfl | (simp;done) | (simp [*];done)),H',⟨by have:=HK1.out;omega⟩,⟨by (with_reducible repeat (first | apply Kd.R_alloc | apply Kd.R_drewN | apply Kd.R_drew));exact HO_0.out⟩,⟨by repeat (first | (with_reducible first | exact HK.out | apply Kept.alloc | apply Kept.drewN | apply Kept.drew) | exact HK.out)⟩,⟨by repeat (with_reducible first | exact HB.out | apply below_alloc | apply pw_below_drewN | apply below_drew1)⟩⟩

end Go.Proofs.Ythgkhfhfahifmaa.Q
