-- WRITTEN BY A PROGRAM OF THIS SESSION
import Derived.Test.YthgkhfhfahifmaaQ0
import Derived.Test.YthgkhfhfahifmaaQ10
import Derived.Test.YthgkhfhfahifmaaQ11
namespace Go.Proofs.Ythgkhfhfahifmaa.Q
open Go.RowKit Go.Proofs.YthgkhfhfahifmaaW.PrintWords Go.Proofs.YthgkhfhfahifmaaW.PrintLast Go.Proofs.YthgkhfhfahifmaaW.PrintMore
attribute [local go_sem] max2_int min2_int max_two min_two max_three min_three max_four min_four   -- for this text's walks alone
set_option linter.unusedVariables false
set_option linter.unusedSimpArgs false

/-! ### impl_goOK: function 43 (by hand: a literal that captures how many blocks there are) -/
/-- The literal: whether a number is none of a block. -/
def impl_goOK_1.f (k : Nat) (n : Int) (x : Int) : Option Bool:=(impl_within.f x 0 (wrap64 (n - 1))).bind fun t => some (!t)
theorem impl_goOK_1.mono : ∀ a0 a1 k,LeO (impl_goOK_1.f k a0 a1) (impl_goOK_1.f (k + 1) a0 a1):=fun _ _ _ => LeO.refl _
set_option maxHeartbeats 8000000 in
set_option maxRecDepth 100000 in
theorem impl_goOK_1.calls (k : Nat) (b : Nat) (n : Int) (x : Int) (r : Bool) (w : World) (hbox : w.heap[b]? = some (.cells #[.int .i64 n] 3 (0,0))) (h : impl_goOK_1.f k n x = some r) :
  Calls Try.prog 72 #[.int .i64 x,.pointer (some ⟨b,0,none⟩)] w fun e w' => e = .returned (.bool r) ∧ Drawn0 w w':=by
 obtain ⟨t,A1_,H⟩:=Option.bind_eq_some_iff.mp h
 obtain rfl:=Option.some.inj H
 have A:=Aside0.mk A1_
 clear h H A1_
 have hcz : w.cell? ⟨b,0,none⟩ = some (.int .i64 n):=(blk_cell hbox 0).trans rfl
 have hfz:=blk_frozen hbox 0
 clear hbox
 go_enter Try.func72,Try.ntmps72
 go_wp2_with (first | (go_at_call 39;(with_reducible refine (impl_within.calls x 0 (wrap64 (n - 1)) t w A.out).mono ?_);rintro e w' ⟨rfl,⟨nd,rfl⟩⟩))
 go_ret
 exact ⟨rfl,⟨nd,rfl⟩⟩
/-- slices.IndexFunc with that literal. -/
def impl_goOK_1_ix.l0 : Nat → Int → List Int → Int → Option Int
 | 0,_,__,_ => none
 | k + 1,n,xs,i => if i < (xs.length : Int) then (if 0 ≤ i then ((impl_goOK_1.f k n  (rd xs i)).bind fun t => (if t = true then (some i) else (impl_goOK_1_ix.l0 k n xs (wrap64 (i + 1))))) else none) else some (-1)
theorem impl_goOK_1_ix.mono_l : ∀ k,∀ y0 y1 y2,LeO (impl_goOK_1_ix.l0 k y0 y1 y2) (impl_goOK_1_ix.l0 (k + 1) y0 y1 y2)
 | 0 => fun _ _ _ r h => by simp [impl_goOK_1_ix.l0] at h
 | k + 1 => by
  have ih0:=impl_goOK_1_ix.mono_l k
  intro y0 y1 y2
  unfold impl_goOK_1_ix.l0
  repeat' first
   | (with_reducible exact ih0 _ _ _)
   | (with_reducible exact impl_goOK_1.mono _ _ _)
   | (with_reducible exact LeO.refl _)
   | (with_reducible exact LeO.none _)
   | (with_reducible refine LeO.ite ?_ ?_)
   | (with_reducible refine LeO.bind ?_ (fun _ => ?_))
theorem impl_goOK_1_ix.mono : ∀ y0 y1 y2 k,LeO (impl_goOK_1_ix.l0 k y0 y1 y2) (impl_goOK_1_ix.l0 (k + 1) y0 y1 y2):=fun y0 y1 y2 k => impl_goOK_1_ix.mono_l k y0 y1 y2
set_option maxHeartbeats 8000000 in
set_option maxRecDepth 100000 in
theorem impl_goOK_1_ix.calls (k : Nat) (b : Nat) (n : Int) (A1 : Option Addr) (c1 : Nat) (xs : List Int) (r : Int) (w : World) (hbox : w.heap[b]? = some (.cells #[.int .i64 n] 3 (0,0))) (hr1 : Kd.C (Kd.int .i64) w A1 xs.length xs) (h : impl_goOK_1_ix.l0 k n xs 0 = some r) :
  Calls Try.prog 90 #[.slice A1 xs.length c1,.func (.func 72) #[] #[.pointer (some ⟨b,0,none⟩)]] w fun e w' => e = .returned (.int .i64 r) ∧ Drawn0 w w':=by
 have HR0:=Aside0.mk hr1
 have HBX:=Aside0.mk hbox
 have H':=Aside0.mk h
 clear hr1 hbox h
 go_enter Try.func90,Try.ntmps90
 go_wp2
 go_loopg [8] k (fun kq v8 w' => ∃ (x8_1 : Int),v8 = .int .i64 x8_1 ∧ Aside0 (impl_goOK_1_ix.l0 kq n  xs x8_1 = some r) ∧ Aside0 (kq ≤ k) ∧ Drawn0 w w')
 case atStart => exact ⟨0,rfl,H',⟨Nat.le_refl _⟩,Drawn0.refl _⟩
 case round =>
  clear H'
  obtain ⟨x8_1,rfl,HA,HK1,⟨m1,rfl⟩⟩:=hrel
  cases gk with
  | zero => exact absurd HA.out (by simp [impl_goOK_1_ix.l0])
  | succ k1 =>
   have H:=HA.out
   clear HA
   simp only [impl_goOK_1_ix.l0] at H
   by_cases c3 : x8_1 < (xs.length : Int)
   rotate_left
   ·rw [if_neg c3] at H
    have c3b0 : decide (x8_1 < (xs.length : Int)) = false:=decide_eq_false c3
    clear c3
    obtain rfl:=Option.some.inj H
    go_wp2
    go_ret
    exact ⟨rfl,by repeat (first | exact Drawn0.refl _ | apply Drawn0.step)⟩
   rw [if_pos c3] at H
   have c3b0 : decide (x8_1 < (xs.length : Int)) = true:=decide_eq_true c3
   by_cases c4 : 0 ≤ x8_1
   rotate_left
   ·rw [if_neg c4] at H
    exact absurd H (by simp)
   rw [if_pos c4] at H
   have c4b0 : decide (0 ≤ x8_1) = true:=decide_eq_true c4
   obtain ⟨t,A60,H⟩:=Option.bind_eq_some_iff.mp H
   obtain ⟨ad,eA,hx0⟩:=Kd.at_int HR0.out x8_1 c4 c3
   obtain ⟨y,hy⟩ : ∃ y,y = rd xs x8_1:=⟨_,rfl⟩
   rw [← hy] at hx0 A60
   cases eA
   have A6:=Aside0.mk A60
   clear A60 hy
   have p3:=eq_true c3
   have p4:=eq_true c4
   clear c3 c4
   cases t with
   | true =>
    rw [if_pos rfl] at H
    obtain rfl:=Option.some.inj H
    go_wp2_with (first | (go_at_call 72;(with_reducible refine (impl_goOK_1.calls k1 b n y true _ (blk_drewN HBX.out _) A6.out).mono ?_);rintro e w' ⟨rfl,⟨nd,rfl⟩⟩))
    go_ret
    exact ⟨rfl,by repeat (first | exact Drawn0.refl _ | apply Drawn0.step)⟩
   | false =>
    rw [if_neg (by decide)] at H
    have H':=Aside0.mk H
    clear H
    go_wp2_with (first | (go_at_call 72;(with_reducible refine (impl_goOK_1.calls k1 b n y false _ (blk_drewN HBX.out _) A6.out).mono ?_);rintro e w' ⟨rfl,⟨nd,rfl⟩⟩))
    go_roundg k1
    case measure => have:=HK1.out;omega
    case rel => exact ⟨(wrap64 (x8_1 + 1)),rfl,H',⟨by have:=HK1.out;omega⟩,by repeat (first | exact Drawn0.refl _ | apply Drawn0.step)⟩
set_option maxHeartbeats 8000000 in
set_option maxRecDepth 100000 in
theorem impl_goOK_1_cf.calls (k : Nat) (b : Nat) (n : Int) (A1 : Option Addr) (c1 : Nat) (xs : List Int) (r : Int) (w : World) (hbox : w.heap[b]? = some (.cells #[.int .i64 n] 3 (0,0))) (hr1 : Kd.C (Kd.int .i64) w A1 xs.length xs) (h : impl_goOK_1_ix.l0 k n xs 0 = some r) :
  Calls Try.prog 71 #[.slice A1 xs.length c1,.func (.func 72) #[] #[.pointer (some ⟨b,0,none⟩)]] w fun e w' => e = .returned (.bool (decide (r ≥ 0))) ∧ Drawn0 w w':=by
 have HR0:=Aside0.mk hr1
 have HBX:=Aside0.mk hbox
 have H':=Aside0.mk h
 clear hr1 hbox h
 go_enter Try.func71,Try.ntmps71
 go_wp2_with (first | (go_at_call 90;(with_reducible refine (impl_goOK_1_ix.calls k b n A1 c1 xs r w HBX.out HR0.out H'.out).mono ?_);rintro e w' ⟨rfl,⟨nd,rfl⟩⟩))
 go_ret
 exact ⟨rfl,by repeat (first | exact Drawn0.refl _ | apply Drawn0.step)⟩
def impl_goOK.r (a0 n : Int) : Option Bool:=if a0 = 1 then some (n == 1) else (if a0 = 2 then some (n == 2) else (if a0 = 5 then impl_within.f n 2 6 else (if a0 = 3 then some (n == 0) else (if a0 = 4 then some (n == 0) else some false))))
def impl_goOK.f (k : Nat) (a0 a1 : Int) (l2 : List Int) (a3 a4 : Int) : Option Bool:=(impl_tests.f a0).bind fun t => (if t = true then ((impl_within.f a1 0 (wrap64 (a3 - 1))).bind fun u => (if u = true then ((impl_goOK_1_ix.l0 k a4 l2 0).bind fun i => (if i ≥ 0 then some false else impl_goOK.r a0 (l2.length : Int))) else some false)) else (if a1 = 0 then ((impl_goOK_1_ix.l0 k a4 l2 0).bind fun i => (if i ≥ 0 then some false else impl_goOK.r a0 (l2.length : Int))) else some false))
theorem impl_goOK.mono : ∀ a0 a1 a2 a3 a4 k,LeO (impl_goOK.f k a0 a1 a2 a3 a4) (impl_goOK.f (k + 1) a0 a1 a2 a3 a4):=by
 intro a0 a1 a2 a3 a4 k
 unfold impl_goOK.f
 repeat' first
   | (with_reducible exact impl_goOK_1_ix.mono _ _ _ _)
   | (with_reducible exact LeO.refl _)
   | (with_reducible exact LeO.none _)
   | (with_reducible refine LeO.ite ?_ ?_)
   | (with_reducible refine LeO.bind ?_ (fun _ => ?_))
set_option maxHeartbeats 8000000 in
set_option maxRecDepth 100000 in
theorem impl_goOK.calls (k : Nat) (a0 a1 : Int) (A2 : Option Addr) (c2 : Nat) (l2 : List Int) (a3 a4 : Int) (r : Bool) (w : World) (hr2 : Kd.C (Kd.int .i64) w A2 l2.length l2) (hc2 : l2.length ≤ c2) (h : impl_goOK.f k a0 a1 l2 a3 a4 = some r) :
  Calls Try.prog 43 #[.int .i64 a0,.int .i64 a1,.slice A2 l2.length c2,.int .i64 a3,.int .i64 a4] w fun e w' => e = .returned (.bool r) ∧ Below w.heap.size w w':=by
 have HR2:=Aside0.mk hr2
 have HBX:=Aside0.mk (heap_alloc_new w (.cells #[.int .i64 a4] 3))
 have HB:=Aside0.mk (below_alloc (Below.refl w.heap.size w) (.cells #[.int .i64 a4] 3))
 clear hr2 hc2
 unfold impl_goOK.f at h
 obtain ⟨t,A1,H⟩:=Option.bind_eq_some_iff.mp h
 have A:=Aside0.mk A1
 clear h A1
 cases t with
 | true =>
  rw [if_pos rfl] at H
  obtain ⟨u,U1,H⟩:=Option.bind_eq_some_iff.mp H
  have U:=Aside0.mk U1
  clear U1
  cases u with
  | false =>
   rw [if_neg (by decide)] at H
   obtain rfl:=Option.some.inj H
   clear H
   go_enter Try.func43,Try.ntmps43
   go_wp2_with (first | (go_at_call 70;(with_reducible refine (impl_tests.calls a0 true _ A.out).mono ?_);rintro e w2 ⟨rfl,⟨n2,rfl⟩⟩) | (go_at_call 39;(with_reducible refine (impl_within.calls a1 0 (wrap64 (a3 - 1)) false _ U.out).mono ?_);rintro e w3 ⟨rfl,⟨n3,rfl⟩⟩))
   go_ret
   exact ⟨rfl,by repeat (with_reducible first | exact HB.out | apply below_alloc | apply pw_below_drewN | apply below_drew1)⟩
  | true =>
   rw [if_pos rfl] at H
   obtain ⟨i,B1,H⟩:=Option.bind_eq_some_iff.mp H
   have B:=Aside0.mk B1
   clear B1
   by_cases ci : i ≥ 0
   ·rw [if_pos ci] at H
    obtain rfl:=Option.some.inj H
    have ci1 : decide (i ≥ 0) = true:=decide_eq_true ci
    have ci2 : decide (0 ≤ i) = true:=decide_eq_true ci
    have ci3:=eq_true ci
    clear ci H
    go_enter Try.func43,Try.ntmps43
    go_wp2_with (first | (go_at_call 70;(with_reducible refine (impl_tests.calls a0 true _ A.out).mono ?_);rintro e w2 ⟨rfl,⟨n2,rfl⟩⟩) | (go_at_call 39;(with_reducible refine (impl_within.calls a1 0 (wrap64 (a3 - 1)) true _ U.out).mono ?_);rintro e w3 ⟨rfl,⟨n3,rfl⟩⟩) | (go_at_call 71;(with_reducible refine (impl_goOK_1_cf.calls k w.heap.size a4 A2 c2 l2 i _ (blk_drewN HBX.out _) (Kd.C_drewN (Kd.C_alloc HR2.out _) _) B.out).mono ?_);rintro e w4 ⟨rfl,⟨n4,rfl⟩⟩))
    go_ret
    exact ⟨rfl,by repeat (with_reducible first | exact HB.out | apply below_alloc | apply pw_below_drewN | apply below_drew1)⟩
   rw [if_neg ci] at H
   have ci1 : decide (i ≥ 0) = false:=decide_eq_false ci
   have ci2 : decide (0 ≤ i) = false:=decide_eq_false ci
   have ci3:=eq_false ci
   clear ci
   unfold impl_goOK.r at H
   by_cases d1 : a0 = 1
   ·rw [if_pos d1] at H
    obtain rfl:=Option.some.inj H
    clear H
    have D1 : (a0 == 1) = true:=beq_iff_eq.mpr d1
    clear d1
    go_enter Try.func43,Try.ntmps43
    go_wp2_with (first | (go_at_call 70;(with_reducible refine (impl_tests.calls a0 true _ A.out).mono ?_);rintro e w2 ⟨rfl,⟨n2,rfl⟩⟩) | (go_at_call 39;(with_reducible refine (impl_within.calls a1 0 (wrap64 (a3 - 1)) true _ U.out).mono ?_);rintro e w3 ⟨rfl,⟨n3,rfl⟩⟩) | (go_at_call 71;(with_reducible refine (impl_goOK_1_cf.calls k w.heap.size a4 A2 c2 l2 i _ (blk_drewN HBX.out _) (Kd.C_drewN (Kd.C_alloc HR2.out _) _) B.out).mono ?_);rintro e w4 ⟨rfl,⟨n4,rfl⟩⟩))
    go_ret
    exact ⟨rfl,by repeat (with_reducible first | exact HB.out | apply below_alloc | apply pw_below_drewN | apply below_drew1)⟩
   rw [if_neg d1] at H
   have D1 : (a0 == 1) = false:=beq_eq_false_iff_ne.mpr d1
   clear d1
   by_cases d2 : a0 = 2
   ·rw [if_pos d2] at H
    obtain rfl:=Option.some.inj H
    clear H
    have D2 : (a0 == 2) = true:=beq_iff_eq.mpr d2
    clear d2
    go_enter Try.func43,Try.ntmps43
    go_wp2_with (first | (go_at_call 70;(with_reducible refine (impl_tests.calls a0 true _ A.out).mono ?_);rintro e w2 ⟨rfl,⟨n2,rfl⟩⟩) | (go_at_call 39;(with_reducible refine (impl_within.calls a1 0 (wrap64 (a3 - 1)) true _ U.out).mono ?_);rintro e w3 ⟨rfl,⟨n3,rfl⟩⟩) | (go_at_call 71;(with_reducible refine (impl_goOK_1_cf.calls k w.heap.size a4 A2 c2 l2 i _ (blk_drewN HBX.out _) (Kd.C_drewN (Kd.C_alloc HR2.out _) _) B.out).mono ?_);rintro e w4 ⟨rfl,⟨n4,rfl⟩⟩))
    go_ret
    exact ⟨rfl,by repeat (with_reducible first | exact HB.out | apply below_alloc | apply pw_below_drewN | apply below_drew1)⟩
   rw [if_neg d2] at H
   have D2 : (a0 == 2) = false:=beq_eq_false_iff_ne.mpr d2
   clear d2
   by_cases d5 : a0 = 5
   ·rw [if_pos d5] at H
    have W5:=Aside0.mk H
    clear H
    have D5 : (a0 == 5) = true:=beq_iff_eq.mpr d5
    clear d5
    go_enter Try.func43,Try.ntmps43
    go_wp2_with (first | (go_at_call 70;(with_reducible refine (impl_tests.calls a0 true _ A.out).mono ?_);rintro e w2 ⟨rfl,⟨n2,rfl⟩⟩) | (go_at_call 39;(with_reducible refine (impl_within.calls a1 0 (wrap64 (a3 - 1)) true _ U.out).mono ?_);rintro e w3 ⟨rfl,⟨n3,rfl⟩⟩) | (go_at_call 71;(with_reducible refine (impl_goOK_1_cf.calls k w.heap.size a4 A2 c2 l2 i _ (blk_drewN HBX.out _) (Kd.C_drewN (Kd.C_alloc HR2.out _) _) B.out).mono ?_);rintro e w4 ⟨rfl,⟨n4,rfl⟩⟩) | (go_at_call 39;(with_reducible refine (impl_within.calls (l2.length : Int) 2 6 r _ W5.out).mono ?_);rintro e w5 ⟨rfl,⟨n5,rfl⟩⟩))
    go_ret
    exact ⟨rfl,by repeat (with_reducible first | exact HB.out | apply below_alloc | apply pw_below_drewN | apply below_drew1)⟩
   rw [if_neg d5] at H
   have D5 : (a0 == 5) = false:=beq_eq_false_iff_ne.mpr d5
   clear d5
   by_cases d3 : a0 = 3
   ·rw [if_pos d3] at H
    obtain rfl:=Option.some.inj H
    clear H
    have D3 : (a0 == 3) = true:=beq_iff_eq.mpr d3
    clear d3
    go_enter Try.func43,Try.ntmps43
    go_wp2_with (first | (go_at_call 70;(with_reducible refine (impl_tests.calls a0 true _ A.out).mono ?_);rintro e w2 ⟨rfl,⟨n2,rfl⟩⟩) | (go_at_call 39;(with_reducible refine (impl_within.calls a1 0 (wrap64 (a3 - 1)) true _ U.out).mono ?_);rintro e w3 ⟨rfl,⟨n3,rfl⟩⟩) | (go_at_call 71;(with_reducible refine (impl_goOK_1_cf.calls k w.heap.size a4 A2 c2 l2 i _ (blk_drewN HBX.out _) (Kd.C_drewN (Kd.C_alloc HR2.out _) _) B.out).mono ?_);rintro e w4 ⟨rfl,⟨n4,rfl⟩⟩))
    go_ret
    exact ⟨rfl,by repeat (with_reducible first | exact HB.out | apply below_alloc | apply pw_below_drewN | apply below_drew1)⟩
   rw [if_neg d3] at H
   have D3 : (a0 == 3) = false:=beq_eq_false_iff_ne.mpr d3
   clear d3
   by_cases d4 : a0 = 4
   ·rw [if_pos d4] at H
    obtain rfl:=Option.some.inj H
    clear H
    have D4 : (a0 == 4) = true:=beq_iff_eq.mpr d4
    clear d4
    go_enter Try.func43,Try.ntmps43
    go_wp2_with (first | (go_at_call 70;(with_reducible refine (impl_tests.calls a0 true _ A.out).mono ?_);rintro e w2 ⟨rfl,⟨n2,rfl⟩⟩) | (go_at_call 39;(with_reducible refine (impl_within.calls a1 0 (wrap64 (a3 - 1)) true _ U.out).mono ?_);rintro e w3 ⟨rfl,⟨n3,rfl⟩⟩) | (go_at_call 71;(with_reducible refine (impl_goOK_1_cf.calls k w.heap.size a4 A2 c2 l2 i _ (blk_drewN HBX.out _) (Kd.C_drewN (Kd.C_alloc HR2.out _) _) B.out).mono ?_);rintro e w4 ⟨rfl,⟨n4,rfl⟩⟩))
    go_ret
    exact ⟨rfl,by repeat (with_reducible first | exact HB.out | apply below_alloc | apply pw_below_drewN | apply below_drew1)⟩
   rw [if_neg d4] at H
   have D4 : (a0 == 4) = false:=beq_eq_false_iff_ne.mpr d4
   clear d4
   obtain rfl:=Option.some.inj H
   clear H
   go_enter Try.func43,Try.ntmps43
   go_wp2_with (first | (go_at_call 70;(with_reducible refine (impl_tests.calls a0 true _ A.out).mono ?_);rintro e w2 ⟨rfl,⟨n2,rfl⟩⟩) | (go_at_call 39;(with_reducible refine (impl_within.calls a1 0 (wrap64 (a3 - 1)) true _ U.out).mono ?_);rintro e w3 ⟨rfl,⟨n3,rfl⟩⟩) | (go_at_call 71;(with_reducible refine (impl_goOK_1_cf.calls k w.heap.size a4 A2 c2 l2 i _ (blk_drewN HBX.out _) (Kd.C_drewN (Kd.C_alloc HR2.out _) _) B.out).mono ?_);rintro e w4 ⟨rfl,⟨n4,rfl⟩⟩))
   go_ret
   exact ⟨rfl,by repeat (with_reducible first | exact HB.out | apply below_alloc | apply pw_below_drewN | apply below_drew1)⟩
 | false =>
  rw [if_neg (by decide)] at H
  by_cases c0 : a1 = 0
  rotate_left
  ·rw [if_neg c0] at H
   obtain rfl:=Option.some.inj H
   have e0 : (a1 != 0) = true:=bne_iff_ne.mpr c0
   have e1 : (a1 == 0) = false:=beq_eq_false_iff_ne.mpr c0
   clear c0 H
   go_enter Try.func43,Try.ntmps43
   go_wp2_with (first | (go_at_call 70;(with_reducible refine (impl_tests.calls a0 false _ A.out).mono ?_);rintro e w2 ⟨rfl,⟨n2,rfl⟩⟩))
   go_ret
   exact ⟨rfl,by repeat (with_reducible first | exact HB.out | apply below_alloc | apply pw_below_drewN | apply below_drew1)⟩
  rw [if_pos c0] at H
  have e0 : (a1 != 0) = false:=bne_eq_false_iff_eq.mpr c0
  have e1 : (a1 == 0) = true:=beq_iff_eq.mpr c0
  clear c0
  obtain ⟨i,B1,H⟩:=Option.bind_eq_some_iff.mp H
  have B:=Aside0.mk B1
  clear B1
  by_cases ci : i ≥ 0
  ·rw [if_pos ci] at H
   obtain rfl:=Option.some.inj H
   have ci1 : decide (i ≥ 0) = true:=decide_eq_true ci
   have ci2 : decide (0 ≤ i) = true:=decide_eq_true ci
   have ci3:=eq_true ci
   clear ci H
   go_enter Try.func43,Try.ntmps43
   go_wp2_with (first | (go_at_call 70;(with_reducible refine (impl_tests.calls a0 false _ A.out).mono ?_);rintro e w2 ⟨rfl,⟨n2,rfl⟩⟩) | (go_at_call 71;(with_reducible refine (impl_goOK_1_cf.calls k w.heap.size a4 A2 c2 l2 i _ (blk_drewN HBX.out _) (Kd.C_drewN (Kd.C_alloc HR2.out _) _) B.out).mono ?_);rintro e w4 ⟨rfl,⟨n4,rfl⟩⟩))
   go_ret
   exact ⟨rfl,by repeat (with_reducible first | exact HB.out | apply below_alloc | apply pw_below_drewN | apply below_drew1)⟩
  rw [if_neg ci] at H
  have ci1 : decide (i ≥ 0) = false:=decide_eq_false ci
  have ci2 : decide (0 ≤ i) = false:=decide_eq_false ci
  have ci3:=eq_false ci
  clear ci
  unfold impl_goOK.r at H
  by_cases d1 : a0 = 1
  ·rw [if_pos d1] at H
   obtain rfl:=Option.some.inj H
   clear H
   have D1 : (a0 == 1) = true:=beq_iff_eq.mpr d1
   clear d1
   go_enter Try.func43,Try.ntmps43
   go_wp2_with (first | (go_at_call 70;(with_reducible refine (impl_tests.calls a0 false _ A.out).mono ?_);rintro e w2 ⟨rfl,⟨n2,rfl⟩⟩) | (go_at_call 71;(with_reducible refine (impl_goOK_1_cf.calls k w.heap.size a4 A2 c2 l2 i _ (blk_drewN HBX.out _) (Kd.C_drewN (Kd.C_alloc HR2.out _) _) B.out).mono ?_);rintro e w4 ⟨rfl,⟨n4,rfl⟩⟩))
   go_ret
   exact ⟨rfl,by repeat (with_reducible first | exact HB.out | apply below_alloc | apply pw_below_drewN | apply below_drew1)⟩
  rw [if_neg d1] at H
  have D1 : (a0 == 1) = false:=beq_eq_false_iff_ne.mpr d1
  clear d1
  by_cases d2 : a0 = 2
  ·rw [if_pos d2] at H
   obtain rfl:=Option.some.inj H
   clear H
   have D2 : (a0 == 2) = true:=beq_iff_eq.mpr d2
   clear d2
   go_enter Try.func43,Try.ntmps43
   go_wp2_with (first | (go_at_call 70;(with_reducible refine (impl_tests.calls a0 false _ A.out).mono ?_);rintro e w2 ⟨rfl,⟨n2,rfl⟩⟩) | (go_at_call 71;(with_reducible refine (impl_goOK_1_cf.calls k w.heap.size a4 A2 c2 l2 i _ (blk_drewN HBX.out _) (Kd.C_drewN (Kd.C_alloc HR2.out _) _) B.out).mono ?_);rintro e w4 ⟨rfl,⟨n4,rfl⟩⟩))
   go_ret
   exact ⟨rfl,by repeat (with_reducible first | exact HB.out | apply below_alloc | apply pw_below_drewN | apply below_drew1)⟩
  rw [if_neg d2] at H
  have D2 : (a0 == 2) = false:=beq_eq_false_iff_ne.mpr d2
  clear d2
  by_cases d5 : a0 = 5
  ·rw [if_pos d5] at H
   have W5:=Aside0.mk H
   clear H
   have D5 : (a0 == 5) = true:=beq_iff_eq.mpr d5
   clear d5
   go_enter Try.func43,Try.ntmps43
   go_wp2_with (first | (go_at_call 70;(with_reducible refine (impl_tests.calls a0 false _ A.out).mono ?_);rintro e w2 ⟨rfl,⟨n2,rfl⟩⟩) | (go_at_call 71;(with_reducible refine (impl_goOK_1_cf.calls k w.heap.size a4 A2 c2 l2 i _ (blk_drewN HBX.out _) (Kd.C_drewN (Kd.C_alloc HR2.out _) _) B.out).mono ?_);rintro e w4 ⟨rfl,⟨n4,rfl⟩⟩) | (go_at_call 39;(with_reducible refine (impl_within.calls (l2.length : Int) 2 6 r _ W5.out).mono ?_);rintro e w5 ⟨rfl,⟨n5,rfl⟩⟩))
   go_ret
   exact ⟨rfl,by repeat (with_reducible first | exact HB.out | apply below_alloc | apply pw_below_drewN | apply below_drew1)⟩
  rw [if_neg d5] at H
  have D5 : (a0 == 5) = false:=beq_eq_false_iff_ne.mpr d5
  clear d5
  by_cases d3 : a0 = 3
  ·rw [if_pos d3] at H
   obtain rfl:=Option.some.inj H
   clear H
   have D3 : (a0 == 3) = true:=beq_iff_eq.mpr d3
   clear d3
   go_enter Try.func43,Try.ntmps43
   go_wp2_with (first | (go_at_call 70;(with_reducible refine (impl_tests.calls a0 false _ A.out).mono ?_);rintro e w2 ⟨rfl,⟨n2,rfl⟩⟩) | (go_at_call 71;(with_reducible refine (impl_goOK_1_cf.calls k w.heap.size a4 A2 c2 l2 i _ (blk_drewN HBX.out _) (Kd.C_drewN (Kd.C_alloc HR2.out _) _) B.out).mono ?_);rintro e w4 ⟨rfl,⟨n4,rfl⟩⟩))
   go_ret
   exact ⟨rfl,by repeat (with_reducible first | exact HB.out | apply below_alloc | apply pw_below_drewN | apply below_drew1)⟩
  rw [if_neg d3] at H
  have D3 : (a0 == 3) = false:=beq_eq_false_iff_ne.mpr d3
  clear d3
  by_cases d4 : a0 = 4
  ·rw [if_pos d4] at H
   obtain rfl:=Option.some.inj H
   clear H
   have D4 : (a0 == 4) = true:=beq_iff_eq.mpr d4
   clear d4
   go_enter Try.func43,Try.ntmps43
   go_wp2_with (first | (go_at_call 70;(with_reducible refine (impl_tests.calls a0 false _ A.out).mono ?_);rintro e w2 ⟨rfl,⟨n2,rfl⟩⟩) | (go_at_call 71;(with_reducible refine (impl_goOK_1_cf.calls k w.heap.size a4 A2 c2 l2 i _ (blk_drewN HBX.out _) (Kd.C_drewN (Kd.C_alloc HR2.out _) _) B.out).mono ?_);rintro e w4 ⟨rfl,⟨n4,rfl⟩⟩))
   go_ret
   exact ⟨rfl,by repeat (with_reducible first | exact HB.out | apply below_alloc | apply pw_below_drewN | apply below_drew1)⟩
  rw [if_neg d4] at H
  have D4 : (a0 == 4) = false:=beq_eq_false_iff_ne.mpr d4
  clear d4
  obtain rfl:=Option.some.inj H
  clear H
  go_enter Try.func43,Try.ntmps43
  go_wp2_with (first | (go_at_call 70;(with_reducible refine (impl_tests.calls a0 false _ A.out).mono ?_);rintro e w2 ⟨rfl,⟨n2,rfl⟩⟩) | (go_at_call 71;(with_reducible refine (impl_goOK_1_cf.calls k w.heap.size a4 A2 c2 l2 i _ (blk_drewN HBX.out _) (Kd.C_drewN (Kd.C_alloc HR2.out _) _) B.out).mono ?_);rintro e w4 ⟨rfl,⟨n4,rfl⟩⟩))
  go_ret
  exact ⟨rfl,by repeat (with_reducible first | exact HB.out | apply below_alloc | apply pw_below_drewN | apply below_drew1)⟩

-- NOT PRINTED: function 41 (impl_GoodFlow_1)

/-! ### impl_GoodFlow: function 12 (by hand: a literal that captures the blocks) -/
/-- The literal: whether a block is not right. -/
def impl_GoodFlow_1.f (k : Nat) (n : Int) (x : S56) : Option Bool:=(impl_codeOK.f k x.f0 12).bind fun c => (if c = true then ((impl_goOK.f k x.f1 x.f2 x.f3 12 n).bind fun g => (some (!g))) else some true)
theorem impl_GoodFlow_1.mono : ∀ a0 a1 k,LeO (impl_GoodFlow_1.f k a0 a1) (impl_GoodFlow_1.f (k + 1) a0 a1):=by
 intro a0 a1 k
 unfold impl_GoodFlow_1.f
 repeat' first
   | (with_reducible exact impl_codeOK.mono _ _ _)
   | (with_reducible exact impl_goOK.mono _ _ _ _ _ _)
   | (with_reducible exact LeO.refl _)
   | (with_reducible exact LeO.none _)
   | (with_reducible refine LeO.ite ?_ ?_)
   | (with_reducible refine LeO.bind ?_ (fun _ => ?_))
set_option maxHeartbeats 8000000 in
set_option maxRecDepth 100000 in
theorem impl_GoodFlow_1.calls (k : Nat) (b : Nat) (AF : Option Addr) (nF cF : Nat) (A0_ : Option Addr) (c0_ : Nat) (A3_ : Option Addr) (c3_ : Nat) (x : S56) (r : Bool) (w : World) (hbox : w.heap[b]? = some (.cells #[.slice AF nF cF] 25 (0,0))) (hl0 : x.f0.length ≤ c0_) (hc0 : Kd.C k79 w A0_ x.f0.length x.f0) (hl3 : x.f3.length ≤ c3_) (hc3 : Kd.C (Kd.int .i64) w A3_ x.f3.length x.f3) (h : impl_GoodFlow_1.f k (nF : Int) x = some r) :
  Calls Try.prog 41 #[.agg #[.slice A0_ x.f0.length c0_,.int .i64 x.f1,.int .i64 x.f2,.slice A3_ x.f3.length c3_],.pointer (some ⟨b,0,none⟩)] w fun e w' => e = .returned (.bool r) ∧ Below w.heap.size w w':=by
 have hu56:=Try.underlying56
 have hu25:=Try.underlying25
 have HX:=Aside0.mk (heap_alloc_new w (.cells #[.slice A0_ x.f0.length c0_,.int .i64 x.f1,.int .i64 x.f2,.slice A3_ x.f3.length c3_] 56))
 have HB:=Aside0.mk (below_alloc (Below.refl w.heap.size w) (.cells #[.slice A0_ x.f0.length c0_,.int .i64 x.f1,.int .i64 x.f2,.slice A3_ x.f3.length c3_] 56))
 have HBX:=Aside0.mk (blk_alloc hbox (.cells #[.slice A0_ x.f0.length c0_,.int .i64 x.f1,.int .i64 x.f2,.slice A3_ x.f3.length c3_] 56))
 have HC0:=Aside0.mk hc0
 have HL0:=Aside0.mk hl0
 have HC3:=Aside0.mk hc3
 have HL3:=Aside0.mk hl3
 obtain ⟨c,A1_,H⟩:=Option.bind_eq_some_iff.mp h
 have A:=Aside0.mk A1_
 clear h A1_ hbox hc0 hl0 hc3 hl3
 cases c with
 | true =>
  rw [if_pos rfl] at H
  obtain ⟨g,G1,H⟩:=Option.bind_eq_some_iff.mp H
  obtain rfl:=Option.some.inj H
  have G:=Aside0.mk G1
  clear G1 H
  go_enter Try.func41,Try.ntmps41
  go_wp2_with (first | (go_at_call 42;(refine (impl_codeOK.calls k A0_ c0_ x.f0 12 true _ (Kd.C_below HC0.out HB.out) HL0.out A.out).mono ?_);rintro e w6 ⟨rfl,hb⟩;have HB6:=Aside0.mk (below_step HB.out hb);have HX6:=Aside0.mk (blk_below HX.out hb);have HBX6:=Aside0.mk (blk_below HBX.out hb);have hx1 : w6.cell? ⟨w.heap.size,1,none⟩ = some (.int .i64 x.f1):=(blk_cell HX6.out 1).trans rfl;have hx2 : w6.cell? ⟨w.heap.size,2,none⟩ = some (.int .i64 x.f2):=(blk_cell HX6.out 2).trans rfl;have hx3 : w6.cell? ⟨w.heap.size,3,none⟩ = some (.slice A3_ x.f3.length c3_):=(blk_cell HX6.out 3).trans rfl;have hxb : w6.cell? ⟨b,0,none⟩ = some (.slice AF nF cF):=(blk_cell HBX6.out 0).trans rfl;clear hb) | (go_at_call 43;(refine (impl_goOK.calls k x.f1 x.f2 A3_ c3_ x.f3 12 (nF : Int) g _ (Kd.C_below HC3.out HB6.out) HL3.out G.out).mono ?_);rintro e w7 ⟨rfl,hb⟩;have HB7:=Aside0.mk (below_step HB6.out hb);clear hb))
  go_ret
  exact ⟨rfl,HB7.out⟩
 | false =>
  rw [if_neg (by decide)] at H
  obtain rfl:=Option.some.inj H
  clear H
  go_enter Try.func41,Try.ntmps41
  go_wp2_with (first | (go_at_call 42;(refine (impl_codeOK.calls k A0_ c0_ x.f0 12 false _ (Kd.C_below HC0.out HB.out) HL0.out A.out).mono ?_);rintro e w6 ⟨rfl,hb⟩;have HB6:=Aside0.mk (below_step HB.out hb);clear hb))
  go_ret
  exact ⟨rfl,HB6.out⟩
/-- slices.IndexFunc with that literal. -/
def impl_GoodFlow_1_ix.l0 : Nat → Int → List S56 → Int → Option Int
 | 0,_,_,_ => none
 | k + 1,n,xs,i => if i < (xs.length : Int) then (if 0 ≤ i then ((impl_GoodFlow_1.f k n (rd_T56 xs i)).bind fun t => (if t = true then (some i) else (impl_GoodFlow_1_ix.l0 k n xs (wrap64 (i + 1))))) else none) else some (-1)
theorem impl_GoodFlow_1_ix.mono_l : ∀ k,∀ y0 y1 y2,LeO (impl_GoodFlow_1_ix.l0 k y0 y1 y2) (impl_GoodFlow_1_ix.l0 (k + 1) y0 y1 y2)
 | 0 => fun _ _ _ r h => by simp [impl_GoodFlow_1_ix.l0] at h
 | k + 1 => by
  have ih0:=impl_GoodFlow_1_ix.mono_l k
  intro y0 y1 y2
  unfold impl_GoodFlow_1_ix.l0
  repeat' first
   | (with_reducible exact ih0 _ _ _)
   | (with_reducible exact impl_GoodFlow_1.mono _ _ _)
   | (with_reducible exact LeO.refl _)
   | (with_reducible exact LeO.none _)
   | (with_reducible refine LeO.ite ?_ ?_)
   | (with_reducible refine LeO.bind ?_ (fun _ => ?_))
theorem impl_GoodFlow_1_ix.mono : ∀ y0 y1 y2 k,LeO (impl_GoodFlow_1_ix.l0 k y0 y1 y2) (impl_GoodFlow_1_ix.l0 (k + 1) y0 y1 y2):=fun y0 y1 y2 k => impl_GoodFlow_1_ix.mono_l k y0 y1 y2
set_option maxHeartbeats 8000000 in
set_option maxRecDepth 100000 in
theorem impl_GoodFlow_1_ix.calls (k : Nat) (b : Nat) (AF : Option Addr) (nF cF : Nat) (A1 : Option Addr) (c1 : Nat) (xs : List S56) (r : Int) (w : World) (hbox : w.heap[b]? = some (.cells #[.slice AF nF cF] 25 (0,0))) (hr1 : Kd.C k56 w A1 xs.length xs) (h : impl_GoodFlow_1_ix.l0 k (nF : Int) xs 0 = some r) :
  Calls Try.prog 66 #[.slice A1 xs.length c1,.func (.func 41) #[] #[.pointer (some ⟨b,0,none⟩)]] w fun e w' => e = .returned (.int .i64 r) ∧ Below w.heap.size w w':=by
 have huT:=Try.underlying56
 have HR0:=Aside0.mk hr1
 have HB0:=Aside0.mk hbox
 have H':=Aside0.mk h
 clear hr1 hbox h
 go_enter Try.func66,Try.ntmps66
 go_wp2
 go_loopg [8] k (fun kq v8 w' => ∃ (x8_1 : Int),v8 = .int .i64 x8_1 ∧ Aside0 (impl_GoodFlow_1_ix.l0 kq (nF : Int) xs x8_1 = some r) ∧ Aside0 (kq ≤ k) ∧ Aside0 (Below w.heap.size w w'))
 case atStart => exact ⟨0,rfl,H',⟨Nat.le_refl _⟩,⟨Below.refl _ _⟩⟩
 case round =>
  clear H'
  obtain ⟨x8_1,rfl,HA,HK1,HB⟩:=hrel
  cases gk with
  | zero => exact absurd HA.out (by simp [impl_GoodFlow_1_ix.l0])
  | succ k1 =>
   have H:=HA.out
   clear HA
   simp only [impl_GoodFlow_1_ix.l0] at H
   by_cases c3 : x8_1 < (xs.length : Int)
   rotate_left
   ·rw [if_neg c3] at H
    have c3b0 : decide (x8_1 < (xs.length : Int)) = false:=decide_eq_false c3
    clear c3
    obtain rfl:=Option.some.inj H
    go_wp2
    go_ret
    exact ⟨rfl,HB.out⟩
   rw [if_pos c3] at H
   have c3b0 : decide (x8_1 < (xs.length : Int)) = true:=decide_eq_true c3
   by_cases c4 : 0 ≤ x8_1
   rotate_left
   ·rw [if_neg c4] at H
    exact absurd H (by simp)
   rw [if_pos c4] at H
   have c4b0 : decide (0 ≤ x8_1) = true:=decide_eq_true c4
   obtain ⟨t,A60,H⟩:=Option.bind_eq_some_iff.mp H
   obtain ⟨ad,A0_,c0_,A3_,c3_,eA,hx0,hx1,hx2,hx3,hl0,hc0,hl3,hc3⟩:=at_T56 (Kd.C_below HR0.out HB.out) x8_1 c4 c3
   cases eA
   obtain ⟨y,hy⟩ : ∃ y,y = rd_T56 xs x8_1:=⟨_,rfl⟩
   rw [← hy] at hx0 hx1 hx2 hx3 hl0 hc0 hl3 hc3 A60
   have A6:=Aside0.mk A60
   have HL0:=Aside0.mk hl0;have HC0:=Aside0.mk hc0;have HL3:=Aside0.mk hl3;have HC3:=Aside0.mk hc3
   clear A60 hy hl0 hc0 hl3 hc3
   have p3:=eq_true c3
   have p4:=eq_true c4
   clear c3 c4
   cases t with
   | true =>
    rw [if_pos rfl] at H
    obtain rfl:=Option.some.inj H
    go_wp2_with (first | (go_at_call 41;(refine (impl_GoodFlow_1.calls k1 b AF nF cF A0_ c0_ A3_ c3_ y true _ (blk_below HB0.out HB.out) HL0.out HC0.out HL3.out HC3.out A6.out).mono ?_);rintro e w6 ⟨rfl,hb⟩;have HB6:=Aside0.mk (below_step HB.out hb);clear hb))
    go_ret
    exact ⟨rfl,HB6.out⟩
   | false =>
    rw [if_neg (by decide)] at H
    have H':=Aside0.mk H
    clear H
    go_wp2_with (first | (go_at_call 41;(refine (impl_GoodFlow_1.calls k1 b AF nF cF A0_ c0_ A3_ c3_ y false _ (blk_below HB0.out HB.out) HL0.out HC0.out HL3.out HC3.out A6.out).mono ?_);rintro e w6 ⟨rfl,hb⟩;have HB6:=Aside0.mk (below_step HB.out hb);clear hb))
    go_roundg k1
    case measure => have:=HK1.out;omega
    case rel => exact ⟨(wrap64 (x8_1 + 1)),rfl,H',⟨by have:=HK1.out;omega⟩,HB6⟩
set_option maxHeartbeats 8000000 in
set_option maxRecDepth 100000 in
theorem impl_GoodFlow_1_cf.calls (k : Nat) (b : Nat) (AF : Option Addr) (nF cF : Nat) (A1 : Option Addr) (c1 : Nat) (xs : List S56) (r : Int) (w : World) (hbox : w.heap[b]? = some (.cells #[.slice AF nF cF] 25 (0,0))) (hr1 : Kd.C k56 w A1 xs.length xs) (h : impl_GoodFlow_1_ix.l0 k (nF : Int) xs 0 = some r) :
  Calls Try.prog 40 #[.slice A1 xs.length c1,.func (.func 41) #[] #[.pointer (some ⟨b,0,none⟩)]] w fun e w' => e = .returned (.bool (decide (r ≥ 0))) ∧ Below w.heap.size w w':=by
 have HR0:=Aside0.mk hr1
 have HB0:=Aside0.mk hbox
 have H':=Aside0.mk h
 clear hr1 hbox h
 go_enter Try.func40,Try.ntmps40
 go_wp2_with (first | (go_at_call 66;(refine (impl_GoodFlow_1_ix.calls k b AF nF cF A1 c1 xs r _ HB0.out HR0.out H'.out).mono ?_);rintro e w6 ⟨rfl,hb⟩;have HB6:=Aside0.mk hb;clear hb))
 go_ret
 exact ⟨rfl,HB6.out⟩
def impl_GoodFlow.f (k : Nat) (l : List S56) : Option Bool:=(impl_within.f (l.length : Int) 1 64).bind fun t => (if t = true then ((impl_GoodFlow_1_ix.l0 k (l.length : Int) l 0).bind fun i => (some (!decide (i ≥ 0)))) else (some false))
theorem impl_GoodFlow.mono : ∀ a0 k,LeO (impl_GoodFlow.f k a0) (impl_GoodFlow.f (k + 1) a0):=by
 intro a0 k
 unfold impl_GoodFlow.f
 repeat' first
   | (with_reducible exact impl_GoodFlow_1_ix.mono _ _ _ _)
   | (with_reducible exact LeO.refl _)
   | (with_reducible exact LeO.none _)
   | (with_reducible refine LeO.ite ?_ ?_)
   | (with_reducible refine LeO.bind ?_ (fun _ => ?_))
set_option maxHeartbeats 8000000 in
set_option maxRecDepth 100000 in
theorem impl_GoodFlow.calls (k : Nat) (A0 : Option Addr) (c0 : Nat) (l0 : List S56) (r : Bool) (w : World) (hr0 : Kd.C k56 w A0 l0.length l0) (hc0 : l0.length ≤ c0) (h : impl_GoodFlow.f k l0 = some r) :
  Calls Try.prog 12 #[.slice A0 l0.length c0] w fun e w' => e = .returned (.bool r) ∧ Below w.heap.size w w':=by
 have hu25:=Try.underlying25
 have HR0:=Aside0.mk hr0
 have HBX:=Aside0.mk (heap_alloc_new w (.cells #[.slice A0 l0.length c0] 25))
 have HB:=Aside0.mk (below_alloc (Below.refl w.heap.size w) (.cells #[.slice A0 l0.length c0] 25))
 clear hr0 hc0
 unfold impl_GoodFlow.f at h
 obtain ⟨t,A1,H⟩:=Option.bind_eq_some_iff.mp h
 have A:=Aside0.mk A1
 clear h A1
 cases t with
 | false =>
  rw [if_neg (by decide)] at H
  obtain rfl:=Option.some.inj H
  go_enter Try.func12,Try.ntmps12
  go_wp2_with (first | (go_at_call 39;(with_reducible refine (impl_within.calls (l0.length : Int) 1 64 false _ A.out).mono ?_);rintro e w' ⟨rfl,⟨nd,rfl⟩⟩))
  go_ret
  exact ⟨rfl,by repeat (with_reducible first | exact HB.out | apply below_alloc | apply pw_below_drewN | apply below_drew1)⟩
 | true =>
  rw [if_pos rfl] at H
  obtain ⟨i,B1,H⟩:=Option.bind_eq_some_iff.mp H
  obtain rfl:=Option.some.inj H
  have B:=Aside0.mk B1
  clear B1 H
  go_enter Try.func12,Try.ntmps12
  go_wp2_with (first | (go_at_call 39;(with_reducible refine (impl_within.calls (l0.length : Int) 1 64 true _ A.out).mono ?_);rintro e w' ⟨rfl,⟨nd,rfl⟩⟩;have HBN:=Aside0.mk (pw_below_drewN HB.out nd)) | (go_at_call 40;(refine (impl_GoodFlow_1_cf.calls k w.heap.size A0 l0.length c0 A0 c0 l0 i _ (blk_drewN HBX.out _) (Kd.C_below HR0.out HBN.out) B.out).mono ?_);rintro e w6 ⟨rfl,hb⟩;have HB6:=Aside0.mk (below_step HBN.out hb);clear hb))
  go_ret
  exact ⟨rfl,HB6.out⟩


/-! ### impl_nexts: function 47 -/
def impl_nexts.l0 : Nat → List (List Int) → List (S56) → Int → Int → Option ((List (List Int)))
 | 0,_,_,_,_ => none
 | k + 1,x3,x9,x10,x11 => if x11 < x10 then (if 0 ≤ x11 then (if x11 < (x9.length : Int) then (if x11 < (x3.length : Int) then (impl_nexts.l0 k (x3.set (x11 : Int).toNat ((rd_T56 x9 x11).f3)) x9 x10 (wrap64 (x11 + 1))) else (none)) else (none)) else (none)) else (some x3)
def impl_nexts.f (k : Nat) (l0 : List (S56)) : Option ((List (List Int))):=if 0 ≤ (l0.length : Int) then (if ((l0.length : Int) : Int).toNat ≤ 11728124029610 then (impl_nexts.l0 k (List.replicate ((l0.length : Int) : Int).toNat []) l0 (l0.length : Int) 0) else (none)) else (none)
theorem impl_nexts.mono_l : ∀ k,(∀ y0 y1 y2 y3,LeO (impl_nexts.l0 k y0 y1 y2 y3) (impl_nexts.l0 (k + 1) y0 y1 y2 y3))
 | 0 => fun _ _ _ _ r h => by simp [impl_nexts.l0] at h
 | k + 1 => by
  have ih0:=impl_nexts.mono_l k
  ·intro y0 y1 y2 y3
   unfold impl_nexts.l0
   repeat' first
   | (with_reducible exact ih0 _ _ _ _)
   | (with_reducible exact LeO.refl _)
   | (with_reducible exact LeO.none _)
   | (with_reducible refine LeO.ite ?_ ?_)
   | (with_reducible refine LeO.bind ?_ (fun _ => ?_))
theorem impl_nexts.mono : ∀ a0 k,LeO (impl_nexts.f k a0) (impl_nexts.f (k + 1) a0):=by
 intro a0 k
 have ih0:=impl_nexts.mono_l k
 unfold impl_nexts.f
 repeat' first
   | (with_reducible exact ih0 _ _ _ _)
   | (with_reducible exact LeO.refl _)
   | (with_reducible exact LeO.none _)
   | (with_reducible refine LeO.ite ?_ ?_)
   | (with_reducible refine LeO.bind ?_ (fun _ => ?_))
set_option maxHeartbeats 8000000 in
set_option maxRecDepth 100000 in
theorem impl_nexts.calls (k : Nat) (P0_ : Nat → Prop) (A0 : Option Addr) (c0 : Nat) (l0 : List (S56)) (r : List (List Int)) (w : World) (hs0 : Kd.V k56 56 w w.heap.size (fun k_ => P0_ k_) (.slice A0 l0.length c0) l0) (h : impl_nexts.f k l0 = some r) :
  Calls Try.prog 47 #[.slice A0 l0.length c0] w fun e w' => ∃ v0_ : Value,e = .returned (v0_) ∧ Kd.N (Kd.slice 3 (Kd.int .i64)) 37 w' w.heap.size (fun k_ => (P0_ k_ ∨ w.heap.size ≤ k_)) v0_ r ∧ Below w.heap.size w w':=by
 have hu56:=Try.underlying56
 have HO0:=Aside0.mk (show Kd.V k56 56 w w.heap.size (fun k_ => (P0_ k_ ∨ w.heap.size ≤ k_)) (.slice A0 l0.length c0) l0 from Kd.V_mono hs0 (fun k_ hk => .inl hk))
 have HB:=Aside0.mk (Below.refl w.heap.size w)
 have H : (if 0 ≤ (l0.length : Int) then (if ((l0.length : Int) : Int).toNat ≤ 11728124029610 then (impl_nexts.l0 k (List.replicate ((l0.length : Int) : Int).toNat []) l0 (l0.length : Int) 0) else (none)) else (none)) = some r:=h
 clear h
 by_cases c2 : 0 ≤ (l0.length : Int)
 rotate_left
 ·rw [if_neg c2] at H
  exact absurd H (by simp)
 rw [if_pos c2] at H
 have c2b0:=eq_true c2
 have c2b1 : decide (0 ≤ (l0.length : Int)) = true:=decide_eq_true c2
 clear c2
 by_cases c3 : ((l0.length : Int) : Int).toNat ≤ 11728124029610
 rotate_left
 ·rw [if_neg c3] at H
  exact absurd H (by simp)
 rw [if_pos c3] at H
 have c3b0:=eq_true c3
 have c3b1 : decide (((l0.length : Int) : Int).toNat ≤ 11728124029610) = true:=decide_eq_true c3
 clear c3
 obtain ⟨y282,hy282⟩ : ∃ y_ : List (List Int),y_ = (List.replicate ((l0.length : Int) : Int).toNat []):=⟨_,rfl⟩
 replace H : (impl_nexts.l0 k y282 l0 (l0.length : Int) 0) = some r:=by first | (rw [hy282];with_reducible exact H) | (have H2_:=(Option.bind_some _ _).symm.trans H;rw [hy282];with_reducible exact H2_) | (have H2_:=(Option.bind_some _ _).symm.trans H;with_reducible exact H2_) | with_reducible exact H | (rw [hy282];exact H) | exact H
 have Ny282:=Aside0.mk hy282
 clear hy282
 have H':=Aside0.mk H
 clear H
 go_enter Try.func47,Try.ntmps47
 go_wp2_with (first | ((with_reducible refine gate_dst (N:=8) rfl ?_);refine Kd.N_make (Kd.slice 3 (Kd.int .i64)) _ 37 rfl (N':=8) rfl 29 _ _ rfl (l0.length : Int) rfl rfl Try.underlying29 (.slice none 0 0) 24 info37 rfl (by decide) (by omega) [] (ok:=fun k_ => w.heap.size ≤ k_) (okp:=fun _ => False) (Kd.FK_slice_mk (Nat.le_refl _) (Kd.F_nil _ _ _)) (fun _ hk => hk.elim) (Nat.le_refl _) (of_decide_eq_true (by assumption)) (Nat.le_trans (Nat.mul_le_mul_right _ (of_decide_eq_true (by assumption) : (l0.length : Int).toNat ≤ 11728124029610)) (by omega)) (Below.refl _ _) (Nat.le_refl _) ?_;intro v283 w4 ho5 hb hg_ hnew_;clear hg_ hnew_;(first | rw [← Ny282.out] at ho5 | (simp only [Int.reduceToNat] at ho5;rw [← Ny282.out] at ho5));have n0_:=Aside0.mk (Kd.V_elder' (by (with_reducible repeat (first | apply Kd.V_alloc | apply Kd.V_drewN | apply Kd.V_drew));exact HO0.out) (Kd.N_base ho5) hb);have n1_:=Aside0.mk (Kd.N_lower (Kd.N_mono (ok':=fun k_ => (P0_ k_ ∨ w.heap.size ≤ k_)) ho5 (fun k_ hk_ => (.inr (Nat.le_trans (below_size (by repeat (with_reducible first | exact HB.out | apply below_alloc | apply pw_below_drewN | apply below_drew1))) hk_)))) (below_size (by repeat (with_reducible first | exact HB.out | apply below_alloc | apply pw_below_drewN | apply below_drew1))));have n2_:=Aside0.mk (below_step (by repeat (with_reducible first | exact HB.out | apply below_alloc | apply pw_below_drewN | apply below_drew1)) hb);clear HO0;clear HB;have HO0:=n0_;have HO284:=n1_;have HB:=n2_;clear n0_ n1_ n2_;clear hb ho5))
 go_loopg [11] k (fun kq v11 w' => ∃ (x3_1 : List (List Int)) (x11_1 : Int),v11 = .int .i64 x11_1 ∧ Aside0 (impl_nexts.l0 kq x3_1 l0 (l0.length : Int) x11_1 = some r) ∧ Aside0 (kq ≤ k) ∧ Aside0 (Kd.N (Kd.slice 3 (Kd.int .i64)) 37 w' w.heap.size (fun k_ => (P0_ k_ ∨ w.heap.size ≤ k_)) v283 x3_1) ∧ Aside0 (Kd.V k56 56 w' w.heap.size (fun k_ => (P0_ k_ ∨ w.heap.size ≤ k_) ∧ some k_ ≠ (v283 : Value).ownBlock) (.slice A0 l0.length c0) l0) ∧ Aside0 (Below w.heap.size w w'))
 case atStart => exact ⟨(y282),(0),(by first | rfl | (simp;done) | (simp [*];done)),H',⟨Nat.le_refl _⟩,⟨by (with_reducible repeat (first | apply Kd.N_alloc | apply Kd.N_drewN | apply Kd.N_drew));exact HO284.out⟩,⟨by (with_reducible repeat (first | apply Kd.V_alloc | apply Kd.V_drewN | apply Kd.V_drew));exact HO0.out⟩,⟨by repeat (with_reducible first | exact HB.out | apply below_alloc | apply pw_below_drewN | apply below_drew1)⟩⟩
 case round =>
  clear H'
  try clear c2
  try clear c2b0
  try clear c2b1
  try clear p2
  try clear c3
  try clear c3b0
  try clear c3b1
  try clear c4
  obtain ⟨x3_1,x11_1,rfl,HA,HK1,HO_3,HO_9,HB⟩:=hrel
  cases gk with
  | zero => exact absurd HA.out (by simp [impl_nexts.l0])
  | succ k1 =>
   have H:=HA.out
   clear HA
   simp only [impl_nexts.l0] at H
   by_cases c6 : x11_1 < (l0.length : Int)
   rotate_left
   ·rw [if_neg c6] at H
    have c6b0 : decide (x11_1 < (l0.length : Int)) = false:=decide_eq_false c6
    clear c6
    obtain rfl:=Option.some.inj H
    go_wp2
    go_ret
    exact ⟨_,by first | rfl | (simp [*,errW_none,errW_some] <;> rfl),by (with_reducible repeat (first | apply Kd.N_alloc | apply Kd.N_drewN | apply Kd.N_drew));exact HO_3.out,by repeat (with_reducible first | exact HB.out | apply below_alloc | apply pw_below_drewN | apply below_drew1)⟩
   rw [if_pos c6] at H
   have c6b0 : decide (x11_1 < (l0.length : Int)) = true:=decide_eq_true c6
   clear c6
   by_cases c7 : 0 ≤ x11_1
   rotate_left
   ·rw [if_neg c7] at H
    exact absurd H (by simp)
   rw [if_pos c7] at H
   have c7b0 : decide (0 ≤ x11_1) = true:=decide_eq_true c7
   clear c7
   by_cases c8 : x11_1 < (l0.length : Int)
   rotate_left
   ·rw [if_neg c8] at H
    exact absurd H (by simp)
   rw [if_pos c8] at H
   have c8b0 : decide (x11_1 < (l0.length : Int)) = true:=decide_eq_true c8
   clear c8
   by_cases c9 : x11_1 < (x3_1.length : Int)
   rotate_left
   ·rw [if_neg c9] at H
    exact absurd H (by simp)
   rw [if_pos c9] at H
   have c9b0 : decide (x11_1 < (x3_1.length : Int)) = true:=decide_eq_true c9
   clear c9
   obtain ⟨y287,hy287⟩ : ∃ y_ : List (List Int),y_ = (x3_1.set (x11_1 : Int).toNat ((rd_T56 l0 x11_1).f3)):=⟨_,rfl⟩
   replace H : (impl_nexts.l0 k1 y287 l0 (l0.length : Int) (wrap64 (x11_1 + 1))) = some r:=by first | (rw [hy287];with_reducible exact H) | (have H2_:=(Option.bind_some _ _).symm.trans H;rw [hy287];with_reducible exact H2_) | (have H2_:=(Option.bind_some _ _).symm.trans H;with_reducible exact H2_) | with_reducible exact H | (rw [hy287];exact H) | exact H
   have Ny287:=Aside0.mk hy287
   clear hy287
   have H':=Aside0.mk H
   clear H
   have p285 : 0 ≤ (x11_1 : Int):=of_decide_eq_true (by assumption)
   have q285 : x11_1 < (l0.length : Int):=of_decide_eq_true (by assumption)
   obtain ⟨ad285,A285_0,c285_0,A285_3,c285_3,e285,hx285_0,hx285_1,hx285_2,hx285_3,hl285_0,hi285_0,hl285_3,hi285_3⟩:=at_T56 (Kd.V_reads' HO_9.out).2.2 x11_1 p285 q285
   cases e285
   obtain ⟨ce285,hce285,hMe285,hcc285⟩:=Kd.V_get HO_9.out z56 x11_1 p285 (by first | exact q285 | exact of_decide_eq_true (by assumption) | (have e_:=(Kd.V_reads' HO_9.out).1;omega))
   obtain ⟨ua285_0,uc285_0,ua285_3,uc285_3,rfl,ul285_0,ge285_0,ul285_3,ge285_3⟩:=k56_openF hMe285
   have hv285_0:=hcc285 0 _ rfl
   rw [Nat.add_zero] at hv285_0
   replace hv285_0:=Option.some.inj (hv285_0.symm.trans hx285_0)
   injection hv285_0 with hva_ hvn_ hvc_
   rw [hva_] at ge285_0
   rw [hvc_] at ul285_0
   have HL285_0:=Aside0.mk (show Kd.V k79 79 _ w.heap.size _ _ ((rd_T56 l0 x11_1).f0) from Kd.V_mk ul285_0 ge285_0)
   clear hva_ hvn_ hvc_ ge285_0 ul285_0
   have hv285_3:=hcc285 3 _ rfl
   rw [add_field _ _ 3 (by omega)] at hv285_3
   replace hv285_3:=Option.some.inj (hv285_3.symm.trans hx285_3)
   injection hv285_3 with hva_ hvn_ hvc_
   rw [hva_] at ge285_3
   rw [hvc_] at ul285_3
   have HL285_3:=Aside0.mk (show Kd.V (Kd.int .i64) 3 _ w.heap.size _ _ ((rd_T56 l0 x11_1).f3) from Kd.V_mk ul285_3 ge285_3)
   clear hva_ hvn_ hvc_ ge285_3 ul285_3
   clear hcc285 hce285
   have HR285_0:=Aside0.mk hi285_0
   have HC285_0:=Aside0.mk hl285_0
   clear hi285_0 hl285_0
   have HR285_3:=Aside0.mk hi285_3
   have HC285_3:=Aside0.mk hl285_3
   clear hi285_3 hl285_3
   replace p285:=eq_true p285
   replace q285:=eq_true q285
   go_wp2_with (first | ((with_reducible refine gate_dst (N:=5) rfl ?_);refine box_event ?hg (N:=5) ?hd (cs:=#[.slice none 0 0,.int .i64 0,.int .i64 0,.slice none 0 0]) (t:=56) ?hr ?_;(case hd => rfl);(case hg => rfl);(case hr => first | (go_simp;done) | (go_simp;rfl));intro gb286 hg w11 hbox hb;have n0_:=Aside0.mk (Kd.N_below (Kd.N_elderB (by (with_reducible repeat (first | apply Kd.N_alloc | apply Kd.N_drewN | apply Kd.N_drew));exact HO_3.out) gb286 (Nat.le_of_eq hg.symm)) hb);have n1_:=Aside0.mk (Kd.V_below (Kd.V_elderB (by (with_reducible repeat (first | apply Kd.V_alloc | apply Kd.V_drewN | apply Kd.V_drew));exact HO_9.out) gb286 (Nat.le_of_eq hg.symm)) hb);have n2_:=Aside0.mk (Kd.V_below (Kd.V_elderB (by (with_reducible repeat (first | apply Kd.V_alloc | apply Kd.V_drewN | apply Kd.V_drew));exact HL285_0.out) gb286 (Nat.le_of_eq hg.symm)) hb);have n3_:=Aside0.mk (Kd.V_below (Kd.V_elderB (by (with_reducible repeat (first | apply Kd.V_alloc | apply Kd.V_drewN | apply Kd.V_drew));exact HL285_3.out) gb286 (Nat.le_of_eq hg.symm)) hb);have n4_:=Aside0.mk (Kd.C_below (by repeat (first | (with_reducible exact HR285_0.out) | (with_reducible refine Kd.C_alloc ?_ _) | (with_reducible refine Kd.C_drewN ?_ _) | (with_reducible refine Kd.C_drew ?_) | exact HR285_0.out)) hb);have n5_:=Aside0.mk (Kd.C_below (by repeat (first | (with_reducible exact HR285_3.out) | (with_reducible refine Kd.C_alloc ?_ _) | (with_reducible refine Kd.C_drewN ?_ _) | (with_reducible refine Kd.C_drew ?_) | exact HR285_3.out)) hb);have n6_:=Aside0.mk (below_step (by repeat (with_reducible first | exact HB.out | apply below_alloc | apply pw_below_drewN | apply below_drew1)) hb);have n7_:=Aside0.mk (hbox);have n8_:=Aside0.mk ((by rw [hg];exact (below_size (by repeat (with_reducible first | exact HB.out | apply below_alloc | apply pw_below_drewN | apply below_drew1))) : w.heap.size ≤ gb286));have n9_:=Aside0.mk ((by rw [hg];exact (below_size (by repeat (with_reducible first | exact HB.out | apply below_alloc | apply pw_below_drewN | apply below_drew1))) : w.heap.size ≤ gb286));clear HO_3;clear HO_9;clear HL285_0;clear HL285_3;clear HR285_0;clear HR285_3;clear HB;have HO_3:=n0_;have HO_9:=n1_;have HL285_0:=n2_;have HL285_3:=n3_;have HR285_0:=n4_;have HR285_3:=n5_;have HB:=n6_;have BK286:=n7_;have GW286:=n8_;have GE286:=n9_;clear n0_ n1_ n2_ n3_ n4_ n5_ n6_ n7_ n8_ n9_;clear hb hbox hg;have hcz12_0 : w11.cell? ⟨gb286,0,none⟩ = some (.slice none 0 0):=(blk_cell BK286.out 0).trans rfl;have hcz12_1 : w11.cell? ⟨gb286,1,none⟩ = some (.int .i64 0):=(blk_cell BK286.out 1).trans rfl;have hcz12_2 : w11.cell? ⟨gb286,2,none⟩ = some (.int .i64 0):=(blk_cell BK286.out 2).trans rfl;have hcz12_3 : w11.cell? ⟨gb286,3,none⟩ = some (.slice none 0 0):=(blk_cell BK286.out 3).trans rfl;have hfz12_0:=blk_frozen BK286.out 0;have hfz12_1:=blk_frozen BK286.out 1;have hfz12_2:=blk_frozen BK286.out 2;have hfz12_3:=blk_frozen BK286.out 3) | ((with_reducible refine gate_store (t:=56) (p:=5) rfl ?_);refine store_event (t:=56) (p:=5) (v:=?vo_w13) (w1:=((((w11.setCell ⟨gb286,0,none⟩ (.slice A285_0 ((rd_T56 l0 x11_1).f0).length c285_0)).setCell ⟨gb286,1,none⟩ (.int .i64 ((rd_T56 l0 x11_1).f1))).setCell ⟨gb286,2,none⟩ (.int .i64 ((rd_T56 l0 x11_1).f2))).setCell ⟨gb286,3,none⟩ (.slice A285_3 ((rd_T56 l0 x11_1).f3).length c285_3))) ?hg ?ho ?hn ?hr ?_;(case ho => rfl);(case hg => rfl);(case hn => rfl);(case hr => first | (go_simp;done) | (go_simp;rfl));intro w13 hw;have n0_ : Aside0 (Kd.N (Kd.slice 3 (Kd.int .i64)) 37 w13 w.heap.size (fun k_ => (P0_ k_ ∨ w.heap.size ≤ k_) ∧ k_ ≠ gb286) v283 x3_1):=⟨(by rw [hw];exact (by (with_reducible repeat (first | apply Kd.N_alloc | apply Kd.N_drewN | apply Kd.N_drew));exact Kd.N_mono (Kd.N_far (p:=⟨gb286,3,none⟩) (Kd.N_far (p:=⟨gb286,2,none⟩) (Kd.N_far (p:=⟨gb286,1,none⟩) (Kd.N_far (p:=⟨gb286,0,none⟩) (Kd.N_mono HO_3.out (fun k_ hk => (⟨hk,hk.2⟩ : _ ∧ k_ ≠ gb286))) (fun _ hk => hk.2) (.slice A285_0 ((rd_T56 l0 x11_1).f0).length c285_0)) (fun _ hk => hk.2) (.int .i64 ((rd_T56 l0 x11_1).f1))) (fun _ hk => hk.2) (.int .i64 ((rd_T56 l0 x11_1).f2))) (fun _ hk => hk.2) (.slice A285_3 ((rd_T56 l0 x11_1).f3).length c285_3)) (fun _ hk => ⟨hk.1.1,hk.1.2⟩)))⟩;have n1_ : Aside0 (Kd.V k56 56 w13 w.heap.size (fun k_ => (P0_ k_ ∨ w.heap.size ≤ k_) ∧ some k_ ≠ (v283 : Value).ownBlock ∧ k_ ≠ gb286) (.slice (some ad285) l0.length c0) l0):=⟨(by rw [hw];exact (by (with_reducible repeat (first | apply Kd.V_alloc | apply Kd.V_drewN | apply Kd.V_drew));exact Kd.V_mono (Kd.V_far (p:=⟨gb286,3,none⟩) (Kd.V_far (p:=⟨gb286,2,none⟩) (Kd.V_far (p:=⟨gb286,1,none⟩) (Kd.V_far (p:=⟨gb286,0,none⟩) (Kd.V_mono HO_9.out (fun k_ hk => (⟨hk,hk.2⟩ : _ ∧ k_ ≠ gb286))) (fun _ hk => hk.2) (.slice A285_0 ((rd_T56 l0 x11_1).f0).length c285_0)) (fun _ hk => hk.2) (.int .i64 ((rd_T56 l0 x11_1).f1))) (fun _ hk => hk.2) (.int .i64 ((rd_T56 l0 x11_1).f2))) (fun _ hk => hk.2) (.slice A285_3 ((rd_T56 l0 x11_1).f3).length c285_3)) (fun _ hk => ⟨hk.1.1.1,⟨hk.1.1.2,hk.1.2⟩⟩)))⟩;have n2_ : Aside0 (Kd.V k79 79 w13 w.heap.size (fun k_ => (P0_ k_ ∨ w.heap.size ≤ k_) ∧ some k_ ≠ (v283 : Value).ownBlock ∧ k_ ≠ gb286) (.slice A285_0 ((rd_T56 l0 x11_1).f0).length c285_0) ((rd_T56 l0 x11_1).f0)):=⟨(by rw [hw];exact (by (with_reducible repeat (first | apply Kd.V_alloc | apply Kd.V_drewN | apply Kd.V_drew));exact Kd.V_mono (Kd.V_far (p:=⟨gb286,3,none⟩) (Kd.V_far (p:=⟨gb286,2,none⟩) (Kd.V_far (p:=⟨gb286,1,none⟩) (Kd.V_far (p:=⟨gb286,0,none⟩) (Kd.V_mono HL285_0.out (fun k_ hk => (⟨hk,hk.2⟩ : _ ∧ k_ ≠ gb286))) (fun _ hk => hk.2) (.slice A285_0 ((rd_T56 l0 x11_1).f0).length c285_0)) (fun _ hk => hk.2) (.int .i64 ((rd_T56 l0 x11_1).f1))) (fun _ hk => hk.2) (.int .i64 ((rd_T56 l0 x11_1).f2))) (fun _ hk => hk.2) (.slice A285_3 ((rd_T56 l0 x11_1).f3).length c285_3)) (fun _ hk => ⟨hk.1.1.1,⟨hk.1.1.2,hk.1.2⟩⟩)))⟩;have n3_ : Aside0 (Kd.V (Kd.int .i64) 3 w13 w.heap.size (fun k_ => (P0_ k_ ∨ w.heap.size ≤ k_) ∧ some k_ ≠ (v283 : Value).ownBlock ∧ k_ ≠ gb286) (.slice A285_3 ((rd_T56 l0 x11_1).f3).length c285_3) ((rd_T56 l0 x11_1).f3)):=⟨(by rw [hw];exact (by (with_reducible repeat (first | apply Kd.V_alloc | apply Kd.V_drewN | apply Kd.V_drew));exact Kd.V_mono (Kd.V_far (p:=⟨gb286,3,none⟩) (Kd.V_far (p:=⟨gb286,2,none⟩) (Kd.V_far (p:=⟨gb286,1,none⟩) (Kd.V_far (p:=⟨gb286,0,none⟩) (Kd.V_mono HL285_3.out (fun k_ hk => (⟨hk,hk.2⟩ : _ ∧ k_ ≠ gb286))) (fun _ hk => hk.2) (.slice A285_0 ((rd_T56 l0 x11_1).f0).length c285_0)) (fun _ hk => hk.2) (.int .i64 ((rd_T56 l0 x11_1).f1))) (fun _ hk => hk.2) (.int .i64 ((rd_T56 l0 x11_1).f2))) (fun _ hk => hk.2) (.slice A285_3 ((rd_T56 l0 x11_1).f3).length c285_3)) (fun _ hk => ⟨hk.1.1.1,⟨hk.1.1.2,hk.1.2⟩⟩)))⟩;have n4_ : Aside0 (w13.heap[gb286]? = some (.cells #[.slice A285_0 ((rd_T56 l0 x11_1).f0).length c285_0,.int .i64 ((rd_T56 l0 x11_1).f1),.int .i64 ((rd_T56 l0 x11_1).f2),.slice A285_3 ((rd_T56 l0 x11_1).f3).length c285_3] 56 (0,0))):=⟨(by rw [hw];exact (by (with_reducible repeat (first | refine blk_drewN ?_ _ | refine blk_drew ?_ | refine blk_alloc ?_ _));refine blk_put (cs:=#[.slice A285_0 ((rd_T56 l0 x11_1).f0).length c285_0,.int .i64 ((rd_T56 l0 x11_1).f1),.int .i64 ((rd_T56 l0 x11_1).f2),.slice none 0 0]) ?_ 3 _ rfl;(with_reducible repeat (first | refine blk_drewN ?_ _ | refine blk_drew ?_ | refine blk_alloc ?_ _));refine blk_put (cs:=#[.slice A285_0 ((rd_T56 l0 x11_1).f0).length c285_0,.int .i64 ((rd_T56 l0 x11_1).f1),.int .i64 0,.slice none 0 0]) ?_ 2 _ rfl;(with_reducible repeat (first | refine blk_drewN ?_ _ | refine blk_drew ?_ | refine blk_alloc ?_ _));refine blk_put (cs:=#[.slice A285_0 ((rd_T56 l0 x11_1).f0).length c285_0,.int .i64 0,.int .i64 0,.slice none 0 0]) ?_ 1 _ rfl;(with_reducible repeat (first | refine blk_drewN ?_ _ | refine blk_drew ?_ | refine blk_alloc ?_ _));refine blk_put (cs:=#[.slice none 0 0,.int .i64 0,.int .i64 0,.slice none 0 0]) ?_ 0 _ rfl;(with_reducible repeat (first | refine blk_drewN ?_ _ | refine blk_drew ?_ | refine blk_alloc ?_ _));exact BK286.out))⟩;have n5_ : Aside0 (Below w.heap.size w w13):=⟨(by rw [hw];exact (by repeat (with_reducible first | exact HB.out | apply below_alloc | apply pw_below_drewN | apply below_drew1 | refine below_set ?_ GE286.out)))⟩;clear hw;clear HO_3;clear HO_9;clear HL285_0;clear HL285_3;clear BK286;clear HB;have HO_3:=n0_;have HO_9:=n1_;have HL285_0:=n2_;have HL285_3:=n3_;have BK286:=n4_;have HB:=n5_;clear n0_ n1_ n2_ n3_ n4_ n5_;have hcz14_0 : w13.cell? ⟨gb286,0,none⟩ = some (.slice A285_0 ((rd_T56 l0 x11_1).f0).length c285_0):=(blk_cell BK286.out 0).trans rfl;have hcz14_1 : w13.cell? ⟨gb286,1,none⟩ = some (.int .i64 ((rd_T56 l0 x11_1).f1)):=(blk_cell BK286.out 1).trans rfl;have hcz14_2 : w13.cell? ⟨gb286,2,none⟩ = some (.int .i64 ((rd_T56 l0 x11_1).f2)):=(blk_cell BK286.out 2).trans rfl;have hcz14_3 : w13.cell? ⟨gb286,3,none⟩ = some (.slice A285_3 ((rd_T56 l0 x11_1).f3).length c285_3):=(blk_cell BK286.out 3).trans rfl;have hfz14_0:=blk_frozen BK286.out 0;have hfz14_1:=blk_frozen BK286.out 1;have hfz14_2:=blk_frozen BK286.out 2;have hfz14_3:=blk_frozen BK286.out 3;have p10 : 0 ≤ (x11_1 : Int):=of_decide_eq_true (by assumption);have q10 : (x11_1 : Int) < ((x3_1.length : Int) : Int):=of_decide_eq_true (by assumption);obtain ⟨go10,co10,eo10,gb10,gl10,cl10,HG10⟩:=Kd.N_form HO_3.out (by omega);(first | cases eo10 | (injection eo10 with ea_ en_ ec_;(first | subst ea_ | (injection ea_ with ea_;subst ea_));subst ec_;clear en_));have GB10:=Aside0.mk gb10;have GG10:=Aside0.mk HG10;clear gb10 gl10 HG10;obtain ⟨ce10,hcl10,hM10,hcc10,hfr10⟩:=Kd.N_elem HO_3.out [] (x11_1 : Int) p10 q10;obtain ⟨ua10_0,uc10_0,rfl,ul10_0,ge10_0⟩:=Kd.FK_slice_open hM10;have hx10_0:=hcc10 0 _ rfl;have hf10_0:=hfr10 0;(try simp only [show ((Kd.slice 3 (Kd.int .i64))).sz = 1 from rfl,Nat.mul_one,Nat.add_zero] at hx10_0);(try simp only [show ((Kd.slice 3 (Kd.int .i64))).sz = 1 from rfl,Nat.mul_one,Nat.add_zero] at hf10_0);clear hcl10 hcc10 hfr10;(try clear hM10);replace p10:=eq_true p10;replace q10:=eq_true q10;have HX15:=Aside0.mk (show Kd.N (Kd.slice 3 (Kd.int .i64)) 37 w13 w.heap.size (fun k_ => (P0_ k_ ∨ w.heap.size ≤ k_) ∧ k_ ≠ gb286) (.slice (some ⟨go10,0,none⟩) x3_1.length co10) x3_1 from (by (with_reducible repeat (first | apply Kd.N_alloc | apply Kd.N_drewN | apply Kd.N_drew));exact HO_3.out));obtain ⟨ce15,hcl15,hM15,hcc15,hfr15⟩:=Kd.N_elem HX15.out [] (x11_1 : Int) (of_decide_eq_true (by assumption)) (by have h_ : (x11_1 : Int) < ((x3_1.length : Int) : Int):=of_decide_eq_true (by assumption);first | exact h_ | (have e_:=(Kd.N_reads' HO_3.out).1;omega) | simpa using h_);obtain ⟨ua15_0,uc15_0,rfl,ul15_0,ge15_0⟩:=Kd.FK_slice_open hM15;have HP15:=Kd.N_seg HX15.out (x11_1 : Int) (of_decide_eq_true (by assumption)) (by have h_ : (x11_1 : Int) < ((x3_1.length : Int) : Int):=of_decide_eq_true (by assumption);first | exact h_ | (have e_:=(Kd.N_reads' HO_3.out).1;omega) | simpa using h_) (seg:=[.slice A285_3 ((rd_T56 l0 x11_1).f3).length c285_3]) (j:=0) hcl15 hcc15 (show 1 ≤ 1 from by decide) (x':=(rd_T56 l0 x11_1).f3) (Kd.FK_slice_mk (Kd.V_reads' (Kd.V_mono (ok':=(fun k_ => ((fun k_ => (P0_ k_ ∨ w.heap.size ≤ k_) ∧ k_ ≠ gb286)) k_ ∧ k_ ≠ go10)) (HL285_3.out) (fun k_ hk => ⟨⟨hk.1,hk.2.2⟩,fun e_ => (hk.2.1) (by rw [e_];rfl)⟩))).2.1 (Kd.V_F (Kd.V_mono (ok':=(fun k_ => ((fun k_ => (P0_ k_ ∨ w.heap.size ≤ k_) ∧ k_ ≠ gb286)) k_ ∧ k_ ≠ go10)) (HL285_3.out) (fun k_ hk => ⟨⟨hk.1,hk.2.2⟩,fun e_ => (hk.2.1) (by rw [e_];rfl)⟩)))) (fun _ hk => hk);have hx15_0:=hcc15 0 _ rfl;(try simp only [show ((Kd.slice 3 (Kd.int .i64))).sz = 1 from rfl,Nat.mul_one,Nat.add_zero] at hx15_0);have hf15_0:=hfr15 0;(try simp only [show ((Kd.slice 3 (Kd.int .i64))).sz = 1 from rfl,Nat.mul_one,Nat.add_zero] at hf15_0);clear hcl15 hcc15 hfr15;(try clear hM15);(try simp only [show ((Kd.slice 3 (Kd.int .i64))).sz = 1 from rfl,Nat.mul_one,Nat.add_zero] at HP15);(try simp only [show ((Kd.slice 3 (Kd.int .i64))).sz = 1 from rfl,Nat.mul_one,Nat.add_zero] at HP15)) | ((with_reducible refine gate_store (t:=37) (p:=20) rfl ?_);refine store_event (t:=37) (p:=20) (v:=?vo_w16) (w1:=(w13.setCell ⟨go10,(x11_1 : Int).toNat,none⟩ (.slice A285_3 ((rd_T56 l0 x11_1).f3).length c285_3))) ?hg ?ho ?hn ?hr ?_;(case ho => rfl);(case hg => rfl);(case hn => rfl);(case hr => first | (go_simp;done) | (go_simp;rfl));intro w16 hw;have hg : w13.grownBy w16 (some go10):=(by rw [hw];exact HP15.2);have hp_ : Kd.N (Kd.slice 3 (Kd.int .i64)) 37 w16 w.heap.size (fun k_ => (P0_ k_ ∨ w.heap.size ≤ k_) ∧ k_ ≠ gb286) (.slice (some ⟨go10,0,none⟩) x3_1.length co10) y287:=(by rw [hw,Ny287.out];exact HP15.1);clear HP15;have n0_:=Aside0.mk (hp_);have n1_:=Aside0.mk (Kd.V_afterv (v:=(.slice (some ⟨go10,0,none⟩) x3_1.length co10)) (v1:=(.slice (some ⟨go10,0,none⟩) x3_1.length co10)) (ok:=(fun k_ => (P0_ k_ ∨ w.heap.size ≤ k_) ∧ k_ ≠ gb286)) (by (with_reducible repeat (first | apply Kd.V_alloc | apply Kd.V_drewN | apply Kd.V_drew));exact Kd.V_mono HO_9.out (fun _ hk => ⟨⟨hk.1,hk.2.2⟩,hk.2.1⟩)) hg (.inl rfl));have n2_:=Aside0.mk (Kd.V_afterv (v:=(.slice (some ⟨go10,0,none⟩) x3_1.length co10)) (v1:=(.slice (some ⟨go10,0,none⟩) x3_1.length co10)) (ok:=(fun k_ => (P0_ k_ ∨ w.heap.size ≤ k_) ∧ k_ ≠ gb286)) (by (with_reducible repeat (first | apply Kd.V_alloc | apply Kd.V_drewN | apply Kd.V_drew));exact Kd.V_mono HL285_0.out (fun _ hk => ⟨⟨hk.1,hk.2.2⟩,hk.2.1⟩)) hg (.inl rfl));have n3_:=Aside0.mk (Kd.V_afterv (v:=(.slice (some ⟨go10,0,none⟩) x3_1.length co10)) (v1:=(.slice (some ⟨go10,0,none⟩) x3_1.length co10)) (ok:=(fun k_ => (P0_ k_ ∨ w.heap.size ≤ k_) ∧ k_ ≠ gb286)) (by (with_reducible repeat (first | apply Kd.V_alloc | apply Kd.V_drewN | apply Kd.V_drew));exact Kd.V_mono HL285_3.out (fun _ hk => ⟨⟨hk.1,hk.2.2⟩,hk.2.1⟩)) hg (.inl rfl));have n4_:=Aside0.mk (blk_grown (g:=gb286) (o:=.cells #[.slice A285_0 ((rd_T56 l0 x11_1).f0).length c285_0,.int .i64 ((rd_T56 l0 x11_1).f1),.int .i64 ((rd_T56 l0 x11_1).f2),.slice A285_3 ((rd_T56 l0 x11_1).f3).length c285_3] 56 (0,0)) (by (with_reducible repeat (first | refine blk_drewN ?_ _ | refine blk_drew ?_ | refine blk_alloc ?_ _));exact BK286.out) hg (Kd.N_ne HO_3.out BK286.out (by decide)));have n5_:=Aside0.mk ((by rw [hw];exact below_set (HB.out) GB10.out : Below w.heap.size w w16));clear HO_3;clear HO_9;clear HL285_0;clear HL285_3;clear BK286;clear HB;have HO_3:=n0_;have HO_9:=n1_;have HL285_0:=n2_;have HL285_3:=n3_;have BK286:=n4_;have HB:=n5_;clear n0_ n1_ n2_ n3_ n4_ n5_;clear hg hw hp_))
   go_roundg k1
   case measure => have:=HK1.out;omega
   case rel => exact ⟨(y287),(wrap64 (x11_1 + 1)),(by first | rfl | (simp;done) | (simp [*];done)),H',⟨by have:=HK1.out;omega⟩,⟨by (with_reducible repeat (first | apply Kd.N_alloc | apply Kd.N_drewN | apply Kd.N_drew));exact Kd.N_mono HO_3.out (fun _ hk => hk.1)⟩,⟨by (with_reducible repeat (first | apply Kd.V_alloc | apply Kd.V_drewN | apply Kd.V_drew));exact Kd.V_mono HO_9.out (fun _ hk => ⟨hk.1.1,hk.2⟩)⟩,⟨by repeat (with_reducible first | exact HB.out | apply below_alloc | apply pw_below_drewN | apply below_drew1 | refine below_set ?_ GE286.out)⟩⟩

end Go.Proofs.Ythgkhfhfahifmaa.Q
