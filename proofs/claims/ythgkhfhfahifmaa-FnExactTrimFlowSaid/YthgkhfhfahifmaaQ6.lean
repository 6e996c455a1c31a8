-- WRITTEN BY A PROGRAM OF THIS SESSION
import Derived.Test.YthgkhfhfahifmaaQ0
import Derived.Test.YthgkhfhfahifmaaQ4
import Derived.Test.YthgkhfhfahifmaaQ5
namespace Go.Proofs.Ythgkhfhfahifmaa.Q
open Go.RowKit Go.Proofs.YthgkhfhfahifmaaW.PrintWords Go.Proofs.YthgkhfhfahifmaaW.PrintLast Go.Proofs.YthgkhfhfahifmaaW.PrintMore
attribute [local go_sem] max2_int min2_int max_two min_two max_three min_three max_four min_four   -- for this text's walks alone
set_option linter.unusedVariables false
set_option linter.unusedSimpArgs false

/-! ### impl_GoodFlow: function 12 (by hand: a literal that captures the blocks) -/
/-- The literal: whether a block is not right. -/
def impl_GoodFlow_1.f (k : Nat) (n : Int) (x : S56) : Option Bool:=(impl_codeOK.f k x.f0 12).bind fun c => (if c = true then ((impl_goOK.f k x.f1 x.f2 x.f3 12 n).bind fun g => (some (!g))) else some true)
theorem impl_GoodFlow_1.mono : ∀ a0 a1 k,LeO (impl_GoodFlow_1.f k a0 a1) (impl_GoodFlow_1.f (k + 1) a0 a1):=by
 intro a0 a1 k
 unfold impl_GoodFlow_1.f
 repeat' first
   | (with_reducible exact impl_codeOK.mono _ _ _)
   | (with_reducible exact impl_goOK.mono _ _ _ _ _ _)
   | (with_reducible exact LeO.refl _)
   | (with_reducible exact LeO.none _)
   | (with_reducible refine LeO.ite ?_ ?_)
   | (with_reducible refine LeO.bind ?_ (fun _ => ?_))
set_option maxHeartbeats 8000000 in
set_option maxRecDepth 100000 in
theorem impl_GoodFlow_1.calls (k : Nat) (b : Nat) (AF : Option Addr) (nF cF : Nat) (A0_ : Option Addr) (c0_ : Nat) (A3_ : Option Addr) (c3_ : Nat) (x : S56) (r : Bool) (w : World) (hbox : w.heap[b]? = some (.cells #[.slice AF nF cF] 25 (0,0))) (hl0 : x.f0.length ≤ c0_) (hc0 : Kd.C k79 w A0_ x.f0.length x.f0) (hl3 : x.f3.length ≤ c3_) (hc3 : Kd.C (Kd.int .i64) w A3_ x.f3.length x.f3) (h : impl_GoodFlow_1.f k (nF : Int) x = some r) :
  Calls Try.prog 41 #[.agg #[.slice A0_ x.f0.length c0_,.int .i64 x.f1,.int .i64 x.f2,.slice A3_ x.f3.length c3_],.pointer (some ⟨b,0,none⟩)] w fun e w' => e = .returned (.bool r) ∧ Below w.heap.size w w':=by
 have hu56:=Try.underlying56
 have hu25:=Try.underlying25
 have HX:=Aside0.mk (heap_alloc_new w (.cells #[.slice A0_ x.f0.length c0_,.int .i64 x.f1,.int .i64 x.f2,.slice A3_ x.f3.length c3_] 56))
 have HB:=Aside0.mk (below_alloc (Below.refl w.heap.size w) (.cells #[.slice A0_ x.f0.length c0_,.int .i64 x.f1,.int .i64 x.f2,.slice A3_ x.f3.length c3_] 56))
 have HBX:=Aside0.mk (blk_alloc hbox (.cells #[.slice A0_ x.f0.length c0_,.int .i64 x.f1,.int .i64 x.f2,.slice A3_ x.f3.length c3_] 56))
 have HC0:=Aside0.mk hc0
 have HL0:=Aside0.mk hl0
 have HC3:=Aside0.mk hc3
 have HL3:=Aside0.mk hl3
 obtain ⟨c,A1_,H⟩:=Option.bind_eq_some_iff.mp h
 have A:=Aside0.mk A1_
 clear h A1_ hbox hc0 hl0 hc3 hl3
 cases c with
 | true =>
  rw [if_pos rfl] at H
  obtain ⟨g,G1,H⟩:=Option.bind_eq_some_iff.mp H
  obtain rfl:=Option.some.inj H
  have G:=Aside0.mk G1
  clear G1 H
  go_enter Try.func41,Try.ntmps41
  go_wp2_with (first | (go_at_call 42;(refine (impl_codeOK.calls k A0_ c0_ x.f0 12 true _ (Kd.C_below HC0.out HB.out) HL0.out A.out).mono ?_);rintro e w6 ⟨rfl,hb⟩;have HB6:=Aside0.mk (below_step HB.out hb);have HX6:=Aside0.mk (blk_below HX.out hb);have HBX6:=Aside0.mk (blk_below HBX.out hb);have hx1 : w6.cell? ⟨w.heap.size,1,none⟩ = some (.int .i64 x.f1):=(blk_cell HX6.out 1).trans rfl;have hx2 : w6.cell? ⟨w.heap.size,2,none⟩ = some (.int .i64 x.f2):=(blk_cell HX6.out 2).trans rfl;have hx3 : w6.cell? ⟨w.heap.size,3,none⟩ = some (.slice A3_ x.f3.length c3_):=(blk_cell HX6.out 3).trans rfl;have hxb : w6.cell? ⟨b,0,none⟩ = some (.slice AF nF cF):=(blk_cell HBX6.out 0).trans rfl;clear hb) | (go_at_call 43;(refine (impl_goOK.calls k x.f1 x.f2 A3_ c3_ x.f3 12 (nF : Int) g _ (Kd.C_below HC3.out HB6.out) HL3.out G.out).mono ?_);rintro e w7 ⟨rfl,hb⟩;have HB7:=Aside0.mk (below_step HB6.out hb);clear hb))
  go_ret
  exact ⟨rfl,HB7.out⟩
 | false =>
  rw [if_neg (by decide)] at H
  obtain rfl:=Option.some.inj H
  clear H
  go_enter Try.func41,Try.ntmps41
  go_wp2_with (first | (go_at_call 42;(refine (impl_codeOK.calls k A0_ c0_ x.f0 12 false _ (Kd.C_below HC0.out HB.out) HL0.out A.out).mono ?_);rintro e w6 ⟨rfl,hb⟩;have HB6:=Aside0.mk (below_step HB.out hb);clear hb))
  go_ret
  exact ⟨rfl,HB6.out⟩
/-- slices.IndexFunc with that literal. -/
def impl_GoodFlow_1_ix.l0 : Nat → Int → List S56 → Int → Option Int
 | 0,_,_,_ => none
 | k + 1,n,xs,i => if i < (xs.length : Int) then (if 0 ≤ i then ((impl_GoodFlow_1.f k n (rd_T56 xs i)).bind fun t => (if t = true then (some i) else (impl_GoodFlow_1_ix.l0 k n xs (wrap64 (i + 1))))) else none) else some (-1)
theorem impl_GoodFlow_1_ix.mono_l : ∀ k,∀ y0 y1 y2,LeO (impl_GoodFlow_1_ix.l0 k y0 y1 y2) (impl_GoodFlow_1_ix.l0 (k + 1) y0 y1 y2)
 | 0 => fun _ _ _ r h => by simp [impl_GoodFlow_1_ix.l0] at h
 | k + 1 => by
  have ih0:=impl_GoodFlow_1_ix.mono_l k
  intro y0 y1 y2
  unfold impl_GoodFlow_1_ix.l0
  repeat' first
   | (with_reducible exact ih0 _ _ _)
   | (with_reducible exact impl_GoodFlow_1.mono _ _ _)
   | (with_reducible exact LeO.refl _)
   | (with_reducible exact LeO.none _)
   | (with_reducible refine LeO.ite ?_ ?_)
   | (with_reducible refine LeO.bind ?_ (fun _ => ?_))
theorem impl_GoodFlow_1_ix.mono : ∀ y0 y1 y2 k,LeO (impl_GoodFlow_1_ix.l0 k y0 y1 y2) (impl_GoodFlow_1_ix.l0 (k + 1) y0 y1 y2):=fun y0 y1 y2 k => impl_GoodFlow_1_ix.mono_l k y0 y1 y2
set_option maxHeartbeats 8000000 in
set_option maxRecDepth 100000 in
theorem impl_GoodFlow_1_ix.calls (k : Nat) (b : Nat) (AF : Option Addr) (nF cF : Nat) (A1 : Option Addr) (c1 : Nat) (xs : List S56) (r : Int) (w : World) (hbox : w.heap[b]? = some (.cells #[.slice AF nF cF] 25 (0,0))) (hr1 : Kd.C k56 w A1 xs.length xs) (h : impl_GoodFlow_1_ix.l0 k (nF : Int) xs 0 = some r) :
  Calls Try.prog 66 #[.slice A1 xs.length c1,.func (.func 41) #[] #[.pointer (some ⟨b,0,none⟩)]] w fun e w' => e = .returned (.int .i64 r) ∧ Below w.heap.size w w':=by
 have huT:=Try.underlying56
 have HR0:=Aside0.mk hr1
 have HB0:=Aside0.mk hbox
 have H':=Aside0.mk h
 clear hr1 hbox h
 go_enter Try.func66,Try.ntmps66
 go_wp2
 go_loopg [8] k (fun kq v8 w' => ∃ (x8_1 : Int),v8 = .int .i64 x8_1 ∧ Aside0 (impl_GoodFlow_1_ix.l0 kq (nF : Int) xs x8_1 = some r) ∧ Aside0 (kq ≤ k) ∧ Aside0 (Below w.heap.size w w'))
 case atStart => exact ⟨0,rfl,H',⟨Nat.le_refl _⟩,⟨Below.refl _ _⟩⟩
 case round =>
  clear H'
  obtain ⟨x8_1,rfl,HA,HK1,HB⟩:=hrel
  cases gk with
  | zero => exact absurd HA.out (by simp [impl_GoodFlow_1_ix.l0])
  | succ k1 =>
   have H:=HA.out
   clear HA
   simp only [impl_GoodFlow_1_ix.l0] at H
   by_cases c3 : x8_1 < (xs.length : Int)
   ·rw [if_pos c3] at H
    have c3b0 : decide (x8_1 < (xs.length : Int)) = true:=decide_eq_true c3
    by_cases c4 : 0 ≤ x8_1
    ·rw [if_pos c4] at H
     have c4b0 : decide (0 ≤ x8_1) = true:=decide_eq_true c4
     obtain ⟨t,A60,H⟩:=Option.bind_eq_some_iff.mp H
     obtain ⟨ad,A0_,c0_,A3_,c3_,eA,hx0,hx1,hx2,hx3,hl0,hc0,hl3,hc3⟩:=at_T56 (Kd.C_below HR0.out HB.out) x8_1 c4 c3
     cases eA
     obtain ⟨y,hy⟩ : ∃ y,y = rd_T56 xs x8_1:=⟨_,rfl⟩
     rw [← hy] at hx0 hx1 hx2 hx3 hl0 hc0 hl3 hc3 A60
     have A6:=Aside0.mk A60
     have HL0:=Aside0.mk hl0;have HC0:=Aside0.mk hc0;have HL3:=Aside0.mk hl3;have HC3:=Aside0.mk hc3
     clear A60 hy hl0 hc0 hl3 hc3
     have p3:=eq_true c3
     have p4:=eq_true c4
     clear c3 c4
     cases t with
     | true =>
      rw [if_pos rfl] at H
      obtain rfl:=Option.some.inj H
      go_wp2_with (first | (go_at_call 41;(refine (impl_GoodFlow_1.calls k1 b AF nF cF A0_ c0_ A3_ c3_ y true _ (blk_below HB0.out HB.out) HL0.out HC0.out HL3.out HC3.out A6.out).mono ?_);rintro e w6 ⟨rfl,hb⟩;have HB6:=Aside0.mk (below_step HB.out hb);clear hb))
      go_ret
      exact ⟨rfl,HB6.out⟩
     | false =>
      rw [if_neg (by decide)] at H
      have H':=Aside0.mk H
      clear H
      go_wp2_with (first | (go_at_call 41;(refine (impl_GoodFlow_1.calls k1 b AF nF cF A0_ c0_ A3_ c3_ y false _ (blk_below HB0.out HB.out) HL0.out HC0.out HL3.out HC3.out A6.out).mono ?_);rintro e w6 ⟨rfl,hb⟩;have HB6:=Aside0.mk (below_step HB.out hb);clear hb))
      go_roundg k1
      case measure => have:=HK1.out;omega
      case rel => exact ⟨(wrap64 (x8_1 + 1)),rfl,H',⟨by have:=HK1.out;omega⟩,HB6⟩
    ·rw [if_neg c4] at H
     exact absurd H (by simp)
   ·rw [if_neg c3] at H
    have c3b0 : decide (x8_1 < (xs.length : Int)) = false:=decide_eq_false c3
    clear c3
    obtain rfl:=Option.some.inj H
    go_wp2
    go_ret
    exact ⟨rfl,HB.out⟩
set_option maxHeartbeats 8000000 in
set_option maxRecDepth 100000 in
theorem impl_GoodFlow_1_cf.calls (k : Nat) (b : Nat) (AF : Option Addr) (nF cF : Nat) (A1 : Option Addr) (c1 : Nat) (xs : List S56) (r : Int) (w : World) (hbox : w.heap[b]? = some (.cells #[.slice AF nF cF] 25 (0,0))) (hr1 : Kd.C k56 w A1 xs.length xs) (h : impl_GoodFlow_1_ix.l0 k (nF : Int) xs 0 = some r) :
  Calls Try.prog 40 #[.slice A1 xs.length c1,.func (.func 41) #[] #[.pointer (some ⟨b,0,none⟩)]] w fun e w' => e = .returned (.bool (decide (r ≥ 0))) ∧ Below w.heap.size w w':=by
 have HR0:=Aside0.mk hr1
 have HB0:=Aside0.mk hbox
 have H':=Aside0.mk h
 clear hr1 hbox h
 go_enter Try.func40,Try.ntmps40
 go_wp2_with (first | (go_at_call 66;(refine (impl_GoodFlow_1_ix.calls k b AF nF cF A1 c1 xs r _ HB0.out HR0.out H'.out).mono ?_);rintro e w6 ⟨rfl,hb⟩;have HB6:=Aside0.mk hb;clear hb))
 go_ret
 exact ⟨rfl,HB6.out⟩
def impl_GoodFlow.f (k : Nat) (l : List S56) : Option Bool:=(impl_within.f (l.length : Int) 1 64).bind fun t => (if t = true then ((impl_GoodFlow_1_ix.l0 k (l.length : Int) l 0).bind fun i => (some (!decide (i ≥ 0)))) else (some false))
theorem impl_GoodFlow.mono : ∀ a0 k,LeO (impl_GoodFlow.f k a0) (impl_GoodFlow.f (k + 1) a0):=by
 intro a0 k
 unfold impl_GoodFlow.f
 repeat' first
   | (with_reducible exact impl_GoodFlow_1_ix.mono _ _ _ _)
   | (with_reducible exact LeO.refl _)
   | (with_reducible exact LeO.none _)
   | (with_reducible refine LeO.ite ?_ ?_)
   | (with_reducible refine LeO.bind ?_ (fun _ => ?_))
set_option maxHeartbeats 8000000 in
set_option maxRecDepth 100000 in
theorem impl_GoodFlow.calls (k : Nat) (A0 : Option Addr) (c0 : Nat) (l0 : List S56) (r : Bool) (w : World) (hr0 : Kd.C k56 w A0 l0.length l0) (hc0 : l0.length ≤ c0) (h : impl_GoodFlow.f k l0 = some r) :
  Calls Try.prog 12 #[.slice A0 l0.length c0] w fun e w' => e = .returned (.bool r) ∧ Below w.heap.size w w':=by
 have hu25:=Try.underlying25
 have HR0:=Aside0.mk hr0
 have HBX:=Aside0.mk (heap_alloc_new w (.cells #[.slice A0 l0.length c0] 25))
 have HB:=Aside0.mk (below_alloc (Below.refl w.heap.size w) (.cells #[.slice A0 l0.length c0] 25))
 clear hr0 hc0
 unfold impl_GoodFlow.f at h
 obtain ⟨t,A1,H⟩:=Option.bind_eq_some_iff.mp h
 have A:=Aside0.mk A1
 clear h A1
 cases t with
 | false =>
  rw [if_neg (by decide)] at H
  obtain rfl:=Option.some.inj H
  go_enter Try.func12,Try.ntmps12
  go_wp2_with (first | (go_at_call 39;(with_reducible refine (impl_within.calls (l0.length : Int) 1 64 false _ A.out).mono ?_);rintro e w' ⟨rfl,⟨nd,rfl⟩⟩))
  go_ret
  exact ⟨rfl,by repeat (first | (with_reducible first | exact HB.out | apply below_alloc | apply pw_below_drewN | apply below_drew1) | exact HB.out)⟩
 | true =>
  rw [if_pos rfl] at H
  obtain ⟨i,B1,H⟩:=Option.bind_eq_some_iff.mp H
  obtain rfl:=Option.some.inj H
  have B:=Aside0.mk B1
  clear B1 H
  go_enter Try.func12,Try.ntmps12
  go_wp2_with (first | (go_at_call 39;(with_reducible refine (impl_within.calls (l0.length : Int) 1 64 true _ A.out).mono ?_);rintro e w' ⟨rfl,⟨nd,rfl⟩⟩;have HBN:=Aside0.mk (pw_below_drewN HB.out nd)) | (go_at_call 40;(refine (impl_GoodFlow_1_cf.calls k w.heap.size A0 l0.length c0 A0 c0 l0 i _ (blk_drewN HBX.out _) (Kd.C_below HR0.out HBN.out) B.out).mono ?_);rintro e w6 ⟨rfl,hb⟩;have HB6:=Aside0.mk (below_step HBN.out hb);clear hb))
  go_ret
  exact ⟨rfl,HB6.out⟩


/-! ### laws_eqIntS: function 22 -/
def laws_eqIntS.l0 : Nat → List Int → List Int → Int → Option (Bool)
 | 0,_,_,_ => none
 | k + 1,x0,x1,x5 => if x5 < (x0.length : Int) then (if 0 ≤ x5 then (if x5 < (x1.length : Int) then (if (rd x0 x5) = (rd x1 x5) then (laws_eqIntS.l0 k x0 x1 (wrap64 (x5 + 1))) else (some false)) else (none)) else (none)) else (some true)
def laws_eqIntS.f (k : Nat) (l0 : List Int) (l1 : List Int) : Option (Bool):=if (l0.length : Int) = (l1.length : Int) then (laws_eqIntS.l0 k l0 l1 0) else (some false)
theorem laws_eqIntS.mono_l : ∀ k,(∀ y0 y1 y2,LeO (laws_eqIntS.l0 k y0 y1 y2) (laws_eqIntS.l0 (k + 1) y0 y1 y2))
 | 0 => fun _ _ _ r h => by simp [laws_eqIntS.l0] at h
 | k + 1 => by
  have ih0:=laws_eqIntS.mono_l k
  ·intro y0 y1 y2
   unfold laws_eqIntS.l0
   repeat' first
   | (with_reducible exact ih0 _ _ _)
   | (with_reducible exact LeO.refl _)
   | (with_reducible exact LeO.none _)
   | (with_reducible refine LeO.ite ?_ ?_)
   | (with_reducible refine LeO.bind ?_ (fun _ => ?_))
   | exact ih0 _ _ _
   | exact LeO.none _
   | refine LeO.ite ?_ ?_
   | refine LeO.bind ?_ (fun _ => ?_)
theorem laws_eqIntS.mono : ∀ a0 a1 k,LeO (laws_eqIntS.f k a0 a1) (laws_eqIntS.f (k + 1) a0 a1):=by
 intro a0 a1 k
 have ih0:=laws_eqIntS.mono_l k
 unfold laws_eqIntS.f
 repeat' first
   | (with_reducible exact ih0 _ _ _)
   | (with_reducible exact LeO.refl _)
   | (with_reducible exact LeO.none _)
   | (with_reducible refine LeO.ite ?_ ?_)
   | (with_reducible refine LeO.bind ?_ (fun _ => ?_))
   | exact ih0 _ _ _
   | exact LeO.none _
   | refine LeO.ite ?_ ?_
   | refine LeO.bind ?_ (fun _ => ?_)
set_option maxHeartbeats 8000000 in
set_option maxRecDepth 100000 in
theorem laws_eqIntS.calls (k : Nat) (A0 : Option Addr) (c0 : Nat) (l0 : List Int) (A1 : Option Addr) (c1 : Nat) (l1 : List Int) (r : Bool) (w : World) (hr0 : Kd.C (Kd.int .i64) w A0 l0.length l0) (hc0 : l0.length ≤ c0) (hr1 : Kd.C (Kd.int .i64) w A1 l1.length l1) (hc1 : l1.length ≤ c1) (h : laws_eqIntS.f k l0 l1 = some r) :
  Calls Try.prog 22 #[.slice A0 l0.length c0,.slice A1 l1.length c1] w fun e w' => e = .returned (.bool r) ∧ Drawn0 w w':=by
 have HR0:=Aside0.mk hr0
 have HC0:=Aside0.mk hc0
 clear hr0 hc0
 have HR1:=Aside0.mk hr1
 have HC1:=Aside0.mk hc1
 clear hr1 hc1
 have H : (if (l0.length : Int) = (l1.length : Int) then (laws_eqIntS.l0 k l0 l1 0) else (some false)) = some r:=h
 clear h
 by_cases c3 : (l0.length : Int) = (l1.length : Int)
 ·rw [if_pos c3] at H
  have c3b0 : ((l0.length : Int) == (l1.length : Int)) = true:=beq_iff_eq.mpr c3
  have c3b1 : ((l0.length : Int) != (l1.length : Int)) = false:=bne_eq_false_iff_eq.mpr c3
  have c3b2 : (l0.length == l1.length) = true:=by first | simpa using c3 | (simp at c3 ⊢;omega)
  clear c3
  have H':=Aside0.mk H
  clear H
  go_enter Try.func22,Try.ntmps22
  go_wp2
  repeat (go_quiet (fail);try go_wp2)
  go_loopg [5] k (fun kq v5 w' => ∃ (x5_1 : Int),v5 = .int .i64 x5_1 ∧ Aside0 (laws_eqIntS.l0 kq l0 l1 x5_1 = some r) ∧ Aside0 (kq ≤ k) ∧ Drawn0 w w')
  case atStart => exact ⟨(0),(by first | rfl | (simp;done) | (simp [*];done)),H',⟨Nat.le_refl _⟩,by repeat (first | exact Drawn0.refl _ | apply Drawn0.step)⟩
  case round =>
   clear H'
   try clear c1
   try clear c2
   try clear p2
   try clear c3
   try clear c3b0
   try clear c3b1
   try clear c3b2
   obtain ⟨x5_1,rfl,HA,HK1,⟨m1,rfl⟩⟩:=hrel
   cases gk with
   | zero => exact absurd HA.out (by simp [laws_eqIntS.l0])
   | succ k1 =>
    have H:=HA.out
    clear HA
    simp only [laws_eqIntS.l0] at H
    by_cases c4 : x5_1 < (l0.length : Int)
    ·rw [if_pos c4] at H
     have c4b0 : decide (x5_1 < (l0.length : Int)) = true:=decide_eq_true c4
     clear c4
     by_cases c5 : 0 ≤ x5_1
     ·rw [if_pos c5] at H
      have c5b0 : decide (0 ≤ x5_1) = true:=decide_eq_true c5
      clear c5
      by_cases c6 : x5_1 < (l1.length : Int)
      ·rw [if_pos c6] at H
       have c6b0 : decide (x5_1 < (l1.length : Int)) = true:=decide_eq_true c6
       clear c6
       by_cases c7 : (rd l0 x5_1) = (rd l1 x5_1)
       ·rw [if_pos c7] at H
        have c7b0 : ((rd l0 x5_1) == (rd l1 x5_1)) = true:=beq_iff_eq.mpr c7
        have c7b1 : ((rd l0 x5_1) != (rd l1 x5_1)) = false:=bne_eq_false_iff_eq.mpr c7
        clear c7
        have H':=Aside0.mk H
        clear H
        have p179 : 0 ≤ (x5_1 : Int):=of_decide_eq_true (by first | (with_reducible assumption) | assumption)
        have q179 : x5_1 < (l0.length : Int):=of_decide_eq_true (by first | (with_reducible assumption) | assumption)
        obtain ⟨ad179,e179,hx179_0⟩:=Kd.at_int HR0.out x5_1 p179 q179
        cases e179
        replace p179:=eq_true p179
        replace q179:=eq_true q179
        have p180 : 0 ≤ (x5_1 : Int):=of_decide_eq_true (by first | (with_reducible assumption) | assumption)
        have q180 : x5_1 < (l1.length : Int):=of_decide_eq_true (by first | (with_reducible assumption) | assumption)
        obtain ⟨ad180,e180,hx180_0⟩:=Kd.at_int HR1.out x5_1 p180 q180
        cases e180
        replace p180:=eq_true p180
        replace q180:=eq_true q180
        go_wp2
        repeat (go_quiet (fail);try go_wp2)
        go_roundg k1
        case measure => have:=HK1.out;omega
        case rel => exact ⟨(wrap64 (x5_1 + 1)),(by first | rfl | (simp;done) | (simp [*];done)),H',⟨by have:=HK1.out;omega⟩,by repeat (first | exact Drawn0.refl _ | apply Drawn0.step)⟩
       ·rw [if_neg c7] at H
        have c7b0 : ((rd l0 x5_1) == (rd l1 x5_1)) = false:=beq_eq_false_iff_ne.mpr c7
        have c7b1 : ((rd l0 x5_1) != (rd l1 x5_1)) = true:=bne_iff_ne.mpr c7
        obtain rfl:=Option.some.inj H
        have p179 : 0 ≤ (x5_1 : Int):=of_decide_eq_true (by first | (with_reducible assumption) | assumption)
        have q179 : x5_1 < (l0.length : Int):=of_decide_eq_true (by first | (with_reducible assumption) | assumption)
        obtain ⟨ad179,e179,hx179_0⟩:=Kd.at_int HR0.out x5_1 p179 q179
        cases e179
        replace p179:=eq_true p179
        replace q179:=eq_true q179
        have p180 : 0 ≤ (x5_1 : Int):=of_decide_eq_true (by first | (with_reducible assumption) | assumption)
        have q180 : x5_1 < (l1.length : Int):=of_decide_eq_true (by first | (with_reducible assumption) | assumption)
        obtain ⟨ad180,e180,hx180_0⟩:=Kd.at_int HR1.out x5_1 p180 q180
        cases e180
        replace p180:=eq_true p180
        replace q180:=eq_true q180
        go_wp2
        repeat (go_quiet (fail);try go_wp2)
        go_ret
        exact ⟨by first | rfl | (simp;done) | (simp [*];done),by repeat (first | exact Drawn0.refl _ | apply Drawn0.step)⟩
      ·rw [if_neg c6] at H
       exact absurd H (by simp)
     ·rw [if_neg c5] at H
      exact absurd H (by simp)
    ·rw [if_neg c4] at H
     have c4b0 : decide (x5_1 < (l0.length : Int)) = false:=decide_eq_false c4
     clear c4
     obtain rfl:=Option.some.inj H
     go_wp2
     repeat (go_quiet (fail);try go_wp2)
     go_ret
     exact ⟨by first | rfl | (simp;done) | (simp [*];done),by repeat (first | exact Drawn0.refl _ | apply Drawn0.step)⟩
 ·rw [if_neg c3] at H
  have c3b0 : ((l0.length : Int) == (l1.length : Int)) = false:=beq_eq_false_iff_ne.mpr c3
  have c3b1 : ((l0.length : Int) != (l1.length : Int)) = true:=bne_iff_ne.mpr c3
  have c3b2 : (l0.length == l1.length) = false:=by first | simpa using c3 | (simp at c3 ⊢;omega)
  obtain rfl:=Option.some.inj H
  go_enter Try.func22,Try.ntmps22
  go_wp2
  repeat (go_quiet (fail);try go_wp2)
  go_ret
  exact ⟨by first | rfl | (simp;done) | (simp [*];done),by repeat (first | exact Drawn0.refl _ | apply Drawn0.step)⟩

/-! ### laws_eqFlat: function 91 -/
def laws_eqFlat.f (a0_0 : Int) (a0_1 : Int) (a0_2 : Int) (a0_3 : Int) (a0_4 : Int) (a0_5 : Int) (a1_0 : Int) (a1_1 : Int) (a1_2 : Int) (a1_3 : Int) (a1_4 : Int) (a1_5 : Int) : Option (Bool):=if a0_0 = a1_0 then (if a0_1 = a1_1 then (if a0_2 = a1_2 then (if a0_3 = a1_3 then (if a0_4 = a1_4 then (if a0_5 = a1_5 then (some true) else (some false)) else (some false)) else (some false)) else (some false)) else (some false)) else (some false)
set_option maxHeartbeats 8000000 in
set_option maxRecDepth 100000 in
theorem laws_eqFlat.calls (a0_0 : Int) (a0_1 : Int) (a0_2 : Int) (a0_3 : Int) (a0_4 : Int) (a0_5 : Int) (a1_0 : Int) (a1_1 : Int) (a1_2 : Int) (a1_3 : Int) (a1_4 : Int) (a1_5 : Int) (r : Bool) (w : World) (h : laws_eqFlat.f a0_0 a0_1 a0_2 a0_3 a0_4 a0_5 a1_0 a1_1 a1_2 a1_3 a1_4 a1_5 = some r) :
  Calls Try.prog 91 #[.agg #[.int .i64 a0_0,.int .i64 a0_1,.int .i64 a0_2,.int .i64 a0_3,.int .i64 a0_4,.int .i64 a0_5],.agg #[.int .i64 a1_0,.int .i64 a1_1,.int .i64 a1_2,.int .i64 a1_3,.int .i64 a1_4,.int .i64 a1_5]] w fun e w' => e = .returned (.bool r) ∧ Below w.heap.size w w':=by
 have hu79:=Try.underlying79
 have HB:=Aside0.mk (Below.refl w.heap.size w)
 have H : (if a0_0 = a1_0 then (if a0_1 = a1_1 then (if a0_2 = a1_2 then (if a0_3 = a1_3 then (if a0_4 = a1_4 then (if a0_5 = a1_5 then (some true) else (some false)) else (some false)) else (some false)) else (some false)) else (some false)) else (some false)) = some r:=h
 clear h
 by_cases c3 : a0_0 = a1_0
 ·rw [if_pos c3] at H
  have c3b0 : (a0_0 == a1_0) = true:=beq_iff_eq.mpr c3
  have c3b1 : (a0_0 != a1_0) = false:=bne_eq_false_iff_eq.mpr c3
  clear c3
  by_cases c4 : a0_1 = a1_1
  ·rw [if_pos c4] at H
   have c4b0 : (a0_1 == a1_1) = true:=beq_iff_eq.mpr c4
   have c4b1 : (a0_1 != a1_1) = false:=bne_eq_false_iff_eq.mpr c4
   clear c4
   by_cases c5 : a0_2 = a1_2
   ·rw [if_pos c5] at H
    have c5b0 : (a0_2 == a1_2) = true:=beq_iff_eq.mpr c5
    have c5b1 : (a0_2 != a1_2) = false:=bne_eq_false_iff_eq.mpr c5
    clear c5
    by_cases c6 : a0_3 = a1_3
    ·rw [if_pos c6] at H
     have c6b0 : (a0_3 == a1_3) = true:=beq_iff_eq.mpr c6
     have c6b1 : (a0_3 != a1_3) = false:=bne_eq_false_iff_eq.mpr c6
     clear c6
     by_cases c7 : a0_4 = a1_4
     ·rw [if_pos c7] at H
      have c7b0 : (a0_4 == a1_4) = true:=beq_iff_eq.mpr c7
      have c7b1 : (a0_4 != a1_4) = false:=bne_eq_false_iff_eq.mpr c7
      clear c7
      by_cases c8 : a0_5 = a1_5
      ·rw [if_pos c8] at H
       have c8b0 : (a0_5 == a1_5) = true:=beq_iff_eq.mpr c8
       have c8b1 : (a0_5 != a1_5) = false:=bne_eq_false_iff_eq.mpr c8
       clear c8
       obtain rfl:=Option.some.inj H
       go_enter Try.func91,Try.ntmps91
       go_wp2_with (first | ((with_reducible refine gate_dst (N:=2) rfl ?_);refine box_event ?hg (N:=2) ?hd (cs:=#[.int .i64 a0_0,.int .i64 a0_1,.int .i64 a0_2,.int .i64 a0_3,.int .i64 a0_4,.int .i64 a0_5]) (t:=79) ?hr ?_;(case hd => rfl);(case hg => rfl);(case hr => first | (go_simp;done) | (go_simp;rfl));intro gb181 hg w9 hbox hb;have n0_:=Aside0.mk (below_step (by repeat (first | (with_reducible first | exact HB.out | apply below_alloc | apply pw_below_drewN | apply below_drew1) | exact HB.out)) hb);have n1_:=Aside0.mk (hbox);have n2_:=Aside0.mk ((by rw [hg];exact (below_size (by repeat (first | (with_reducible first | exact HB.out | apply below_alloc | apply pw_below_drewN | apply below_drew1) | exact HB.out))) : w.heap.size ≤ gb181));have n3_:=Aside0.mk ((by rw [hg];exact (below_size (by repeat (first | (with_reducible first | exact HB.out | apply below_alloc | apply pw_below_drewN | apply below_drew1) | exact HB.out))) : w.heap.size ≤ gb181));clear HB;have HB:=n0_;have BK181:=n1_;have GW181:=n2_;have GE181:=n3_;clear n0_ n1_ n2_ n3_;clear hb hbox hg) | ((with_reducible refine gate_dst (N:=3) rfl ?_);refine box_event ?hg (N:=3) ?hd (cs:=#[.int .i64 a1_0,.int .i64 a1_1,.int .i64 a1_2,.int .i64 a1_3,.int .i64 a1_4,.int .i64 a1_5]) (t:=79) ?hr ?_;(case hd => rfl);(case hg => rfl);(case hr => first | (go_simp;done) | (go_simp;rfl));intro gb182 hg w10 hbox hb;have n0_:=Aside0.mk (blk_below (g:=gb181) (o:=.cells #[.int .i64 a0_0,.int .i64 a0_1,.int .i64 a0_2,.int .i64 a0_3,.int .i64 a0_4,.int .i64 a0_5] 79 (0,0)) (by (with_reducible repeat (first | refine blk_drewN ?_ _ | refine blk_drew ?_ | refine blk_alloc ?_ _));exact BK181.out) hb);have n1_:=Aside0.mk (below_step (by repeat (first | (with_reducible first | exact HB.out | apply below_alloc | apply pw_below_drewN | apply below_drew1 | refine below_set ?_ GE181.out) | exact HB.out)) hb);have n2_:=Aside0.mk (hbox);have n3_:=Aside0.mk ((by rw [hg];exact (below_size (by repeat (first | (with_reducible first | exact HB.out | apply below_alloc | apply pw_below_drewN | apply below_drew1 | refine below_set ?_ GE181.out) | exact HB.out))) : w.heap.size ≤ gb182));have n4_:=Aside0.mk ((by rw [hg];exact (below_size (by repeat (first | (with_reducible first | exact HB.out | apply below_alloc | apply pw_below_drewN | apply below_drew1 | refine below_set ?_ GE181.out) | exact HB.out))) : w.heap.size ≤ gb182));have n5_:=Aside0.mk ((by rw [hg];exact Nat.ne_of_lt (blk_lt (g:=gb181) (o:=.cells #[.int .i64 a0_0,.int .i64 a0_1,.int .i64 a0_2,.int .i64 a0_3,.int .i64 a0_4,.int .i64 a0_5] 79 (0,0)) (by (with_reducible repeat (first | refine blk_drewN ?_ _ | refine blk_drew ?_ | refine blk_alloc ?_ _));exact BK181.out)) : gb181 ≠ gb182));have n6_:=Aside0.mk ((by rw [hg];exact Nat.ne_of_gt (blk_lt (g:=gb181) (o:=.cells #[.int .i64 a0_0,.int .i64 a0_1,.int .i64 a0_2,.int .i64 a0_3,.int .i64 a0_4,.int .i64 a0_5] 79 (0,0)) (by (with_reducible repeat (first | refine blk_drewN ?_ _ | refine blk_drew ?_ | refine blk_alloc ?_ _));exact BK181.out)) : gb182 ≠ gb181));clear BK181;clear HB;have BK181:=n0_;have HB:=n1_;have BK182:=n2_;have GW182:=n3_;have GE182:=n4_;have NB181_182:=n5_;have NB182_181:=n6_;clear n0_ n1_ n2_ n3_ n4_ n5_ n6_;clear hb hbox hg;have hnb11:=NB181_182.out;have hnc11:=NB182_181.out;have hcz12_0 : w10.cell? ⟨gb181,0,none⟩ = some (.int .i64 a0_0):=(blk_cell BK181.out 0).trans rfl;have hcz12_1 : w10.cell? ⟨gb181,1,none⟩ = some (.int .i64 a0_1):=(blk_cell BK181.out 1).trans rfl;have hcz12_2 : w10.cell? ⟨gb181,2,none⟩ = some (.int .i64 a0_2):=(blk_cell BK181.out 2).trans rfl;have hcz12_3 : w10.cell? ⟨gb181,3,none⟩ = some (.int .i64 a0_3):=(blk_cell BK181.out 3).trans rfl;have hcz12_4 : w10.cell? ⟨gb181,4,none⟩ = some (.int .i64 a0_4):=(blk_cell BK181.out 4).trans rfl;have hcz12_5 : w10.cell? ⟨gb181,5,none⟩ = some (.int .i64 a0_5):=(blk_cell BK181.out 5).trans rfl;have hfz12_0:=blk_frozen BK181.out 0;have hfz12_1:=blk_frozen BK181.out 1;have hfz12_2:=blk_frozen BK181.out 2;have hfz12_3:=blk_frozen BK181.out 3;have hfz12_4:=blk_frozen BK181.out 4;have hfz12_5:=blk_frozen BK181.out 5;have hcz13_0 : w10.cell? ⟨gb182,0,none⟩ = some (.int .i64 a1_0):=(blk_cell BK182.out 0).trans rfl;have hcz13_1 : w10.cell? ⟨gb182,1,none⟩ = some (.int .i64 a1_1):=(blk_cell BK182.out 1).trans rfl;have hcz13_2 : w10.cell? ⟨gb182,2,none⟩ = some (.int .i64 a1_2):=(blk_cell BK182.out 2).trans rfl;have hcz13_3 : w10.cell? ⟨gb182,3,none⟩ = some (.int .i64 a1_3):=(blk_cell BK182.out 3).trans rfl;have hcz13_4 : w10.cell? ⟨gb182,4,none⟩ = some (.int .i64 a1_4):=(blk_cell BK182.out 4).trans rfl;have hcz13_5 : w10.cell? ⟨gb182,5,none⟩ = some (.int .i64 a1_5):=(blk_cell BK182.out 5).trans rfl;have hfz13_0:=blk_frozen BK182.out 0;have hfz13_1:=blk_frozen BK182.out 1;have hfz13_2:=blk_frozen BK182.out 2;have hfz13_3:=blk_frozen BK182.out 3;have hfz13_4:=blk_frozen BK182.out 4;have hfz13_5:=blk_frozen BK182.out 5))
       go_ret
       exact ⟨by first | rfl | (simp [errW_none,errW_some] <;> rfl) | (simp [*,errW_none,errW_some] <;> rfl),by repeat (first | (with_reducible first | exact HB.out | apply below_alloc | apply pw_below_drewN | apply below_drew1 | refine below_set ?_ GE181.out | refine below_set ?_ GE182.out) | exact HB.out)⟩
      ·rw [if_neg c8] at H
       have c8b0 : (a0_5 == a1_5) = false:=beq_eq_false_iff_ne.mpr c8
       have c8b1 : (a0_5 != a1_5) = true:=bne_iff_ne.mpr c8
       obtain rfl:=Option.some.inj H
       go_enter Try.func91,Try.ntmps91
       go_wp2_with (first | ((with_reducible refine gate_dst (N:=2) rfl ?_);refine box_event ?hg (N:=2) ?hd (cs:=#[.int .i64 a0_0,.int .i64 a0_1,.int .i64 a0_2,.int .i64 a0_3,.int .i64 a0_4,.int .i64 a0_5]) (t:=79) ?hr ?_;(case hd => rfl);(case hg => rfl);(case hr => first | (go_simp;done) | (go_simp;rfl));intro gb181 hg w14 hbox hb;have n0_:=Aside0.mk (below_step (by repeat (first | (with_reducible first | exact HB.out | apply below_alloc | apply pw_below_drewN | apply below_drew1) | exact HB.out)) hb);have n1_:=Aside0.mk (hbox);have n2_:=Aside0.mk ((by rw [hg];exact (below_size (by repeat (first | (with_reducible first | exact HB.out | apply below_alloc | apply pw_below_drewN | apply below_drew1) | exact HB.out))) : w.heap.size ≤ gb181));have n3_:=Aside0.mk ((by rw [hg];exact (below_size (by repeat (first | (with_reducible first | exact HB.out | apply below_alloc | apply pw_below_drewN | apply below_drew1) | exact HB.out))) : w.heap.size ≤ gb181));clear HB;have HB:=n0_;have BK181:=n1_;have GW181:=n2_;have GE181:=n3_;clear n0_ n1_ n2_ n3_;clear hb hbox hg) | ((with_reducible refine gate_dst (N:=3) rfl ?_);refine box_event ?hg (N:=3) ?hd (cs:=#[.int .i64 a1_0,.int .i64 a1_1,.int .i64 a1_2,.int .i64 a1_3,.int .i64 a1_4,.int .i64 a1_5]) (t:=79) ?hr ?_;(case hd => rfl);(case hg => rfl);(case hr => first | (go_simp;done) | (go_simp;rfl));intro gb182 hg w15 hbox hb;have n0_:=Aside0.mk (blk_below (g:=gb181) (o:=.cells #[.int .i64 a0_0,.int .i64 a0_1,.int .i64 a0_2,.int .i64 a0_3,.int .i64 a0_4,.int .i64 a0_5] 79 (0,0)) (by (with_reducible repeat (first | refine blk_drewN ?_ _ | refine blk_drew ?_ | refine blk_alloc ?_ _));exact BK181.out) hb);have n1_:=Aside0.mk (below_step (by repeat (first | (with_reducible first | exact HB.out | apply below_alloc | apply pw_below_drewN | apply below_drew1 | refine below_set ?_ GE181.out) | exact HB.out)) hb);have n2_:=Aside0.mk (hbox);have n3_:=Aside0.mk ((by rw [hg];exact (below_size (by repeat (first | (with_reducible first | exact HB.out | apply below_alloc | apply pw_below_drewN | apply below_drew1 | refine below_set ?_ GE181.out) | exact HB.out))) : w.heap.size ≤ gb182));have n4_:=Aside0.mk ((by rw [hg];exact (below_size (by repeat (first | (with_reducible first | exact HB.out | apply below_alloc | apply pw_below_drewN | apply below_drew1 | refine below_set ?_ GE181.out) | exact HB.out))) : w.heap.size ≤ gb182));have n5_:=Aside0.mk ((by rw [hg];exact Nat.ne_of_lt (blk_lt (g:=gb181) (o:=.cells #[.int .i64 a0_0,.int .i64 a0_1,.int .i64 a0_2,.int .i64 a0_3,.int .i64 a0_4,.int .i64 a0_5] 79 (0,0)) (by (with_reducible repeat (first | refine blk_drewN ?_ _ | refine blk_drew ?_ | refine blk_alloc ?_ _));exact BK181.out)) : gb181 ≠ gb182));have n6_:=Aside0.mk ((by rw [hg];exact Nat.ne_of_gt (blk_lt (g:=gb181) (o:=.cells #[.int .i64 a0_0,.int .i64 a0_1,.int .i64 a0_2,.int .i64 a0_3,.int .i64 a0_4,.int .i64 a0_5] 79 (0,0)) (by (with_reducible repeat (first | refine blk_drewN ?_ _ | refine blk_drew ?_ | refine blk_alloc ?_ _));exact BK181.out)) : gb182 ≠ gb181));clear BK181;clear HB;have BK181:=n0_;have HB:=n1_;have BK182:=n2_;have GW182:=n3_;have GE182:=n4_;have NB181_182:=n5_;have NB182_181:=n6_;clear n0_ n1_ n2_ n3_ n4_ n5_ n6_;clear hb hbox hg;have hnb16:=NB181_182.out;have hnc16:=NB182_181.out;have hcz17_0 : w15.cell? ⟨gb181,0,none⟩ = some (.int .i64 a0_0):=(blk_cell BK181.out 0).trans rfl;have hcz17_1 : w15.cell? ⟨gb181,1,none⟩ = some (.int .i64 a0_1):=(blk_cell BK181.out 1).trans rfl;have hcz17_2 : w15.cell? ⟨gb181,2,none⟩ = some (.int .i64 a0_2):=(blk_cell BK181.out 2).trans rfl;have hcz17_3 : w15.cell? ⟨gb181,3,none⟩ = some (.int .i64 a0_3):=(blk_cell BK181.out 3).trans rfl;have hcz17_4 : w15.cell? ⟨gb181,4,none⟩ = some (.int .i64 a0_4):=(blk_cell BK181.out 4).trans rfl;have hcz17_5 : w15.cell? ⟨gb181,5,none⟩ = some (.int .i64 a0_5):=(blk_cell BK181.out 5).trans rfl;have hfz17_0:=blk_frozen BK181.out 0;have hfz17_1:=blk_frozen BK181.out 1;have hfz17_2:=blk_frozen BK181.out 2;have hfz17_3:=blk_frozen BK181.out 3;have hfz17_4:=blk_frozen BK181.out 4;have hfz17_5:=blk_frozen BK181.out 5;have hcz18_0 : w15.cell? ⟨gb182,0,none⟩ = some (.int .i64 a1_0):=(blk_cell BK182.out 0).trans rfl;have hcz18_1 : w15.cell? ⟨gb182,1,none⟩ = some (.int .i64 a1_1):=(blk_cell BK182.out 1).trans rfl;have hcz18_2 : w15.cell? ⟨gb182,2,none⟩ = some (.int .i64 a1_2):=(blk_cell BK182.out 2).trans rfl;have hcz18_3 : w15.cell? ⟨gb182,3,none⟩ = some (.int .i64 a1_3):=(blk_cell BK182.out 3).trans rfl;have hcz18_4 : w15.cell? ⟨gb182,4,none⟩ = some (.int .i64 a1_4):=(blk_cell BK182.out 4).trans rfl;have hcz18_5 : w15.cell? ⟨gb182,5,none⟩ = some (.int .i64 a1_5):=(blk_cell BK182.out 5).trans rfl;have hfz18_0:=blk_frozen BK182.out 0;have hfz18_1:=blk_frozen BK182.out 1;have hfz18_2:=blk_frozen BK182.out 2;have hfz18_3:=blk_frozen BK182.out 3;have hfz18_4:=blk_frozen BK182.out 4;have hfz18_5:=blk_frozen BK182.out 5))
       go_ret
       exact ⟨by first | rfl | (simp [errW_none,errW_some] <;> rfl) | (simp [*,errW_none,errW_some] <;> rfl),by repeat (first | (with_reducible first | exact HB.out | apply below_alloc | apply pw_below_drewN | apply below_drew1 | refine below_set ?_ GE181.out | refine below_set ?_ GE182.out) | exact HB.out)⟩
     ·rw [if_neg c7] at H
      have c7b0 : (a0_4 == a1_4) = false:=beq_eq_false_iff_ne.mpr c7
      have c7b1 : (a0_4 != a1_4) = true:=bne_iff_ne.mpr c7
      obtain rfl:=Option.some.inj H
      go_enter Try.func91,Try.ntmps91
      go_wp2_with (first | ((with_reducible refine gate_dst (N:=2) rfl ?_);refine box_event ?hg (N:=2) ?hd (cs:=#[.int .i64 a0_0,.int .i64 a0_1,.int .i64 a0_2,.int .i64 a0_3,.int .i64 a0_4,.int .i64 a0_5]) (t:=79) ?hr ?_;(case hd => rfl);(case hg => rfl);(case hr => first | (go_simp;done) | (go_simp;rfl));intro gb181 hg w19 hbox hb;have n0_:=Aside0.mk (below_step (by repeat (first | (with_reducible first | exact HB.out | apply below_alloc | apply pw_below_drewN | apply below_drew1) | exact HB.out)) hb);have n1_:=Aside0.mk (hbox);have n2_:=Aside0.mk ((by rw [hg];exact (below_size (by repeat (first | (with_reducible first | exact HB.out | apply below_alloc | apply pw_below_drewN | apply below_drew1) | exact HB.out))) : w.heap.size ≤ gb181));have n3_:=Aside0.mk ((by rw [hg];exact (below_size (by repeat (first | (with_reducible first | exact HB.out | apply below_alloc | apply pw_below_drewN | apply below_drew1) | exact HB.out))) : w.heap.size ≤ gb181));clear HB;have HB:=n0_;have BK181:=n1_;have GW181:=n2_;have GE181:=n3_;clear n0_ n1_ n2_ n3_;clear hb hbox hg) | ((with_reducible refine gate_dst (N:=3) rfl ?_);refine box_event ?hg (N:=3) ?hd (cs:=#[.int .i64 a1_0,.int .i64 a1_1,.int .i64 a1_2,.int .i64 a1_3,.int .i64 a1_4,.int .i64 a1_5]) (t:=79) ?hr ?_;(case hd => rfl);(case hg => rfl);(case hr => first | (go_simp;done) | (go_simp;rfl));intro gb182 hg w20 hbox hb;have n0_:=Aside0.mk (blk_below (g:=gb181) (o:=.cells #[.int .i64 a0_0,.int .i64 a0_1,.int .i64 a0_2,.int .i64 a0_3,.int .i64 a0_4,.int .i64 a0_5] 79 (0,0)) (by (with_reducible repeat (first | refine blk_drewN ?_ _ | refine blk_drew ?_ | refine blk_alloc ?_ _));exact BK181.out) hb);have n1_:=Aside0.mk (below_step (by repeat (first | (with_reducible first | exact HB.out | apply below_alloc | apply pw_below_drewN | apply below_drew1 | refine below_set ?_ GE181.out) | exact HB.out)) hb);have n2_:=Aside0.mk (hbox);have n3_:=Aside0.mk ((by rw [hg];exact (below_size (by repeat (first | (with_reducible first | exact HB.out | apply below_alloc | apply pw_below_drewN | apply below_drew1 | refine below_set ?_ GE181.out) | exact HB.out))) : w.heap.size ≤ gb182));have n4_:=Aside0.mk ((by rw [hg];exact (below_size (by repeat (first | (with_reducible first | exact HB.out | apply below_alloc | apply pw_below_drewN | apply below_drew1 | refine below_set ?_ GE181.out) | exact HB.out))) : w.heap.size ≤ gb182));have n5_:=Aside0.mk ((by rw [hg];exact Nat.ne_of_lt (blk_lt (g:=gb181) (o:=.cells #[.int .i64 a0_0,.int .i64 a0_1,.int .i64 a0_2,.int .i64 a0_3,.int .i64 a0_4,.int .i64 a0_5] 79 (0,0)) (by (with_reducible repeat (first | refine blk_drewN ?_ _ | refine blk_drew ?_ | refine blk_alloc ?_ _));exact BK181.out)) : gb181 ≠ gb182));have n6_:=Aside0.mk ((by rw [hg];exact Nat.ne_of_gt (blk_lt (g:=gb181) (o:=.cells #[.int .i64 a0_0,.int .i64 a0_1,.int .i64 a0_2,.int .i64 a0_3,.int .i64 a0_4,.int .i64 a0_5] 79 (0,0)) (by (with_reducible repeat (first | refine blk_drewN ?_ _ | refine blk_drew ?_ | refine blk_alloc ?_ _));exact BK181.out)) : gb182 ≠ gb181));clear BK181;clear HB;have BK181:=n0_;have HB:=n1_;have BK182:=n2_;have GW182:=n3_;have GE182:=n4_;have NB181_182:=n5_;have NB182_181:=n6_;clear n0_ n1_ n2_ n3_ n4_ n5_ n6_;clear hb hbox hg;have hnb21:=NB181_182.out;have hnc21:=NB182_181.out;have hcz22_0 : w20.cell? ⟨gb181,0,none⟩ = some (.int .i64 a0_0):=(blk_cell BK181.out 0).trans rfl;have hcz22_1 : w20.cell? ⟨gb181,1,none⟩ = some (.int .i64 a0_1):=(blk_cell BK181.out 1).trans rfl;have hcz22_2 : w20.cell? ⟨gb181,2,none⟩ = some (.int .i64 a0_2):=(blk_cell BK181.out 2).trans rfl;have hcz22_3 : w20.cell? ⟨gb181,3,none⟩ = some (.int .i64 a0_3):=(blk_cell BK181.out 3).trans rfl;have hcz22_4 : w20.cell? ⟨gb181,4,none⟩ = some (.int .i64 a0_4):=(blk_cell BK181.out 4).trans rfl;have hcz22_5 : w20.cell? ⟨gb181,5,none⟩ = some (.int .i64 a0_5):=(blk_cell BK181.out 5).trans rfl;have hfz22_0:=blk_frozen BK181.out 0;have hfz22_1:=blk_frozen BK181.out 1;have hfz22_2:=blk_frozen BK181.out 2;have hfz22_3:=blk_frozen BK181.out 3;have hfz22_4:=blk_frozen BK181.out 4;have hfz22_5:=blk_frozen BK181.out 5;have hcz23_0 : w20.cell? ⟨gb182,0,none⟩ = some (.int .i64 a1_0):=(blk_cell BK182.out 0).trans rfl;have hcz23_1 : w20.cell? ⟨gb182,1,none⟩ = some (.int .i64 a1_1):=(blk_cell BK182.out 1).trans rfl;have hcz23_2 : w20.cell? ⟨gb182,2,none⟩ = some (.int .i64 a1_2):=(blk_cell BK182.out 2).trans rfl;have hcz23_3 : w20.cell? ⟨gb182,3,none⟩ = some (.int .i64 a1_3):=(blk_cell BK182.out 3).trans rfl;have hcz23_4 : w20.cell? ⟨gb182,4,none⟩ = some (.int .i64 a1_4):=(blk_cell BK182.out 4).trans rfl;have hcz23_5 : w20.cell? ⟨gb182,5,none⟩ = some (.int .i64 a1_5):=(blk_cell BK182.out 5).trans rfl;have hfz23_0:=blk_frozen BK182.out 0;have hfz23_1:=blk_frozen BK182.out 1;have hfz23_2:=blk_frozen BK182.out 2;have hfz23_3:=blk_frozen BK182.out 3;have hfz23_4:=blk_frozen BK182.out 4;have hfz23_5:=blk_frozen BK182.out 5))
      go_ret
      exact ⟨by first | rfl | (simp [errW_none,errW_some] <;> rfl) | (simp [*,errW_none,errW_some] <;> rfl),by repeat (first | (with_reducible first | exact HB.out | apply below_alloc | apply pw_below_drewN | apply below_drew1 | refine below_set ?_ GE181.out | refine below_set ?_ GE182.out) | exact HB.out)⟩
    ·rw [if_neg c6] at H
     have c6b0 : (a0_3 == a1_3) = false:=beq_eq_false_iff_ne.mpr c6
     have c6b1 : (a0_3 != a1_3) = true:=bne_iff_ne.mpr c6
     obtain rfl:=Option.some.inj H
     go_enter Try.func91,Try.ntmps91
     go_wp2_with (first | ((with_reducible refine gate_dst (N:=2) rfl ?_);refine box_event ?hg (N:=2) ?hd (cs:=#[.int .i64 a0_0,.int .i64 a0_1,.int .i64 a0_2,.int .i64 a0_3,.int .i64 a0_4,.int .i64 a0_5]) (t:=79) ?hr ?_;(case hd => rfl);(case hg => rfl);(case hr => first | (go_simp;done) | (go_simp;rfl));intro gb181 hg w24 hbox hb;have n0_:=Aside0.mk (below_step (by repeat (first | (with_reducible first | exact HB.out | apply below_alloc | apply pw_below_drewN | apply below_drew1) | exact HB.out)) hb);have n1_:=Aside0.mk (hbox);have n2_:=Aside0.mk ((by rw [hg];exact (below_size (by repeat (first | (with_reducible first | exact HB.out | apply below_alloc | apply pw_below_drewN | apply below_drew1) | exact HB.out))) : w.heap.size ≤ gb181));have n3_:=Aside0.mk ((by rw [hg];exact (below_size (by repeat (first | (with_reducible first | exact HB.out | apply below_alloc | apply pw_below_drewN | apply below_drew1) | exact HB.out))) : w.heap.size ≤ gb181));clear HB;have HB:=n0_;have BK181:=n1_;have GW181:=n2_;have GE181:=n3_;clear n0_ n1_ n2_ n3_;clear hb hbox hg) | ((with_reducible refine gate_dst (N:=3) rfl ?_);refine box_event ?hg (N:=3) ?hd (cs:=#[.int .i64 a1_0,.int .i64 a1_1,.int .i64 a1_2,.int .i64 a1_3,.int .i64 a1_4,.int .i64 a1_5]) (t:=79) ?hr ?_;(case hd => rfl);(case hg => rfl);(case hr => first | (go_simp;done) | (go_simp;rfl));intro gb182 hg w25 hbox hb;have n0_:=Aside0.mk (blk_below (g:=gb181) (o:=.cells #[.int .i64 a0_0,.int .i64 a0_1,.int .i64 a0_2,.int .i64 a0_3,.int .i64 a0_4,.int .i64 a0_5] 79 (0,0)) (by (with_reducible repeat (first | refine blk_drewN ?_ _ | refine blk_drew ?_ | refine blk_alloc ?_ _));exact BK181.out) hb);have n1_:=Aside0.mk (below_step (by repeat (first | (with_reducible first | exact HB.out | apply below_alloc | apply pw_below_drewN | apply below_drew1 | refine below_set ?_ GE181.out) | exact HB.out)) hb);have n2_:=Aside0.mk (hbox);have n3_:=Aside0.mk ((by rw [hg];exact (below_size (by repeat (first | (with_reducible first | exact HB.out | apply below_alloc | apply pw_below_drewN | apply below_drew1 | refine below_set ?_ GE181.out) | exact HB.out))) : w.heap.size ≤ gb182));have n4_:=Aside0.mk ((by rw [hg];exact (below_size (by repeat (first | (with_reducible first | exact HB.out | apply below_alloc | apply pw_below_drewN | apply below_drew1 | refine below_set ?_ GE181.out) | exact HB.out))) : w.heap.size ≤ gb182));have n5_:=Aside0.mk ((by rw [hg];exact Nat.ne_of_lt (blk_lt (g:=gb181) (o:=.cells #[.int .i64 a0_0,.int .i64 a0_1,.int .i64 a0_2,.int .i64 a0_3,.int .i64 a0_4,.int .i64 a0_5] 79 (0,0)) (by (with_reducible repeat (first | refine blk_drewN ?_ _ | refine blk_drew ?_ | refine blk_alloc ?_ _));exact BK181.out)) : gb181 ≠ gb182));have n6_:=Aside0.mk ((by rw [hg];exact Nat.ne_of_gt (blk_lt (g:=gb181) (o:=.cells #[.int .i64 a0_0,.int .i64 a0_1,.int .i64 a0_2,.int .i64 a0_3,.int .i64 a0_4,.int .i64 a0_5] 79 (0,0)) (by (with_reducible repeat (first | refine blk_drewN ?_ _ | refine blk_drew ?_ | refine blk_alloc ?_ _));exact BK181.out)) : gb182 ≠ gb181));clear BK181;clear HB;have BK181:=n0_;have HB:=n1_;have BK182:=n2_;have GW182:=n3_;have GE182:=n4_;have NB181_182:=n5_;have NB182_181:=n6_;clear n0_ n1_ n2_ n3_ n4_ n5_ n6_;clear hb hbox hg;have hnb26:=NB181_182.out;have hnc26:=NB182_181.out;have hcz27_0 : w25.cell? ⟨gb181,0,none⟩ = some (.int .i64 a0_0):=(blk_cell BK181.out 0).trans rfl;have hcz27_1 : w25.cell? ⟨gb181,1,none⟩ = some (.int .i64 a0_1):=(blk_cell BK181.out 1).trans rfl;have hcz27_2 : w25.cell? ⟨gb181,2,none⟩ = some (.int .i64 a0_2):=(blk_cell BK181.out 2).trans rfl;have hcz27_3 : w25.cell? ⟨gb181,3,none⟩ = some (.int .i64 a0_3):=(blk_cell BK181.out 3).trans rfl;have hcz27_4 : w25.cell? ⟨gb181,4,none⟩ = some (.int .i64 a0_4):=(blk_cell BK181.out 4).trans rfl;have hcz27_5 : w25.cell? ⟨gb181,5,none⟩ = some (.int .i64 a0_5):=(blk_cell BK181.out 5).trans rfl;have hfz27_0:=blk_frozen BK181.out 0;have hfz27_1:=blk_frozen BK181.out 1;have hfz27_2:=blk_frozen BK181.out 2;have hfz27_3:=blk_frozen BK181.out 3;have hfz27_4:=blk_frozen BK181.out 4;have hfz27_5:=blk_frozen BK181.out 5;have hcz28_0 : w25.cell? ⟨gb182,0,none⟩ = some (.int .i64 a1_0):=(blk_cell BK182.out 0).trans rfl;have hcz28_1 : w25.cell? ⟨gb182,1,none⟩ = some (.int .i64 a1_1):=(blk_cell BK182.out 1).trans rfl;have hcz28_2 : w25.cell? ⟨gb182,2,none⟩ = some (.int .i64 a1_2):=(blk_cell BK182.out 2).trans rfl;have hcz28_3 : w25.cell? ⟨gb182,3,none⟩ = some (.int .i64 a1_3):=(blk_cell BK182.out 3).trans rfl;have hcz28_4 : w25.cell? ⟨gb182,4,none⟩ = some (.int .i64 a1_4):=(blk_cell BK182.out 4).trans rfl;have hcz28_5 : w25.cell? ⟨gb182,5,none⟩ = some (.int .i64 a1_5):=(blk_cell BK182.out 5).trans rfl;have hfz28_0:=blk_frozen BK182.out 0;have hfz28_1:=blk_frozen BK182.out 1;have hfz28_2:=blk_frozen BK182.out 2;have hfz28_3:=blk_frozen BK182.out 3;have hfz28_4:=blk_frozen BK182.out 4;have hfz28_5:=blk_frozen BK182.out 5))
     go_ret
     exact ⟨by first | rfl | (simp [errW_none,errW_some] <;> rfl) | (simp [*,errW_none,errW_some] <;> rfl),by repeat (first | (with_reducible first | exact HB.out | apply below_alloc | apply pw_below_drewN | apply below_drew1 | refine below_set ?_ GE181.out | refine below_set ?_ GE182.out) | exact HB.out)⟩
   ·rw [if_neg c5] at H
    have c5b0 : (a0_2 == a1_2) = false:=beq_eq_false_iff_ne.mpr c5
    have c5b1 : (a0_2 != a1_2) = true:=bne_iff_ne.mpr c5
    obtain rfl:=Option.some.inj H
    go_enter Try.func91,Try.ntmps91
    go_wp2_with (first | ((with_reducible refine gate_dst (N:=2) rfl ?_);refine box_event ?hg (N:=2) ?hd (cs:=#[.int .i64 a0_0,.int .i64 a0_1,.int .i64 a0_2,.int .i64 a0_3,.int .i64 a0_4,.int .i64 a0_5]) (t:=79) ?hr ?_;(case hd => rfl);(case hg => rfl);(case hr => first | (go_simp;done) | (go_simp;rfl));intro gb181 hg w29 hbox hb;have n0_:=Aside0.mk (below_step (by repeat (first | (with_reducible first | exact HB.out | apply below_alloc | apply pw_below_drewN | apply below_drew1) | exact HB.out)) hb);have n1_:=Aside0.mk (hbox);have n2_:=Aside0.mk ((by rw [hg];exact (below_size (by repeat (first | (with_reducible first | exact HB.out | apply below_alloc | apply pw_below_drewN | apply below_drew1) | exact HB.out))) : w.heap.size ≤ gb181));have n3_:=Aside0.mk ((by rw [hg];exact (below_size (by repeat (first | (with_reducible first | exact HB.out | apply below_alloc | apply pw_below_drewN | apply below_drew1) | exact HB.out))) : w.heap.size ≤ gb181));clear HB;have HB:=n0_;have BK181:=n1_;have GW181:=n2_;have GE181:=n3_;clear n0_ n1_ n2_ n3_;clear hb hbox hg) | ((with_reducible refine gate_dst (N:=3) rfl ?_);refine box_event ?hg (N:=3) ?hd (cs:=#[.int .i64 a1_0,.int .i64 a1_1,.int .i64 a1_2,.int .i64 a1_3,.int .i64 a1_4,.int .i64 a1_5]) (t:=79) ?hr ?_;(case hd => rfl);(case hg => rfl);(case hr => first | (go_simp;done) | (go_simp;rfl));intro gb182 hg w30 hbox hb;have n0_:=Aside0.mk (blk_below (g:=gb181) (o:=.cells #[.int .i64 a0_0,.int .i64 a0_1,.int .i64 a0_2,.int .i64 a0_3,.int .i64 a0_4,.int .i64 a0_5] 79 (0,0)) (by (with_reducible repeat (first | refine blk_drewN ?_ _ | refine blk_drew ?_ | refine blk_alloc ?_ _));exact BK181.out) hb);have n1_:=Aside0.mk (below_step (by repeat (first | (with_reducible first | exact HB.out | apply below_alloc | apply pw_below_drewN | apply below_drew1 | refine below_set ?_ GE181.out) | exact HB.out)) hb);have n2_:=Aside0.mk (hbox);have n3_:=Aside0.mk ((by rw [hg];exact (below_size (by repeat (first | (with_reducible first | exact HB.out | apply below_alloc | apply pw_below_drewN | apply below_drew1 | refine below_set ?_ GE181.out) | exact HB.out))) : w.heap.size ≤ gb182));have n4_:=Aside0.mk ((by rw [hg];exact (below_size (by repeat (first | (with_reducible first | exact HB.out | apply below_alloc | apply pw_below_drewN | apply below_drew1 | refine below_set ?_ GE181.out) | exact HB.out))) : w.heap.size ≤ gb182));have n5_:=Aside0.mk ((by rw [hg];exact Nat.ne_of_lt (blk_lt (g:=gb181) (o:=.cells #[.int .i64 a0_0,.int .i64 a0_1,.int .i64 a0_2,.int .i64 a0_3,.int .i64 a0_4,.int .i64 a0_5] 79 (0,0)) (by (with_reducible repeat (first | refine blk_drewN ?_ _ | refine blk_drew ?_ | refine blk_alloc ?_ _));exact BK181.out)) : gb181 ≠ gb182));have n6_:=Aside0.mk ((by rw [hg];exact Nat.ne_of_gt (blk_lt (g:=gb181) (o:=.cells #[.int .i64 a0_0,.int .i64 a0_1,.int .i64 a0_2,.int .i64 a0_3,.int .i64 a0_4,.int .i64 a0_5] 79 (0,0)) (by (with_reducible repeat (first | refine blk_drewN ?_ _ | refine blk_drew ?_ | refine blk_alloc ?_ _));exact BK181.out)) : gb182 ≠ gb181));clear BK181;clear HB;have BK181:=n0_;have HB:=n1_;have BK182:=n2_;have GW182:=n3_;have GE182:=n4_;have NB181_182:=n5_;have NB182_181:=n6_;clear n0_ n1_ n2_ n3_ n4_ n5_ n6_;clear hb hbox hg;have hnb31:=NB181_182.out;have hnc31:=NB182_181.out;have hcz32_0 : w30.cell? ⟨gb181,0,none⟩ = some (.int .i64 a0_0):=(blk_cell BK181.out 0).trans rfl;have hcz32_1 : w30.cell? ⟨gb181,1,none⟩ = some (.int .i64 a0_1):=(blk_cell BK181.out 1).trans rfl;have hcz32_2 : w30.cell? ⟨gb181,2,none⟩ = some (.int .i64 a0_2):=(blk_cell BK181.out 2).trans rfl;have hcz32_3 : w30.cell? ⟨gb181,3,none⟩ = some (.int .i64 a0_3):=(blk_cell BK181.out 3).trans rfl;have hcz32_4 : w30.cell? ⟨gb181,4,none⟩ = some (.int .i64 a0_4):=(blk_cell BK181.out 4).trans rfl;have hcz32_5 : w30.cell? ⟨gb181,5,none⟩ = some (.int .i64 a0_5):=(blk_cell BK181.out 5).trans rfl;have hfz32_0:=blk_frozen BK181.out 0;have hfz32_1:=blk_frozen BK181.out 1;have hfz32_2:=blk_frozen BK181.out 2;have hfz32_3:=blk_frozen BK181.out 3;have hfz32_4:=blk_frozen BK181.out 4;have hfz32_5:=blk_frozen BK181.out 5;have hcz33_0 : w30.cell? ⟨gb182,0,none⟩ = some (.int .i64 a1_0):=(blk_cell BK182.out 0).trans rfl;have hcz33_1 : w30.cell? ⟨gb182,1,none⟩ = some (.int .i64 a1_1):=(blk_cell BK182.out 1).trans rfl;have hcz33_2 : w30.cell? ⟨gb182,2,none⟩ = some (.int .i64 a1_2):=(blk_cell BK182.out 2).trans rfl;have hcz33_3 : w30.cell? ⟨gb182,3,none⟩ = some (.int .i64 a1_3):=(blk_cell BK182.out 3).trans rfl;have hcz33_4 : w30.cell? ⟨gb182,4,none⟩ = some (.int .i64 a1_4):=(blk_cell BK182.out 4).trans rfl;have hcz33_5 : w30.cell? ⟨gb182,5,none⟩ = some (.int .i64 a1_5):=(blk_cell BK182.out 5).trans rfl;have hfz33_0:=blk_frozen BK182.out 0;have hfz33_1:=blk_frozen BK182.out 1;have hfz33_2:=blk_frozen BK182.out 2;have hfz33_3:=blk_frozen BK182.out 3;have hfz33_4:=blk_frozen BK182.out 4;have hfz33_5:=blk_frozen BK182.out 5))
    go_ret
    exact ⟨by first | rfl | (simp [errW_none,errW_some] <;> rfl) | (simp [*,errW_none,errW_some] <;> rfl),by repeat (first | (with_reducible first | exact HB.out | apply below_alloc | apply pw_below_drewN | apply below_drew1 | refine below_set ?_ GE181.out | refine below_set ?_ GE182.out) | exact HB.out)⟩
  ·rw [if_neg c4] at H
   have c4b0 : (a0_1 == a1_1) = false:=beq_eq_false_iff_ne.mpr c4
   have c4b1 : (a0_1 != a1_1) = true:=bne_iff_ne.mpr c4
   obtain rfl:=Option.some.inj H
   go_enter Try.func91,Try.ntmps91
   go_wp2_with (first | ((with_reducible refine gate_dst (N:=2) rfl ?_);refine box_event ?hg (N:=2) ?hd (cs:=#[.int .i64 a0_0,.int .i64 a0_1,.int .i64 a0_2,.int .i64 a0_3,.int .i64 a0_4,.int .i64 a0_5]) (t:=79) ?hr ?_;(case hd => rfl);(case hg => rfl);(case hr => first | (go_simp;done) | (go_simp;rfl));intro gb181 hg w34 hbox hb;have n0_:=Aside0.mk (below_step (by repeat (first | (with_reducible first | exact HB.out | apply below_alloc | apply pw_below_drewN | apply below_drew1) | exact HB.out)) hb);have n1_:=Aside0.mk (hbox);have n2_:=Aside0.mk ((by rw [hg];exact (below_size (by repeat (first | (with_reducible first | exact HB.out | apply below_alloc | apply pw_below_drewN | apply below_drew1) | exact HB.out))) : w.heap.size ≤ gb181));have n3_:=Aside0.mk ((by rw [hg];exact (below_size (by repeat (first | (with_reducible first | exact HB.out | apply below_alloc | apply pw_below_drewN | apply below_drew1) | exact HB.out))) : w.heap.size ≤ gb181));clear HB;have HB:=n0_;have BK181:=n1_;have GW181:=n2_;have GE181:=n3_;clear n0_ n1_ n2_ n3_;clear hb hbox hg) | ((with_reducible refine gate_dst (N:=3) rfl ?_);refine box_event ?hg (N:=3) ?hd (cs:=#[.int .i64 a1_0,.int .i64 a1_1,.int .i64 a1_2,.int .i64 a1_3,.int .i64 a1_4,.int .i64 a1_5]) (t:=79) ?hr ?_;(case hd => rfl);(case hg => rfl);(case hr => first | (go_simp;done) | (go_simp;rfl));intro gb182 hg w35 hbox hb;have n0_:=Aside0.mk (blk_below (g:=gb181) (o:=.cells #[.int .i64 a0_0,.int .i64 a0_1,.int .i64 a0_2,.int .i64 a0_3,.int .i64 a0_4,.int .i64 a0_5] 79 (0,0)) (by (with_reducible repeat (first | refine blk_drewN ?_ _ | refine blk_drew ?_ | refine blk_alloc ?_ _));exact BK181.out) hb);have n1_:=Aside0.mk (below_step (by repeat (first | (with_reducible first | exact HB.out | apply below_alloc | apply pw_below_drewN | apply below_drew1 | refine below_set ?_ GE181.out) | exact HB.out)) hb);have n2_:=Aside0.mk (hbox);have n3_:=Aside0.mk ((by rw [hg];exact (below_size (by repeat (first | (with_reducible first | exact HB.out | apply below_alloc | apply pw_below_drewN | apply below_drew1 | refine below_set ?_ GE181.out) | exact HB.out))) : w.heap.size ≤ gb182));have n4_:=Aside0.mk ((by rw [hg];exact (below_size (by repeat (first | (with_reducible first | exact HB.out | apply below_alloc | apply pw_below_drewN | apply below_drew1 | refine below_set ?_ GE181.out) | exact HB.out))) : w.heap.size ≤ gb182));have n5_:=Aside0.mk ((by rw [hg];exact Nat.ne_of_lt (blk_lt (g:=gb181) (o:=.cells #[.int .i64 a0_0,.int .i64 a0_1,.int .i64 a0_2,.int .i64 a0_3,.int .i64 a0_4,.int .i64 a0_5] 79 (0,0)) (by (with_reducible repeat (first | refine blk_drewN ?_ _ | refine blk_drew ?_ | refine blk_alloc ?_ _));exact BK181.out)) : gb181 ≠ gb182));have n6_:=Aside0.mk ((by rw [hg];exact Nat.ne_of_gt (blk_lt (g:=gb181) (o:=.cells #[.int .i64 a0_0,.int .i64 a0_1,.int .i64 a0_2,.int .i64 a0_3,.int .i64 a0_4,.int .i64 a0_5] 79 (0,0)) (by (with_reducible repeat (first | refine blk_drewN ?_ _ | refine blk_drew ?_ | refine blk_alloc ?_ _));exact BK181.out)) : gb182 ≠ gb181));clear BK181;clear HB;have BK181:=n0_;have HB:=n1_;have BK182:=n2_;have GW182:=n3_;have GE182:=n4_;have NB181_182:=n5_;have NB182_181:=n6_;clear n0_ n1_ n2_ n3_ n4_ n5_ n6_;clear hb hbox hg;have hnb36:=NB181_182.out;have hnc36:=NB182_181.out;have hcz37_0 : w35.cell? ⟨gb181,0,none⟩ = some (.int .i64 a0_0):=(blk_cell BK181.out 0).trans rfl;have hcz37_1 : w35.cell? ⟨gb181,1,none⟩ = some (.int .i64 a0_1):=(blk_cell BK181.out 1).trans rfl;have hcz37_2 : w35.cell? ⟨gb181,2,none⟩ = some (.int .i64 a0_2):=(blk_cell BK181.out 2).trans rfl;have hcz37_3 : w35.cell? ⟨gb181,3,none⟩ = some (.int .i64 a0_3):=(blk_cell BK181.out 3).trans rfl;have hcz37_4 : w35.cell? ⟨gb181,4,none⟩ = some (.int .i64 a0_4):=(blk_cell BK181.out 4).trans rfl;have hcz37_5 : w35.cell? ⟨gb181,5,none⟩ = some (.int .i64 a0_5):=(blk_cell BK181.out 5).trans rfl;have hfz37_0:=blk_frozen BK181.out 0;have hfz37_1:=blk_frozen BK181.out 1;have hfz37_2:=blk_frozen BK181.out 2;have hfz37_3:=blk_frozen BK181.out 3;have hfz37_4:=blk_frozen BK181.out 4;have hfz37_5:=blk_frozen BK181.out 5;have hcz38_0 : w35.cell? ⟨gb182,0,none⟩ = some (.int .i64 a1_0):=(blk_cell BK182.out 0).trans rfl;have hcz38_1 : w35.cell? ⟨gb182,1,none⟩ = some (.int .i64 a1_1):=(blk_cell BK182.out 1).trans rfl;have hcz38_2 : w35.cell? ⟨gb182,2,none⟩ = some (.int .i64 a1_2):=(blk_cell BK182.out 2).trans rfl;have hcz38_3 : w35.cell? ⟨gb182,3,none⟩ = some (.int .i64 a1_3):=(blk_cell BK182.out 3).trans rfl;have hcz38_4 : w35.cell? ⟨gb182,4,none⟩ = some (.int .i64 a1_4):=(blk_cell BK182.out 4).trans rfl;have hcz38_5 : w35.cell? ⟨gb182,5,none⟩ = some (.int .i64 a1_5):=(blk_cell BK182.out 5).trans rfl;have hfz38_0:=blk_frozen BK182.out 0;have hfz38_1:=blk_frozen BK182.out 1;have hfz38_2:=blk_frozen BK182.out 2;have hfz38_3:=blk_frozen BK182.out 3;have hfz38_4:=blk_frozen BK182.out 4;have hfz38_5:=blk_frozen BK182.out 5))
   go_ret
   exact ⟨by first | rfl | (simp [errW_none,errW_some] <;> rfl) | (simp [*,errW_none,errW_some] <;> rfl),by repeat (first | (with_reducible first | exact HB.out | apply below_alloc | apply pw_below_drewN | apply below_drew1 | refine below_set ?_ GE181.out | refine below_set ?_ GE182.out) | exact HB.out)⟩
 ·rw [if_neg c3] at H
  have c3b0 : (a0_0 == a1_0) = false:=beq_eq_false_iff_ne.mpr c3
  have c3b1 : (a0_0 != a1_0) = true:=bne_iff_ne.mpr c3
  obtain rfl:=Option.some.inj H
  go_enter Try.func91,Try.ntmps91
  go_wp2_with (first | ((with_reducible refine gate_dst (N:=2) rfl ?_);refine box_event ?hg (N:=2) ?hd (cs:=#[.int .i64 a0_0,.int .i64 a0_1,.int .i64 a0_2,.int .i64 a0_3,.int .i64 a0_4,.int .i64 a0_5]) (t:=79) ?hr ?_;(case hd => rfl);(case hg => rfl);(case hr => first | (go_simp;done) | (go_simp;rfl));intro gb181 hg w39 hbox hb;have n0_:=Aside0.mk (below_step (by repeat (first | (with_reducible first | exact HB.out | apply below_alloc | apply pw_below_drewN | apply below_drew1) | exact HB.out)) hb);have n1_:=Aside0.mk (hbox);have n2_:=Aside0.mk ((by rw [hg];exact (below_size (by repeat (first | (with_reducible first | exact HB.out | apply below_alloc | apply pw_below_drewN | apply below_drew1) | exact HB.out))) : w.heap.size ≤ gb181));have n3_:=Aside0.mk ((by rw [hg];exact (below_size (by repeat (first | (with_reducible first | exact HB.out | apply below_alloc | apply pw_below_drewN | apply below_drew1) | exact HB.out))) : w.heap.size ≤ gb181));clear HB;have HB:=n0_;have BK181:=n1_;have GW181:=n2_;have GE181:=n3_;clear n0_ n1_ n2_ n3_;clear hb hbox hg) | ((with_reducible refine gate_dst (N:=3) rfl ?_);refine box_event ?hg (N:=3) ?hd (cs:=#[.int .i64 a1_0,.int .i64 a1_1,.int .i64 a1_2,.int .i64 a1_3,.int .i64 a1_4,.int .i64 a1_5]) (t:=79) ?hr ?_;(case hd => rfl);(case hg => rfl);(case hr => first | (go_simp;done) | (go_simp;rfl));intro gb182 hg w40 hbox hb;have n0_:=Aside0.mk (blk_below (g:=gb181) (o:=.cells #[.int .i64 a0_0,.int .i64 a0_1,.int .i64 a0_2,.int .i64 a0_3,.int .i64 a0_4,.int .i64 a0_5] 79 (0,0)) (by (with_reducible repeat (first | refine blk_drewN ?_ _ | refine blk_drew ?_ | refine blk_alloc ?_ _));exact BK181.out) hb);have n1_:=Aside0.mk (below_step (by repeat (first | (with_reducible first | exact HB.out | apply below_alloc | apply pw_below_drewN | apply below_drew1 | refine below_set ?_ GE181.out) | exact HB.out)) hb);have n2_:=Aside0.mk (hbox);have n3_:=Aside0.mk ((by rw [hg];exact (below_size (by repeat (first | (with_reducible first | exact HB.out | apply below_alloc | apply pw_below_drewN | apply below_drew1 | refine below_set ?_ GE181.out) | exact HB.out))) : w.heap.size ≤ gb182));have n4_:=Aside0.mk ((by rw [hg];exact (below_size (by repeat (first | (with_reducible first | exact HB.out | apply below_alloc | apply pw_below_drewN | apply below_drew1 | refine below_set ?_ GE181.out) | exact HB.out))) : w.heap.size ≤ gb182));have n5_:=Aside0.mk ((by rw [hg];exact Nat.ne_of_lt (blk_lt (g:=gb181) (o:=.cells #[.int .i64 a0_0,.int .i64 a0_1,.int .i64 a0_2,.int .i64 a0_3,.int .i64 a0_4,.int .i64 a0_5] 79 (0,0)) (by (with_reducible repeat (first | refine blk_drewN ?_ _ | refine blk_drew ?_ | refine blk_alloc ?_ _));exact BK181.out)) : gb181 ≠ gb182));have n6_:=Aside0.mk ((by rw [hg];exact Nat.ne_of_gt (blk_lt (g:=gb181) (o:=.cells #[.int .i64 a0_0,.int .i64 a0_1,.int .i64 a0_2,.int .i64 a0_3,.int .i64 a0_4,.int .i64 a0_5] 79 (0,0)) (by (with_reducible repeat (first | refine blk_drewN ?_ _ | refine blk_drew ?_ | refine blk_alloc ?_ _));exact BK181.out)) : gb182 ≠ gb181));clear BK181;clear HB;have BK181:=n0_;have HB:=n1_;have BK182:=n2_;have GW182:=n3_;have GE182:=n4_;have NB181_182:=n5_;have NB182_181:=n6_;clear n0_ n1_ n2_ n3_ n4_ n5_ n6_;clear hb hbox hg;have hnb41:=NB181_182.out;have hnc41:=NB182_181.out;have hcz42_0 : w40.cell? ⟨gb181,0,none⟩ = some (.int .i64 a0_0):=(blk_cell BK181.out 0).trans rfl;have hcz42_1 : w40.cell? ⟨gb181,1,none⟩ = some (.int .i64 a0_1):=(blk_cell BK181.out 1).trans rfl;have hcz42_2 : w40.cell? ⟨gb181,2,none⟩ = some (.int .i64 a0_2):=(blk_cell BK181.out 2).trans rfl;have hcz42_3 : w40.cell? ⟨gb181,3,none⟩ = some (.int .i64 a0_3):=(blk_cell BK181.out 3).trans rfl;have hcz42_4 : w40.cell? ⟨gb181,4,none⟩ = some (.int .i64 a0_4):=(blk_cell BK181.out 4).trans rfl;have hcz42_5 : w40.cell? ⟨gb181,5,none⟩ = some (.int .i64 a0_5):=(blk_cell BK181.out 5).trans rfl;have hfz42_0:=blk_frozen BK181.out 0;have hfz42_1:=blk_frozen BK181.out 1;have hfz42_2:=blk_frozen BK181.out 2;have hfz42_3:=blk_frozen BK181.out 3;have hfz42_4:=blk_frozen BK181.out 4;have hfz42_5:=blk_frozen BK181.out 5;have hcz43_0 : w40.cell? ⟨gb182,0,none⟩ = some (.int .i64 a1_0):=(blk_cell BK182.out 0).trans rfl;have hcz43_1 : w40.cell? ⟨gb182,1,none⟩ = some (.int .i64 a1_1):=(blk_cell BK182.out 1).trans rfl;have hcz43_2 : w40.cell? ⟨gb182,2,none⟩ = some (.int .i64 a1_2):=(blk_cell BK182.out 2).trans rfl;have hcz43_3 : w40.cell? ⟨gb182,3,none⟩ = some (.int .i64 a1_3):=(blk_cell BK182.out 3).trans rfl;have hcz43_4 : w40.cell? ⟨gb182,4,none⟩ = some (.int .i64 a1_4):=(blk_cell BK182.out 4).trans rfl;have hcz43_5 : w40.cell? ⟨gb182,5,none⟩ = some (.int .i64 a1_5):=(blk_cell BK182.out 5).trans rfl;have hfz43_0:=blk_frozen BK182.out 0;have hfz43_1:=blk_frozen BK182.out 1;have hfz43_2:=blk_frozen BK182.out 2;have hfz43_3:=blk_frozen BK182.out 3;have hfz43_4:=blk_frozen BK182.out 4;have hfz43_5:=blk_frozen BK182.out 5))
  go_ret
  exact ⟨by first | rfl | (simp [errW_none,errW_some] <;> rfl) | (simp [*,errW_none,errW_some] <;> rfl),by repeat (first | (with_reducible first | exact HB.out | apply below_alloc | apply pw_below_drewN | apply below_drew1 | refine below_set ?_ GE181.out | refine below_set ?_ GE182.out) | exact HB.out)⟩

end Go.Proofs.Ythgkhfhfahifmaa.Q
