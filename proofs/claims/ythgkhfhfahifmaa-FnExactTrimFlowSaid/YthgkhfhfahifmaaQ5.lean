-- WRITTEN BY A PROGRAM OF THIS SESSION
import Derived.Test.YthgkhfhfahifmaaQ0
import Derived.Test.YthgkhfhfahifmaaQ4
namespace Go.Proofs.Ythgkhfhfahifmaa.Q
open Go.RowKit Go.Proofs.YthgkhfhfahifmaaW.PrintWords Go.Proofs.YthgkhfhfahifmaaW.PrintLast Go.Proofs.YthgkhfhfahifmaaW.PrintMore
attribute [local go_sem] max2_int min2_int max_two min_two max_three min_three max_four min_four   -- for this text's walks alone
set_option linter.unusedVariables false
set_option linter.unusedSimpArgs false

/-! ### impl_flatOK: function 69 (by hand: a literal that captures how many names there are) -/
theorem flatOK_new1 (w : World) (o1 o2 : Obj) : ((w.alloc o1).alloc o2).heap[w.heap.size + 1]? = some o2:=by
 have h:=heap_alloc_new (w.alloc o1) o2
 rwa [show (w.alloc o1).heap.size = w.heap.size + 1 by simp] at h
/-- The literal: whether a name is right that is there, or nought that is not. -/
def impl_flatOK_1.f (has : Bool) (n many : Int) : Option Bool:=if has = true then impl_within.f n 0 (wrap64 (many - 1)) else (if n = 0 then some true else some false)
set_option maxHeartbeats 8000000 in
set_option maxRecDepth 100000 in
theorem impl_flatOK_1.calls (b : Nat) (has : Bool) (n many : Int) (r : Bool) (w : World) (hbox : w.heap[b]? = some (.cells #[.int .i64 many] 3 (0,0))) (h : impl_flatOK_1.f has n many = some r) :
  Calls Try.prog 87 #[.bool has,.int .i64 n,.pointer (some ⟨b,0,none⟩)] w fun e w' => e = .returned (.bool r) ∧ Drawn0 w w':=by
 unfold impl_flatOK_1.f at h
 have hcz : w.cell? ⟨b,0,none⟩ = some (.int .i64 many):=(blk_cell hbox 0).trans rfl
 have hfz:=blk_frozen hbox 0
 clear hbox
 cases has with
 | true =>
  rw [if_pos rfl] at h
  have A:=Aside0.mk h
  clear h
  go_enter Try.func87,Try.ntmps87
  go_wp2_with (first | (go_at_call 39;(with_reducible refine (impl_within.calls n 0 (wrap64 (many - 1)) r w A.out).mono ?_);rintro e w' ⟨rfl,⟨nd,rfl⟩⟩))
  go_ret
  exact ⟨rfl,⟨nd,rfl⟩⟩
 | false =>
  rw [if_neg (by decide)] at h
  by_cases c : n = 0
  ·rw [if_pos c] at h
   obtain rfl:=Option.some.inj h
   have e1 : (n == 0) = true:=beq_iff_eq.mpr c
   clear c
   go_enter Try.func87,Try.ntmps87
   go_wp2
   go_ret
   exact ⟨rfl,Drawn0.refl _⟩
  ·rw [if_neg c] at h
   obtain rfl:=Option.some.inj h
   have e1 : (n == 0) = false:=beq_eq_false_iff_ne.mpr c
   clear c
   go_enter Try.func87,Try.ntmps87
   go_wp2
   go_ret
   exact ⟨rfl,Drawn0.refl _⟩
def impl_flatOK.r (hn hd : Bool) (n d : Int) : Option Bool:=(if hn = true then impl_isWord.f n else (if n = 0 then some true else some false)).bind fun p => (if p = true then (if hd = true then impl_isTwo.f d else (if d = 0 then some true else some false)) else some false)
def impl_flatOK.f (k : Nat) (a0 a1 a2 a3 a4 a5 many : Int) : Option Bool:=(impl_fieldsOf.f k a0).bind fun t => (if t.2.2.2.2.2 = true then ((impl_flatOK_1.f t.1 a2 many).bind fun b1 => (if b1 = true then ((impl_flatOK_1.f t.2.1 a3 many).bind fun b2 => (if b2 = true then ((impl_flatOK_1.f t.2.2.1 a4 many).bind fun b3 => (if b3 = true then (impl_flatOK.r t.2.2.2.1 t.2.2.2.2.1 a5 a1) else (some false))) else (some false))) else (some false))) else (some false))
theorem impl_flatOK.mono : ∀ a0 a1 a2 a3 a4 a5 a6 k,LeO (impl_flatOK.f k a0 a1 a2 a3 a4 a5 a6) (impl_flatOK.f (k + 1) a0 a1 a2 a3 a4 a5 a6):=by
 intro a0 a1 a2 a3 a4 a5 a6 k
 unfold impl_flatOK.f
 repeat' first
   | (with_reducible exact impl_fieldsOf.mono _ _)
   | (with_reducible exact LeO.refl _)
   | (with_reducible exact LeO.none _)
   | (with_reducible refine LeO.ite ?_ ?_)
   | (with_reducible refine LeO.bind ?_ (fun _ => ?_))
set_option maxHeartbeats 8000000 in
set_option maxRecDepth 100000 in
theorem impl_flatOK.calls (k : Nat) (a0_0 a0_1 a0_2 a0_3 a0_4 a0_5 : Int) (a1 : Int) (r : Bool) (w : World) (h : impl_flatOK.f k a0_0 a0_1 a0_2 a0_3 a0_4 a0_5 a1 = some r) :
  Calls Try.prog 69 #[.agg #[.int .i64 a0_0,.int .i64 a0_1,.int .i64 a0_2,.int .i64 a0_3,.int .i64 a0_4,.int .i64 a0_5],.int .i64 a1] w fun e w' => e = .returned (.bool r) ∧ Below w.heap.size w w':=by
 have hu79:=Try.underlying79
 have hu100:=Try.underlying100
 have HX:=Aside0.mk (blk_alloc (heap_alloc_new w (.cells #[.int .i64 a0_0,.int .i64 a0_1,.int .i64 a0_2,.int .i64 a0_3,.int .i64 a0_4,.int .i64 a0_5] 79)) (.cells #[.int .i64 a1] 3))
 have HM:=Aside0.mk (flatOK_new1 w (.cells #[.int .i64 a0_0,.int .i64 a0_1,.int .i64 a0_2,.int .i64 a0_3,.int .i64 a0_4,.int .i64 a0_5] 79) (.cells #[.int .i64 a1] 3))
 have HB:=Aside0.mk (below_alloc (below_alloc (Below.refl w.heap.size w) (.cells #[.int .i64 a0_0,.int .i64 a0_1,.int .i64 a0_2,.int .i64 a0_3,.int .i64 a0_4,.int .i64 a0_5] 79)) (.cells #[.int .i64 a1] 3))
 have hx0 : ((w.alloc (.cells #[.int .i64 a0_0,.int .i64 a0_1,.int .i64 a0_2,.int .i64 a0_3,.int .i64 a0_4,.int .i64 a0_5] 79)).alloc (.cells #[.int .i64 a1] 3)).cell? ⟨w.heap.size,0,none⟩ = some (.int .i64 a0_0):=(blk_cell HX.out 0).trans rfl
 unfold impl_flatOK.f at h
 obtain ⟨⟨t0,t1,t2,t3,t4,t5⟩,A1,H⟩:=Option.bind_eq_some_iff.mp h
 have A:=Aside0.mk A1
 dsimp only at H
 clear h A1
 cases t5 with
 | false =>
  rw [if_neg (by decide)] at H
  obtain rfl:=Option.some.inj H
  go_enter Try.func69,Try.ntmps69
  go_wp2_with (first | (go_at_call 86;(refine (impl_fieldsOf.calls k a0_0 t0 t1 t2 t3 t4 false _ A.out).mono ?_);rintro e w2 ⟨rfl,hb⟩;have HB2:=Aside0.mk (below_alloc (below_step HB.out hb) (.cells #[.bool t0,.bool t1,.bool t2,.bool t3,.bool t4] 100));have HX2:=Aside0.mk (blk_alloc (blk_below HX.out hb) (.cells #[.bool t0,.bool t1,.bool t2,.bool t3,.bool t4] 100));have HM2:=Aside0.mk (blk_alloc (blk_below HM.out hb) (.cells #[.bool t0,.bool t1,.bool t2,.bool t3,.bool t4] 100));have HF2:=Aside0.mk (heap_alloc_new w2 (.cells #[.bool t0,.bool t1,.bool t2,.bool t3,.bool t4] 100));have hx1 : (w2.alloc (.cells #[.bool t0,.bool t1,.bool t2,.bool t3,.bool t4] 100)).cell? ⟨w.heap.size,1,none⟩ = some (.int .i64 a0_1):=(blk_cell HX2.out 1).trans rfl;have hx2 : (w2.alloc (.cells #[.bool t0,.bool t1,.bool t2,.bool t3,.bool t4] 100)).cell? ⟨w.heap.size,2,none⟩ = some (.int .i64 a0_2):=(blk_cell HX2.out 2).trans rfl;have hx3 : (w2.alloc (.cells #[.bool t0,.bool t1,.bool t2,.bool t3,.bool t4] 100)).cell? ⟨w.heap.size,3,none⟩ = some (.int .i64 a0_3):=(blk_cell HX2.out 3).trans rfl;have hx4 : (w2.alloc (.cells #[.bool t0,.bool t1,.bool t2,.bool t3,.bool t4] 100)).cell? ⟨w.heap.size,4,none⟩ = some (.int .i64 a0_4):=(blk_cell HX2.out 4).trans rfl;have hx5 : (w2.alloc (.cells #[.bool t0,.bool t1,.bool t2,.bool t3,.bool t4] 100)).cell? ⟨w.heap.size,5,none⟩ = some (.int .i64 a0_5):=(blk_cell HX2.out 5).trans rfl;clear hb))
  go_ret
  exact ⟨rfl,by repeat (first | (with_reducible first | exact HB2.out | apply below_alloc | apply pw_below_drewN | apply below_drew1) | exact HB2.out)⟩
 | true =>
  rw [if_pos rfl] at H
  obtain ⟨b1,B,H⟩:=Option.bind_eq_some_iff.mp H
  have B1:=Aside0.mk B
  clear B
  cases b1 with
  | false =>
   rw [if_neg (by decide)] at H
   obtain rfl:=Option.some.inj H
   go_enter Try.func69,Try.ntmps69
   go_wp2_with (first | (go_at_call 86;(refine (impl_fieldsOf.calls k a0_0 t0 t1 t2 t3 t4 true _ A.out).mono ?_);rintro e w2 ⟨rfl,hb⟩;have HB2:=Aside0.mk (below_alloc (below_step HB.out hb) (.cells #[.bool t0,.bool t1,.bool t2,.bool t3,.bool t4] 100));have HX2:=Aside0.mk (blk_alloc (blk_below HX.out hb) (.cells #[.bool t0,.bool t1,.bool t2,.bool t3,.bool t4] 100));have HM2:=Aside0.mk (blk_alloc (blk_below HM.out hb) (.cells #[.bool t0,.bool t1,.bool t2,.bool t3,.bool t4] 100));have HF2:=Aside0.mk (heap_alloc_new w2 (.cells #[.bool t0,.bool t1,.bool t2,.bool t3,.bool t4] 100));have hx1 : (w2.alloc (.cells #[.bool t0,.bool t1,.bool t2,.bool t3,.bool t4] 100)).cell? ⟨w.heap.size,1,none⟩ = some (.int .i64 a0_1):=(blk_cell HX2.out 1).trans rfl;have hx2 : (w2.alloc (.cells #[.bool t0,.bool t1,.bool t2,.bool t3,.bool t4] 100)).cell? ⟨w.heap.size,2,none⟩ = some (.int .i64 a0_2):=(blk_cell HX2.out 2).trans rfl;have hx3 : (w2.alloc (.cells #[.bool t0,.bool t1,.bool t2,.bool t3,.bool t4] 100)).cell? ⟨w.heap.size,3,none⟩ = some (.int .i64 a0_3):=(blk_cell HX2.out 3).trans rfl;have hx4 : (w2.alloc (.cells #[.bool t0,.bool t1,.bool t2,.bool t3,.bool t4] 100)).cell? ⟨w.heap.size,4,none⟩ = some (.int .i64 a0_4):=(blk_cell HX2.out 4).trans rfl;have hx5 : (w2.alloc (.cells #[.bool t0,.bool t1,.bool t2,.bool t3,.bool t4] 100)).cell? ⟨w.heap.size,5,none⟩ = some (.int .i64 a0_5):=(blk_cell HX2.out 5).trans rfl;clear hb) | (go_at_call 87;(with_reducible refine (impl_flatOK_1.calls (w.heap.size + 1) t0 a0_2 a1 false _ HM2.out B1.out).mono ?_);rintro e w3 ⟨rfl,⟨n1,rfl⟩⟩))
   go_ret
   exact ⟨rfl,by repeat (first | (with_reducible first | exact HB2.out | apply below_alloc | apply pw_below_drewN | apply below_drew1) | exact HB2.out)⟩
  | true =>
   rw [if_pos rfl] at H
   obtain ⟨b2,B,H⟩:=Option.bind_eq_some_iff.mp H
   have B2:=Aside0.mk B
   clear B
   cases b2 with
   | false =>
    rw [if_neg (by decide)] at H
    obtain rfl:=Option.some.inj H
    go_enter Try.func69,Try.ntmps69
    go_wp2_with (first | (go_at_call 86;(refine (impl_fieldsOf.calls k a0_0 t0 t1 t2 t3 t4 true _ A.out).mono ?_);rintro e w2 ⟨rfl,hb⟩;have HB2:=Aside0.mk (below_alloc (below_step HB.out hb) (.cells #[.bool t0,.bool t1,.bool t2,.bool t3,.bool t4] 100));have HX2:=Aside0.mk (blk_alloc (blk_below HX.out hb) (.cells #[.bool t0,.bool t1,.bool t2,.bool t3,.bool t4] 100));have HM2:=Aside0.mk (blk_alloc (blk_below HM.out hb) (.cells #[.bool t0,.bool t1,.bool t2,.bool t3,.bool t4] 100));have HF2:=Aside0.mk (heap_alloc_new w2 (.cells #[.bool t0,.bool t1,.bool t2,.bool t3,.bool t4] 100));have hx1 : (w2.alloc (.cells #[.bool t0,.bool t1,.bool t2,.bool t3,.bool t4] 100)).cell? ⟨w.heap.size,1,none⟩ = some (.int .i64 a0_1):=(blk_cell HX2.out 1).trans rfl;have hx2 : (w2.alloc (.cells #[.bool t0,.bool t1,.bool t2,.bool t3,.bool t4] 100)).cell? ⟨w.heap.size,2,none⟩ = some (.int .i64 a0_2):=(blk_cell HX2.out 2).trans rfl;have hx3 : (w2.alloc (.cells #[.bool t0,.bool t1,.bool t2,.bool t3,.bool t4] 100)).cell? ⟨w.heap.size,3,none⟩ = some (.int .i64 a0_3):=(blk_cell HX2.out 3).trans rfl;have hx4 : (w2.alloc (.cells #[.bool t0,.bool t1,.bool t2,.bool t3,.bool t4] 100)).cell? ⟨w.heap.size,4,none⟩ = some (.int .i64 a0_4):=(blk_cell HX2.out 4).trans rfl;have hx5 : (w2.alloc (.cells #[.bool t0,.bool t1,.bool t2,.bool t3,.bool t4] 100)).cell? ⟨w.heap.size,5,none⟩ = some (.int .i64 a0_5):=(blk_cell HX2.out 5).trans rfl;clear hb) | (go_at_call 87;(with_reducible refine (impl_flatOK_1.calls (w.heap.size + 1) t0 a0_2 a1 true _ HM2.out B1.out).mono ?_);rintro e w3 ⟨rfl,⟨n1,rfl⟩⟩) | (go_at_call 87;(with_reducible refine (impl_flatOK_1.calls (w.heap.size + 1) t1 a0_3 a1 false _ (blk_drewN HM2.out _) B2.out).mono ?_);rintro e w4 ⟨rfl,⟨n2,rfl⟩⟩))
    go_ret
    exact ⟨rfl,by repeat (first | (with_reducible first | exact HB2.out | apply below_alloc | apply pw_below_drewN | apply below_drew1) | exact HB2.out)⟩
   | true =>
    rw [if_pos rfl] at H
    obtain ⟨b3,B,H⟩:=Option.bind_eq_some_iff.mp H
    have B3:=Aside0.mk B
    clear B
    cases b3 with
    | false =>
     rw [if_neg (by decide)] at H
     obtain rfl:=Option.some.inj H
     go_enter Try.func69,Try.ntmps69
     go_wp2_with (first | (go_at_call 86;(refine (impl_fieldsOf.calls k a0_0 t0 t1 t2 t3 t4 true _ A.out).mono ?_);rintro e w2 ⟨rfl,hb⟩;have HB2:=Aside0.mk (below_alloc (below_step HB.out hb) (.cells #[.bool t0,.bool t1,.bool t2,.bool t3,.bool t4] 100));have HX2:=Aside0.mk (blk_alloc (blk_below HX.out hb) (.cells #[.bool t0,.bool t1,.bool t2,.bool t3,.bool t4] 100));have HM2:=Aside0.mk (blk_alloc (blk_below HM.out hb) (.cells #[.bool t0,.bool t1,.bool t2,.bool t3,.bool t4] 100));have HF2:=Aside0.mk (heap_alloc_new w2 (.cells #[.bool t0,.bool t1,.bool t2,.bool t3,.bool t4] 100));have hx1 : (w2.alloc (.cells #[.bool t0,.bool t1,.bool t2,.bool t3,.bool t4] 100)).cell? ⟨w.heap.size,1,none⟩ = some (.int .i64 a0_1):=(blk_cell HX2.out 1).trans rfl;have hx2 : (w2.alloc (.cells #[.bool t0,.bool t1,.bool t2,.bool t3,.bool t4] 100)).cell? ⟨w.heap.size,2,none⟩ = some (.int .i64 a0_2):=(blk_cell HX2.out 2).trans rfl;have hx3 : (w2.alloc (.cells #[.bool t0,.bool t1,.bool t2,.bool t3,.bool t4] 100)).cell? ⟨w.heap.size,3,none⟩ = some (.int .i64 a0_3):=(blk_cell HX2.out 3).trans rfl;have hx4 : (w2.alloc (.cells #[.bool t0,.bool t1,.bool t2,.bool t3,.bool t4] 100)).cell? ⟨w.heap.size,4,none⟩ = some (.int .i64 a0_4):=(blk_cell HX2.out 4).trans rfl;have hx5 : (w2.alloc (.cells #[.bool t0,.bool t1,.bool t2,.bool t3,.bool t4] 100)).cell? ⟨w.heap.size,5,none⟩ = some (.int .i64 a0_5):=(blk_cell HX2.out 5).trans rfl;clear hb) | (go_at_call 87;(with_reducible refine (impl_flatOK_1.calls (w.heap.size + 1) t0 a0_2 a1 true _ HM2.out B1.out).mono ?_);rintro e w3 ⟨rfl,⟨n1,rfl⟩⟩) | (go_at_call 87;(with_reducible refine (impl_flatOK_1.calls (w.heap.size + 1) t1 a0_3 a1 true _ (blk_drewN HM2.out _) B2.out).mono ?_);rintro e w4 ⟨rfl,⟨n2,rfl⟩⟩) | (go_at_call 87;(with_reducible refine (impl_flatOK_1.calls (w.heap.size + 1) t2 a0_4 a1 false _ (blk_drewN HM2.out _) B3.out).mono ?_);rintro e w5 ⟨rfl,⟨n3,rfl⟩⟩))
     go_ret
     exact ⟨rfl,by repeat (first | (with_reducible first | exact HB2.out | apply below_alloc | apply pw_below_drewN | apply below_drew1) | exact HB2.out)⟩
    | true =>
     rw [if_pos rfl] at H
     unfold impl_flatOK.r at H
     obtain ⟨p,P,H⟩:=Option.bind_eq_some_iff.mp H
     cases t3 with
     | true =>
      rw [if_pos rfl] at P
      have PW:=Aside0.mk P
      clear P
      cases p with
      | false =>
       rw [if_neg (by decide)] at H
       obtain rfl:=Option.some.inj H
       clear H
       go_enter Try.func69,Try.ntmps69
       go_wp2_with (first | (go_at_call 86;(refine (impl_fieldsOf.calls k a0_0 t0 t1 t2 true t4 true _ A.out).mono ?_);rintro e w2 ⟨rfl,hb⟩;have HB2:=Aside0.mk (below_alloc (below_step HB.out hb) (.cells #[.bool t0,.bool t1,.bool t2,.bool true,.bool t4] 100));have HX2:=Aside0.mk (blk_alloc (blk_below HX.out hb) (.cells #[.bool t0,.bool t1,.bool t2,.bool true,.bool t4] 100));have HM2:=Aside0.mk (blk_alloc (blk_below HM.out hb) (.cells #[.bool t0,.bool t1,.bool t2,.bool true,.bool t4] 100));have HF2:=Aside0.mk (heap_alloc_new w2 (.cells #[.bool t0,.bool t1,.bool t2,.bool true,.bool t4] 100));have hx1 : (w2.alloc (.cells #[.bool t0,.bool t1,.bool t2,.bool true,.bool t4] 100)).cell? ⟨w.heap.size,1,none⟩ = some (.int .i64 a0_1):=(blk_cell HX2.out 1).trans rfl;have hx2 : (w2.alloc (.cells #[.bool t0,.bool t1,.bool t2,.bool true,.bool t4] 100)).cell? ⟨w.heap.size,2,none⟩ = some (.int .i64 a0_2):=(blk_cell HX2.out 2).trans rfl;have hx3 : (w2.alloc (.cells #[.bool t0,.bool t1,.bool t2,.bool true,.bool t4] 100)).cell? ⟨w.heap.size,3,none⟩ = some (.int .i64 a0_3):=(blk_cell HX2.out 3).trans rfl;have hx4 : (w2.alloc (.cells #[.bool t0,.bool t1,.bool t2,.bool true,.bool t4] 100)).cell? ⟨w.heap.size,4,none⟩ = some (.int .i64 a0_4):=(blk_cell HX2.out 4).trans rfl;have hx5 : (w2.alloc (.cells #[.bool t0,.bool t1,.bool t2,.bool true,.bool t4] 100)).cell? ⟨w.heap.size,5,none⟩ = some (.int .i64 a0_5):=(blk_cell HX2.out 5).trans rfl;clear hb) | (go_at_call 87;(with_reducible refine (impl_flatOK_1.calls (w.heap.size + 1) t0 a0_2 a1 true _ HM2.out B1.out).mono ?_);rintro e w3 ⟨rfl,⟨n1,rfl⟩⟩) | (go_at_call 87;(with_reducible refine (impl_flatOK_1.calls (w.heap.size + 1) t1 a0_3 a1 true _ (blk_drewN HM2.out _) B2.out).mono ?_);rintro e w4 ⟨rfl,⟨n2,rfl⟩⟩) | (go_at_call 87;(with_reducible refine (impl_flatOK_1.calls (w.heap.size + 1) t2 a0_4 a1 true _ (blk_drewN HM2.out _) B3.out).mono ?_);rintro e w5 ⟨rfl,⟨n3,rfl⟩⟩) | (go_at_call 88;(with_reducible refine (impl_isWord.calls a0_5 false _ PW.out).mono ?_);rintro e w6 ⟨rfl,⟨n6,rfl⟩⟩))
       go_ret
       exact ⟨rfl,by repeat (first | (with_reducible first | exact HB2.out | apply below_alloc | apply pw_below_drewN | apply below_drew1) | exact HB2.out)⟩
      | true =>
       rw [if_pos rfl] at H
       cases t4 with
       | true =>
        rw [if_pos rfl] at H
        have PT:=Aside0.mk H
        clear H
        cases r with
        | true =>
         go_enter Try.func69,Try.ntmps69
         go_wp2_with (first | (go_at_call 86;(refine (impl_fieldsOf.calls k a0_0 t0 t1 t2 true true true _ A.out).mono ?_);rintro e w2 ⟨rfl,hb⟩;have HB2:=Aside0.mk (below_alloc (below_step HB.out hb) (.cells #[.bool t0,.bool t1,.bool t2,.bool true,.bool true] 100));have HX2:=Aside0.mk (blk_alloc (blk_below HX.out hb) (.cells #[.bool t0,.bool t1,.bool t2,.bool true,.bool true] 100));have HM2:=Aside0.mk (blk_alloc (blk_below HM.out hb) (.cells #[.bool t0,.bool t1,.bool t2,.bool true,.bool true] 100));have HF2:=Aside0.mk (heap_alloc_new w2 (.cells #[.bool t0,.bool t1,.bool t2,.bool true,.bool true] 100));have hx1 : (w2.alloc (.cells #[.bool t0,.bool t1,.bool t2,.bool true,.bool true] 100)).cell? ⟨w.heap.size,1,none⟩ = some (.int .i64 a0_1):=(blk_cell HX2.out 1).trans rfl;have hx2 : (w2.alloc (.cells #[.bool t0,.bool t1,.bool t2,.bool true,.bool true] 100)).cell? ⟨w.heap.size,2,none⟩ = some (.int .i64 a0_2):=(blk_cell HX2.out 2).trans rfl;have hx3 : (w2.alloc (.cells #[.bool t0,.bool t1,.bool t2,.bool true,.bool true] 100)).cell? ⟨w.heap.size,3,none⟩ = some (.int .i64 a0_3):=(blk_cell HX2.out 3).trans rfl;have hx4 : (w2.alloc (.cells #[.bool t0,.bool t1,.bool t2,.bool true,.bool true] 100)).cell? ⟨w.heap.size,4,none⟩ = some (.int .i64 a0_4):=(blk_cell HX2.out 4).trans rfl;have hx5 : (w2.alloc (.cells #[.bool t0,.bool t1,.bool t2,.bool true,.bool true] 100)).cell? ⟨w.heap.size,5,none⟩ = some (.int .i64 a0_5):=(blk_cell HX2.out 5).trans rfl;clear hb) | (go_at_call 87;(with_reducible refine (impl_flatOK_1.calls (w.heap.size + 1) t0 a0_2 a1 true _ HM2.out B1.out).mono ?_);rintro e w3 ⟨rfl,⟨n1,rfl⟩⟩) | (go_at_call 87;(with_reducible refine (impl_flatOK_1.calls (w.heap.size + 1) t1 a0_3 a1 true _ (blk_drewN HM2.out _) B2.out).mono ?_);rintro e w4 ⟨rfl,⟨n2,rfl⟩⟩) | (go_at_call 87;(with_reducible refine (impl_flatOK_1.calls (w.heap.size + 1) t2 a0_4 a1 true _ (blk_drewN HM2.out _) B3.out).mono ?_);rintro e w5 ⟨rfl,⟨n3,rfl⟩⟩) | (go_at_call 88;(with_reducible refine (impl_isWord.calls a0_5 true _ PW.out).mono ?_);rintro e w6 ⟨rfl,⟨n6,rfl⟩⟩) | (go_at_call 89;(with_reducible refine (impl_isTwo.calls a0_1 true _ PT.out).mono ?_);rintro e w7 ⟨rfl,⟨n7,rfl⟩⟩))
         go_ret
         exact ⟨rfl,by repeat (first | (with_reducible first | exact HB2.out | apply below_alloc | apply pw_below_drewN | apply below_drew1) | exact HB2.out)⟩
        | false =>
         go_enter Try.func69,Try.ntmps69
         go_wp2_with (first | (go_at_call 86;(refine (impl_fieldsOf.calls k a0_0 t0 t1 t2 true true true _ A.out).mono ?_);rintro e w2 ⟨rfl,hb⟩;have HB2:=Aside0.mk (below_alloc (below_step HB.out hb) (.cells #[.bool t0,.bool t1,.bool t2,.bool true,.bool true] 100));have HX2:=Aside0.mk (blk_alloc (blk_below HX.out hb) (.cells #[.bool t0,.bool t1,.bool t2,.bool true,.bool true] 100));have HM2:=Aside0.mk (blk_alloc (blk_below HM.out hb) (.cells #[.bool t0,.bool t1,.bool t2,.bool true,.bool true] 100));have HF2:=Aside0.mk (heap_alloc_new w2 (.cells #[.bool t0,.bool t1,.bool t2,.bool true,.bool true] 100));have hx1 : (w2.alloc (.cells #[.bool t0,.bool t1,.bool t2,.bool true,.bool true] 100)).cell? ⟨w.heap.size,1,none⟩ = some (.int .i64 a0_1):=(blk_cell HX2.out 1).trans rfl;have hx2 : (w2.alloc (.cells #[.bool t0,.bool t1,.bool t2,.bool true,.bool true] 100)).cell? ⟨w.heap.size,2,none⟩ = some (.int .i64 a0_2):=(blk_cell HX2.out 2).trans rfl;have hx3 : (w2.alloc (.cells #[.bool t0,.bool t1,.bool t2,.bool true,.bool true] 100)).cell? ⟨w.heap.size,3,none⟩ = some (.int .i64 a0_3):=(blk_cell HX2.out 3).trans rfl;have hx4 : (w2.alloc (.cells #[.bool t0,.bool t1,.bool t2,.bool true,.bool true] 100)).cell? ⟨w.heap.size,4,none⟩ = some (.int .i64 a0_4):=(blk_cell HX2.out 4).trans rfl;have hx5 : (w2.alloc (.cells #[.bool t0,.bool t1,.bool t2,.bool true,.bool true] 100)).cell? ⟨w.heap.size,5,none⟩ = some (.int .i64 a0_5):=(blk_cell HX2.out 5).trans rfl;clear hb) | (go_at_call 87;(with_reducible refine (impl_flatOK_1.calls (w.heap.size + 1) t0 a0_2 a1 true _ HM2.out B1.out).mono ?_);rintro e w3 ⟨rfl,⟨n1,rfl⟩⟩) | (go_at_call 87;(with_reducible refine (impl_flatOK_1.calls (w.heap.size + 1) t1 a0_3 a1 true _ (blk_drewN HM2.out _) B2.out).mono ?_);rintro e w4 ⟨rfl,⟨n2,rfl⟩⟩) | (go_at_call 87;(with_reducible refine (impl_flatOK_1.calls (w.heap.size + 1) t2 a0_4 a1 true _ (blk_drewN HM2.out _) B3.out).mono ?_);rintro e w5 ⟨rfl,⟨n3,rfl⟩⟩) | (go_at_call 88;(with_reducible refine (impl_isWord.calls a0_5 true _ PW.out).mono ?_);rintro e w6 ⟨rfl,⟨n6,rfl⟩⟩) | (go_at_call 89;(with_reducible refine (impl_isTwo.calls a0_1 false _ PT.out).mono ?_);rintro e w7 ⟨rfl,⟨n7,rfl⟩⟩))
         go_ret
         exact ⟨rfl,by repeat (first | (with_reducible first | exact HB2.out | apply below_alloc | apply pw_below_drewN | apply below_drew1) | exact HB2.out)⟩
       | false =>
        rw [if_neg (by decide)] at H
        by_cases cq : a0_1 = 0
        ·rw [if_pos cq] at H
         obtain rfl:=Option.some.inj H
         have eq1 : (a0_1 == 0) = true:=beq_iff_eq.mpr cq
         clear cq H
         go_enter Try.func69,Try.ntmps69
         go_wp2_with (first | (go_at_call 86;(refine (impl_fieldsOf.calls k a0_0 t0 t1 t2 true false true _ A.out).mono ?_);rintro e w2 ⟨rfl,hb⟩;have HB2:=Aside0.mk (below_alloc (below_step HB.out hb) (.cells #[.bool t0,.bool t1,.bool t2,.bool true,.bool false] 100));have HX2:=Aside0.mk (blk_alloc (blk_below HX.out hb) (.cells #[.bool t0,.bool t1,.bool t2,.bool true,.bool false] 100));have HM2:=Aside0.mk (blk_alloc (blk_below HM.out hb) (.cells #[.bool t0,.bool t1,.bool t2,.bool true,.bool false] 100));have HF2:=Aside0.mk (heap_alloc_new w2 (.cells #[.bool t0,.bool t1,.bool t2,.bool true,.bool false] 100));have hx1 : (w2.alloc (.cells #[.bool t0,.bool t1,.bool t2,.bool true,.bool false] 100)).cell? ⟨w.heap.size,1,none⟩ = some (.int .i64 a0_1):=(blk_cell HX2.out 1).trans rfl;have hx2 : (w2.alloc (.cells #[.bool t0,.bool t1,.bool t2,.bool true,.bool false] 100)).cell? ⟨w.heap.size,2,none⟩ = some (.int .i64 a0_2):=(blk_cell HX2.out 2).trans rfl;have hx3 : (w2.alloc (.cells #[.bool t0,.bool t1,.bool t2,.bool true,.bool false] 100)).cell? ⟨w.heap.size,3,none⟩ = some (.int .i64 a0_3):=(blk_cell HX2.out 3).trans rfl;have hx4 : (w2.alloc (.cells #[.bool t0,.bool t1,.bool t2,.bool true,.bool false] 100)).cell? ⟨w.heap.size,4,none⟩ = some (.int .i64 a0_4):=(blk_cell HX2.out 4).trans rfl;have hx5 : (w2.alloc (.cells #[.bool t0,.bool t1,.bool t2,.bool true,.bool false] 100)).cell? ⟨w.heap.size,5,none⟩ = some (.int .i64 a0_5):=(blk_cell HX2.out 5).trans rfl;clear hb) | (go_at_call 87;(with_reducible refine (impl_flatOK_1.calls (w.heap.size + 1) t0 a0_2 a1 true _ HM2.out B1.out).mono ?_);rintro e w3 ⟨rfl,⟨n1,rfl⟩⟩) | (go_at_call 87;(with_reducible refine (impl_flatOK_1.calls (w.heap.size + 1) t1 a0_3 a1 true _ (blk_drewN HM2.out _) B2.out).mono ?_);rintro e w4 ⟨rfl,⟨n2,rfl⟩⟩) | (go_at_call 87;(with_reducible refine (impl_flatOK_1.calls (w.heap.size + 1) t2 a0_4 a1 true _ (blk_drewN HM2.out _) B3.out).mono ?_);rintro e w5 ⟨rfl,⟨n3,rfl⟩⟩) | (go_at_call 88;(with_reducible refine (impl_isWord.calls a0_5 true _ PW.out).mono ?_);rintro e w6 ⟨rfl,⟨n6,rfl⟩⟩))
         go_ret
         exact ⟨rfl,by repeat (first | (with_reducible first | exact HB2.out | apply below_alloc | apply pw_below_drewN | apply below_drew1) | exact HB2.out)⟩
        ·rw [if_neg cq] at H
         obtain rfl:=Option.some.inj H
         have eq1 : (a0_1 == 0) = false:=beq_eq_false_iff_ne.mpr cq
         clear cq H
         go_enter Try.func69,Try.ntmps69
         go_wp2_with (first | (go_at_call 86;(refine (impl_fieldsOf.calls k a0_0 t0 t1 t2 true false true _ A.out).mono ?_);rintro e w2 ⟨rfl,hb⟩;have HB2:=Aside0.mk (below_alloc (below_step HB.out hb) (.cells #[.bool t0,.bool t1,.bool t2,.bool true,.bool false] 100));have HX2:=Aside0.mk (blk_alloc (blk_below HX.out hb) (.cells #[.bool t0,.bool t1,.bool t2,.bool true,.bool false] 100));have HM2:=Aside0.mk (blk_alloc (blk_below HM.out hb) (.cells #[.bool t0,.bool t1,.bool t2,.bool true,.bool false] 100));have HF2:=Aside0.mk (heap_alloc_new w2 (.cells #[.bool t0,.bool t1,.bool t2,.bool true,.bool false] 100));have hx1 : (w2.alloc (.cells #[.bool t0,.bool t1,.bool t2,.bool true,.bool false] 100)).cell? ⟨w.heap.size,1,none⟩ = some (.int .i64 a0_1):=(blk_cell HX2.out 1).trans rfl;have hx2 : (w2.alloc (.cells #[.bool t0,.bool t1,.bool t2,.bool true,.bool false] 100)).cell? ⟨w.heap.size,2,none⟩ = some (.int .i64 a0_2):=(blk_cell HX2.out 2).trans rfl;have hx3 : (w2.alloc (.cells #[.bool t0,.bool t1,.bool t2,.bool true,.bool false] 100)).cell? ⟨w.heap.size,3,none⟩ = some (.int .i64 a0_3):=(blk_cell HX2.out 3).trans rfl;have hx4 : (w2.alloc (.cells #[.bool t0,.bool t1,.bool t2,.bool true,.bool false] 100)).cell? ⟨w.heap.size,4,none⟩ = some (.int .i64 a0_4):=(blk_cell HX2.out 4).trans rfl;have hx5 : (w2.alloc (.cells #[.bool t0,.bool t1,.bool t2,.bool true,.bool false] 100)).cell? ⟨w.heap.size,5,none⟩ = some (.int .i64 a0_5):=(blk_cell HX2.out 5).trans rfl;clear hb) | (go_at_call 87;(with_reducible refine (impl_flatOK_1.calls (w.heap.size + 1) t0 a0_2 a1 true _ HM2.out B1.out).mono ?_);rintro e w3 ⟨rfl,⟨n1,rfl⟩⟩) | (go_at_call 87;(with_reducible refine (impl_flatOK_1.calls (w.heap.size + 1) t1 a0_3 a1 true _ (blk_drewN HM2.out _) B2.out).mono ?_);rintro e w4 ⟨rfl,⟨n2,rfl⟩⟩) | (go_at_call 87;(with_reducible refine (impl_flatOK_1.calls (w.heap.size + 1) t2 a0_4 a1 true _ (blk_drewN HM2.out _) B3.out).mono ?_);rintro e w5 ⟨rfl,⟨n3,rfl⟩⟩) | (go_at_call 88;(with_reducible refine (impl_isWord.calls a0_5 true _ PW.out).mono ?_);rintro e w6 ⟨rfl,⟨n6,rfl⟩⟩))
         go_ret
         exact ⟨rfl,by repeat (first | (with_reducible first | exact HB2.out | apply below_alloc | apply pw_below_drewN | apply below_drew1) | exact HB2.out)⟩
     | false =>
      rw [if_neg (by decide)] at P
      by_cases cn : a0_5 = 0
      ·rw [if_pos cn] at P
       obtain rfl:=Option.some.inj P
       have en1 : (a0_5 == 0) = true:=beq_iff_eq.mpr cn
       clear cn P
       rw [if_pos rfl] at H
       cases t4 with
       | true =>
        rw [if_pos rfl] at H
        have PT:=Aside0.mk H
        clear H
        cases r with
        | true =>
         go_enter Try.func69,Try.ntmps69
         go_wp2_with (first | (go_at_call 86;(refine (impl_fieldsOf.calls k a0_0 t0 t1 t2 false true true _ A.out).mono ?_);rintro e w2 ⟨rfl,hb⟩;have HB2:=Aside0.mk (below_alloc (below_step HB.out hb) (.cells #[.bool t0,.bool t1,.bool t2,.bool false,.bool true] 100));have HX2:=Aside0.mk (blk_alloc (blk_below HX.out hb) (.cells #[.bool t0,.bool t1,.bool t2,.bool false,.bool true] 100));have HM2:=Aside0.mk (blk_alloc (blk_below HM.out hb) (.cells #[.bool t0,.bool t1,.bool t2,.bool false,.bool true] 100));have HF2:=Aside0.mk (heap_alloc_new w2 (.cells #[.bool t0,.bool t1,.bool t2,.bool false,.bool true] 100));have hx1 : (w2.alloc (.cells #[.bool t0,.bool t1,.bool t2,.bool false,.bool true] 100)).cell? ⟨w.heap.size,1,none⟩ = some (.int .i64 a0_1):=(blk_cell HX2.out 1).trans rfl;have hx2 : (w2.alloc (.cells #[.bool t0,.bool t1,.bool t2,.bool false,.bool true] 100)).cell? ⟨w.heap.size,2,none⟩ = some (.int .i64 a0_2):=(blk_cell HX2.out 2).trans rfl;have hx3 : (w2.alloc (.cells #[.bool t0,.bool t1,.bool t2,.bool false,.bool true] 100)).cell? ⟨w.heap.size,3,none⟩ = some (.int .i64 a0_3):=(blk_cell HX2.out 3).trans rfl;have hx4 : (w2.alloc (.cells #[.bool t0,.bool t1,.bool t2,.bool false,.bool true] 100)).cell? ⟨w.heap.size,4,none⟩ = some (.int .i64 a0_4):=(blk_cell HX2.out 4).trans rfl;have hx5 : (w2.alloc (.cells #[.bool t0,.bool t1,.bool t2,.bool false,.bool true] 100)).cell? ⟨w.heap.size,5,none⟩ = some (.int .i64 a0_5):=(blk_cell HX2.out 5).trans rfl;clear hb) | (go_at_call 87;(with_reducible refine (impl_flatOK_1.calls (w.heap.size + 1) t0 a0_2 a1 true _ HM2.out B1.out).mono ?_);rintro e w3 ⟨rfl,⟨n1,rfl⟩⟩) | (go_at_call 87;(with_reducible refine (impl_flatOK_1.calls (w.heap.size + 1) t1 a0_3 a1 true _ (blk_drewN HM2.out _) B2.out).mono ?_);rintro e w4 ⟨rfl,⟨n2,rfl⟩⟩) | (go_at_call 87;(with_reducible refine (impl_flatOK_1.calls (w.heap.size + 1) t2 a0_4 a1 true _ (blk_drewN HM2.out _) B3.out).mono ?_);rintro e w5 ⟨rfl,⟨n3,rfl⟩⟩) | (go_at_call 89;(with_reducible refine (impl_isTwo.calls a0_1 true _ PT.out).mono ?_);rintro e w7 ⟨rfl,⟨n7,rfl⟩⟩))
         go_ret
         exact ⟨rfl,by repeat (first | (with_reducible first | exact HB2.out | apply below_alloc | apply pw_below_drewN | apply below_drew1) | exact HB2.out)⟩
        | false =>
         go_enter Try.func69,Try.ntmps69
         go_wp2_with (first | (go_at_call 86;(refine (impl_fieldsOf.calls k a0_0 t0 t1 t2 false true true _ A.out).mono ?_);rintro e w2 ⟨rfl,hb⟩;have HB2:=Aside0.mk (below_alloc (below_step HB.out hb) (.cells #[.bool t0,.bool t1,.bool t2,.bool false,.bool true] 100));have HX2:=Aside0.mk (blk_alloc (blk_below HX.out hb) (.cells #[.bool t0,.bool t1,.bool t2,.bool false,.bool true] 100));have HM2:=Aside0.mk (blk_alloc (blk_below HM.out hb) (.cells #[.bool t0,.bool t1,.bool t2,.bool false,.bool true] 100));have HF2:=Aside0.mk (heap_alloc_new w2 (.cells #[.bool t0,.bool t1,.bool t2,.bool false,.bool true] 100));have hx1 : (w2.alloc (.cells #[.bool t0,.bool t1,.bool t2,.bool false,.bool true] 100)).cell? ⟨w.heap.size,1,none⟩ = some (.int .i64 a0_1):=(blk_cell HX2.out 1).trans rfl;have hx2 : (w2.alloc (.cells #[.bool t0,.bool t1,.bool t2,.bool false,.bool true] 100)).cell? ⟨w.heap.size,2,none⟩ = some (.int .i64 a0_2):=(blk_cell HX2.out 2).trans rfl;have hx3 : (w2.alloc (.cells #[.bool t0,.bool t1,.bool t2,.bool false,.bool true] 100)).cell? ⟨w.heap.size,3,none⟩ = some (.int .i64 a0_3):=(blk_cell HX2.out 3).trans rfl;have hx4 : (w2.alloc (.cells #[.bool t0,.bool t1,.bool t2,.bool false,.bool true] 100)).cell? ⟨w.heap.size,4,none⟩ = some (.int .i64 a0_4):=(blk_cell HX2.out 4).trans rfl;have hx5 : (w2.alloc (.cells #[.bool t0,.bool t1,.bool t2,.bool false,.bool true] 100)).cell? ⟨w.heap.size,5,none⟩ = some (.int .i64 a0_5):=(blk_cell HX2.out 5).trans rfl;clear hb) | (go_at_call 87;(with_reducible refine (impl_flatOK_1.calls (w.heap.size + 1) t0 a0_2 a1 true _ HM2.out B1.out).mono ?_);rintro e w3 ⟨rfl,⟨n1,rfl⟩⟩) | (go_at_call 87;(with_reducible refine (impl_flatOK_1.calls (w.heap.size + 1) t1 a0_3 a1 true _ (blk_drewN HM2.out _) B2.out).mono ?_);rintro e w4 ⟨rfl,⟨n2,rfl⟩⟩) | (go_at_call 87;(with_reducible refine (impl_flatOK_1.calls (w.heap.size + 1) t2 a0_4 a1 true _ (blk_drewN HM2.out _) B3.out).mono ?_);rintro e w5 ⟨rfl,⟨n3,rfl⟩⟩) | (go_at_call 89;(with_reducible refine (impl_isTwo.calls a0_1 false _ PT.out).mono ?_);rintro e w7 ⟨rfl,⟨n7,rfl⟩⟩))
         go_ret
         exact ⟨rfl,by repeat (first | (with_reducible first | exact HB2.out | apply below_alloc | apply pw_below_drewN | apply below_drew1) | exact HB2.out)⟩
       | false =>
        rw [if_neg (by decide)] at H
        by_cases cq : a0_1 = 0
        ·rw [if_pos cq] at H
         obtain rfl:=Option.some.inj H
         have eq1 : (a0_1 == 0) = true:=beq_iff_eq.mpr cq
         clear cq H
         go_enter Try.func69,Try.ntmps69
         go_wp2_with (first | (go_at_call 86;(refine (impl_fieldsOf.calls k a0_0 t0 t1 t2 false false true _ A.out).mono ?_);rintro e w2 ⟨rfl,hb⟩;have HB2:=Aside0.mk (below_alloc (below_step HB.out hb) (.cells #[.bool t0,.bool t1,.bool t2,.bool false,.bool false] 100));have HX2:=Aside0.mk (blk_alloc (blk_below HX.out hb) (.cells #[.bool t0,.bool t1,.bool t2,.bool false,.bool false] 100));have HM2:=Aside0.mk (blk_alloc (blk_below HM.out hb) (.cells #[.bool t0,.bool t1,.bool t2,.bool false,.bool false] 100));have HF2:=Aside0.mk (heap_alloc_new w2 (.cells #[.bool t0,.bool t1,.bool t2,.bool false,.bool false] 100));have hx1 : (w2.alloc (.cells #[.bool t0,.bool t1,.bool t2,.bool false,.bool false] 100)).cell? ⟨w.heap.size,1,none⟩ = some (.int .i64 a0_1):=(blk_cell HX2.out 1).trans rfl;have hx2 : (w2.alloc (.cells #[.bool t0,.bool t1,.bool t2,.bool false,.bool false] 100)).cell? ⟨w.heap.size,2,none⟩ = some (.int .i64 a0_2):=(blk_cell HX2.out 2).trans rfl;have hx3 : (w2.alloc (.cells #[.bool t0,.bool t1,.bool t2,.bool false,.bool false] 100)).cell? ⟨w.heap.size,3,none⟩ = some (.int .i64 a0_3):=(blk_cell HX2.out 3).trans rfl;have hx4 : (w2.alloc (.cells #[.bool t0,.bool t1,.bool t2,.bool false,.bool false] 100)).cell? ⟨w.heap.size,4,none⟩ = some (.int .i64 a0_4):=(blk_cell HX2.out 4).trans rfl;have hx5 : (w2.alloc (.cells #[.bool t0,.bool t1,.bool t2,.bool false,.bool false] 100)).cell? ⟨w.heap.size,5,none⟩ = some (.int .i64 a0_5):=(blk_cell HX2.out 5).trans rfl;clear hb) | (go_at_call 87;(with_reducible refine (impl_flatOK_1.calls (w.heap.size + 1) t0 a0_2 a1 true _ HM2.out B1.out).mono ?_);rintro e w3 ⟨rfl,⟨n1,rfl⟩⟩) | (go_at_call 87;(with_reducible refine (impl_flatOK_1.calls (w.heap.size + 1) t1 a0_3 a1 true _ (blk_drewN HM2.out _) B2.out).mono ?_);rintro e w4 ⟨rfl,⟨n2,rfl⟩⟩) | (go_at_call 87;(with_reducible refine (impl_flatOK_1.calls (w.heap.size + 1) t2 a0_4 a1 true _ (blk_drewN HM2.out _) B3.out).mono ?_);rintro e w5 ⟨rfl,⟨n3,rfl⟩⟩))
         go_ret
         exact ⟨rfl,by repeat (first | (with_reducible first | exact HB2.out | apply below_alloc | apply pw_below_drewN | apply below_drew1) | exact HB2.out)⟩
        ·rw [if_neg cq] at H
         obtain rfl:=Option.some.inj H
         have eq1 : (a0_1 == 0) = false:=beq_eq_false_iff_ne.mpr cq
         clear cq H
         go_enter Try.func69,Try.ntmps69
         go_wp2_with (first | (go_at_call 86;(refine (impl_fieldsOf.calls k a0_0 t0 t1 t2 false false true _ A.out).mono ?_);rintro e w2 ⟨rfl,hb⟩;have HB2:=Aside0.mk (below_alloc (below_step HB.out hb) (.cells #[.bool t0,.bool t1,.bool t2,.bool false,.bool false] 100));have HX2:=Aside0.mk (blk_alloc (blk_below HX.out hb) (.cells #[.bool t0,.bool t1,.bool t2,.bool false,.bool false] 100));have HM2:=Aside0.mk (blk_alloc (blk_below HM.out hb) (.cells #[.bool t0,.bool t1,.bool t2,.bool false,.bool false] 100));have HF2:=Aside0.mk (heap_alloc_new w2 (.cells #[.bool t0,.bool t1,.bool t2,.bool false,.bool false] 100));have hx1 : (w2.alloc (.cells #[.bool t0,.bool t1,.bool t2,.bool false,.bool false] 100)).cell? ⟨w.heap.size,1,none⟩ = some (.int .i64 a0_1):=(blk_cell HX2.out 1).trans rfl;have hx2 : (w2.alloc (.cells #[.bool t0,.bool t1,.bool t2,.bool false,.bool false] 100)).cell? ⟨w.heap.size,2,none⟩ = some (.int .i64 a0_2):=(blk_cell HX2.out 2).trans rfl;have hx3 : (w2.alloc (.cells #[.bool t0,.bool t1,.bool t2,.bool false,.bool false] 100)).cell? ⟨w.heap.size,3,none⟩ = some (.int .i64 a0_3):=(blk_cell HX2.out 3).trans rfl;have hx4 : (w2.alloc (.cells #[.bool t0,.bool t1,.bool t2,.bool false,.bool false] 100)).cell? ⟨w.heap.size,4,none⟩ = some (.int .i64 a0_4):=(blk_cell HX2.out 4).trans rfl;have hx5 : (w2.alloc (.cells #[.bool t0,.bool t1,.bool t2,.bool false,.bool false] 100)).cell? ⟨w.heap.size,5,none⟩ = some (.int .i64 a0_5):=(blk_cell HX2.out 5).trans rfl;clear hb) | (go_at_call 87;(with_reducible refine (impl_flatOK_1.calls (w.heap.size + 1) t0 a0_2 a1 true _ HM2.out B1.out).mono ?_);rintro e w3 ⟨rfl,⟨n1,rfl⟩⟩) | (go_at_call 87;(with_reducible refine (impl_flatOK_1.calls (w.heap.size + 1) t1 a0_3 a1 true _ (blk_drewN HM2.out _) B2.out).mono ?_);rintro e w4 ⟨rfl,⟨n2,rfl⟩⟩) | (go_at_call 87;(with_reducible refine (impl_flatOK_1.calls (w.heap.size + 1) t2 a0_4 a1 true _ (blk_drewN HM2.out _) B3.out).mono ?_);rintro e w5 ⟨rfl,⟨n3,rfl⟩⟩))
         go_ret
         exact ⟨rfl,by repeat (first | (with_reducible first | exact HB2.out | apply below_alloc | apply pw_below_drewN | apply below_drew1) | exact HB2.out)⟩
      ·rw [if_neg cn] at P
       obtain rfl:=Option.some.inj P
       have en1 : (a0_5 == 0) = false:=beq_eq_false_iff_ne.mpr cn
       clear cn P
       rw [if_neg (by decide)] at H
       obtain rfl:=Option.some.inj H
       clear H
       go_enter Try.func69,Try.ntmps69
       go_wp2_with (first | (go_at_call 86;(refine (impl_fieldsOf.calls k a0_0 t0 t1 t2 false t4 true _ A.out).mono ?_);rintro e w2 ⟨rfl,hb⟩;have HB2:=Aside0.mk (below_alloc (below_step HB.out hb) (.cells #[.bool t0,.bool t1,.bool t2,.bool false,.bool t4] 100));have HX2:=Aside0.mk (blk_alloc (blk_below HX.out hb) (.cells #[.bool t0,.bool t1,.bool t2,.bool false,.bool t4] 100));have HM2:=Aside0.mk (blk_alloc (blk_below HM.out hb) (.cells #[.bool t0,.bool t1,.bool t2,.bool false,.bool t4] 100));have HF2:=Aside0.mk (heap_alloc_new w2 (.cells #[.bool t0,.bool t1,.bool t2,.bool false,.bool t4] 100));have hx1 : (w2.alloc (.cells #[.bool t0,.bool t1,.bool t2,.bool false,.bool t4] 100)).cell? ⟨w.heap.size,1,none⟩ = some (.int .i64 a0_1):=(blk_cell HX2.out 1).trans rfl;have hx2 : (w2.alloc (.cells #[.bool t0,.bool t1,.bool t2,.bool false,.bool t4] 100)).cell? ⟨w.heap.size,2,none⟩ = some (.int .i64 a0_2):=(blk_cell HX2.out 2).trans rfl;have hx3 : (w2.alloc (.cells #[.bool t0,.bool t1,.bool t2,.bool false,.bool t4] 100)).cell? ⟨w.heap.size,3,none⟩ = some (.int .i64 a0_3):=(blk_cell HX2.out 3).trans rfl;have hx4 : (w2.alloc (.cells #[.bool t0,.bool t1,.bool t2,.bool false,.bool t4] 100)).cell? ⟨w.heap.size,4,none⟩ = some (.int .i64 a0_4):=(blk_cell HX2.out 4).trans rfl;have hx5 : (w2.alloc (.cells #[.bool t0,.bool t1,.bool t2,.bool false,.bool t4] 100)).cell? ⟨w.heap.size,5,none⟩ = some (.int .i64 a0_5):=(blk_cell HX2.out 5).trans rfl;clear hb) | (go_at_call 87;(with_reducible refine (impl_flatOK_1.calls (w.heap.size + 1) t0 a0_2 a1 true _ HM2.out B1.out).mono ?_);rintro e w3 ⟨rfl,⟨n1,rfl⟩⟩) | (go_at_call 87;(with_reducible refine (impl_flatOK_1.calls (w.heap.size + 1) t1 a0_3 a1 true _ (blk_drewN HM2.out _) B2.out).mono ?_);rintro e w4 ⟨rfl,⟨n2,rfl⟩⟩) | (go_at_call 87;(with_reducible refine (impl_flatOK_1.calls (w.heap.size + 1) t2 a0_4 a1 true _ (blk_drewN HM2.out _) B3.out).mono ?_);rintro e w5 ⟨rfl,⟨n3,rfl⟩⟩))
       go_ret
       exact ⟨rfl,by repeat (first | (with_reducible first | exact HB2.out | apply below_alloc | apply pw_below_drewN | apply below_drew1) | exact HB2.out)⟩

-- NOT PRINTED: function 68 (impl_codeOK_1)

/-! ### impl_codeOK: function 42 (by hand: a literal that captures how many names there are) -/
/-- The literal: whether a step is not right. -/
def impl_codeOK_1.f (k : Nat) (many : Int) (x : S79) : Option Bool:=(impl_flatOK.f k x.f0 x.f1 x.f2 x.f3 x.f4 x.f5 many).bind fun t => some (!t)
theorem impl_codeOK_1.mono : ∀ a0 a1 k,LeO (impl_codeOK_1.f k a0 a1) (impl_codeOK_1.f (k + 1) a0 a1):=fun _ _ _ => LeO.bind (impl_flatOK.mono _ _ _ _ _ _ _ _) (fun _ => LeO.refl _)
set_option maxHeartbeats 8000000 in
set_option maxRecDepth 100000 in
theorem impl_codeOK_1.calls (k : Nat) (b : Nat) (many : Int) (x : S79) (r : Bool) (w : World) (hbox : w.heap[b]? = some (.cells #[.int .i64 many] 3 (0,0))) (h : impl_codeOK_1.f k many x = some r) :
  Calls Try.prog 68 #[.agg #[.int .i64 x.f0,.int .i64 x.f1,.int .i64 x.f2,.int .i64 x.f3,.int .i64 x.f4,.int .i64 x.f5],.pointer (some ⟨b,0,none⟩)] w fun e w' => e = .returned (.bool r) ∧ Below w.heap.size w w':=by
 have hu79:=Try.underlying79
 obtain ⟨t,A1_,H⟩:=Option.bind_eq_some_iff.mp h
 obtain rfl:=Option.some.inj H
 have A:=Aside0.mk A1_
 clear h H A1_
 have hcz : (w.alloc (.cells #[.int .i64 x.f0,.int .i64 x.f1,.int .i64 x.f2,.int .i64 x.f3,.int .i64 x.f4,.int .i64 x.f5] 79)).cell? ⟨b,0,none⟩ = some (.int .i64 many):=(blk_cell (blk_alloc hbox (.cells #[.int .i64 x.f0,.int .i64 x.f1,.int .i64 x.f2,.int .i64 x.f3,.int .i64 x.f4,.int .i64 x.f5] 79)) 0).trans rfl
 have HB:=Aside0.mk (below_alloc (Below.refl w.heap.size w) (.cells #[.int .i64 x.f0,.int .i64 x.f1,.int .i64 x.f2,.int .i64 x.f3,.int .i64 x.f4,.int .i64 x.f5] 79))
 clear hbox
 go_enter Try.func68,Try.ntmps68
 go_wp2_with (first | (go_at_call 69;(refine (impl_flatOK.calls k x.f0 x.f1 x.f2 x.f3 x.f4 x.f5 many t _ A.out).mono ?_);rintro e w6 ⟨rfl,hb⟩;have HB6:=Aside0.mk (below_step HB.out hb);clear hb))
 go_ret
 exact ⟨rfl,HB6.out⟩
/-- slices.IndexFunc with that literal. -/
def impl_codeOK_1_ix.l0 : Nat → Int → List S79 → Int → Option Int
 | 0,_,_,_ => none
 | k + 1,n,xs,i => if i < (xs.length : Int) then (if 0 ≤ i then ((impl_codeOK_1.f k n (rd_T79 xs i)).bind fun t => (if t = true then (some i) else (impl_codeOK_1_ix.l0 k n xs (wrap64 (i + 1))))) else none) else some (-1)
theorem impl_codeOK_1_ix.mono_l : ∀ k,∀ y0 y1 y2,LeO (impl_codeOK_1_ix.l0 k y0 y1 y2) (impl_codeOK_1_ix.l0 (k + 1) y0 y1 y2)
 | 0 => fun _ _ _ r h => by simp [impl_codeOK_1_ix.l0] at h
 | k + 1 => by
  have ih0:=impl_codeOK_1_ix.mono_l k
  intro y0 y1 y2
  unfold impl_codeOK_1_ix.l0
  repeat' first
   | (with_reducible exact ih0 _ _ _)
   | (with_reducible exact impl_codeOK_1.mono _ _ _)
   | (with_reducible exact LeO.refl _)
   | (with_reducible exact LeO.none _)
   | (with_reducible refine LeO.ite ?_ ?_)
   | (with_reducible refine LeO.bind ?_ (fun _ => ?_))
theorem impl_codeOK_1_ix.mono : ∀ y0 y1 y2 k,LeO (impl_codeOK_1_ix.l0 k y0 y1 y2) (impl_codeOK_1_ix.l0 (k + 1) y0 y1 y2):=fun y0 y1 y2 k => impl_codeOK_1_ix.mono_l k y0 y1 y2
set_option maxHeartbeats 8000000 in
set_option maxRecDepth 100000 in
theorem impl_codeOK_1_ix.calls (k : Nat) (b : Nat) (many : Int) (A1 : Option Addr) (c1 : Nat) (xs : List S79) (r : Int) (w : World) (hbox : w.heap[b]? = some (.cells #[.int .i64 many] 3 (0,0))) (hr1 : Kd.C k79 w A1 xs.length xs) (h : impl_codeOK_1_ix.l0 k many xs 0 = some r) :
  Calls Try.prog 85 #[.slice A1 xs.length c1,.func (.func 68) #[] #[.pointer (some ⟨b,0,none⟩)]] w fun e w' => e = .returned (.int .i64 r) ∧ Below w.heap.size w w':=by
 have huT:=Try.underlying79
 have HR0:=Aside0.mk hr1
 have HB0:=Aside0.mk hbox
 have H':=Aside0.mk h
 clear hr1 hbox h
 go_enter Try.func85,Try.ntmps85
 go_wp2
 go_loopg [8] k (fun kq v8 w' => ∃ (x8_1 : Int),v8 = .int .i64 x8_1 ∧ Aside0 (impl_codeOK_1_ix.l0 kq many xs x8_1 = some r) ∧ Aside0 (kq ≤ k) ∧ Aside0 (Below w.heap.size w w'))
 case atStart => exact ⟨0,rfl,H',⟨Nat.le_refl _⟩,⟨Below.refl _ _⟩⟩
 case round =>
  clear H'
  obtain ⟨x8_1,rfl,HA,HK1,HB⟩:=hrel
  cases gk with
  | zero => exact absurd HA.out (by simp [impl_codeOK_1_ix.l0])
  | succ k1 =>
   have H:=HA.out
   clear HA
   simp only [impl_codeOK_1_ix.l0] at H
   by_cases c3 : x8_1 < (xs.length : Int)
   ·rw [if_pos c3] at H
    have c3b0 : decide (x8_1 < (xs.length : Int)) = true:=decide_eq_true c3
    by_cases c4 : 0 ≤ x8_1
    ·rw [if_pos c4] at H
     have c4b0 : decide (0 ≤ x8_1) = true:=decide_eq_true c4
     obtain ⟨t,A60,H⟩:=Option.bind_eq_some_iff.mp H
     obtain ⟨ad,eA,hx0,hx1,hx2,hx3,hx4,hx5⟩:=at_T79 (Kd.C_below HR0.out HB.out) x8_1 c4 c3
     cases eA
     obtain ⟨y,hy⟩ : ∃ y,y = rd_T79 xs x8_1:=⟨_,rfl⟩
     rw [← hy] at hx0 hx1 hx2 hx3 hx4 hx5 A60
     have A6:=Aside0.mk A60
     skip
     clear A60 hy
     have p3:=eq_true c3
     have p4:=eq_true c4
     clear c3 c4
     cases t with
     | true =>
      rw [if_pos rfl] at H
      obtain rfl:=Option.some.inj H
      go_wp2_with (first | (go_at_call 68;(refine (impl_codeOK_1.calls k1 b many y true _ (blk_below HB0.out HB.out)  A6.out).mono ?_);rintro e w6 ⟨rfl,hb⟩;have HB6:=Aside0.mk (below_step HB.out hb);clear hb))
      go_ret
      exact ⟨rfl,HB6.out⟩
     | false =>
      rw [if_neg (by decide)] at H
      have H':=Aside0.mk H
      clear H
      go_wp2_with (first | (go_at_call 68;(refine (impl_codeOK_1.calls k1 b many y false _ (blk_below HB0.out HB.out)  A6.out).mono ?_);rintro e w6 ⟨rfl,hb⟩;have HB6:=Aside0.mk (below_step HB.out hb);clear hb))
      go_roundg k1
      case measure => have:=HK1.out;omega
      case rel => exact ⟨(wrap64 (x8_1 + 1)),rfl,H',⟨by have:=HK1.out;omega⟩,HB6⟩
    ·rw [if_neg c4] at H
     exact absurd H (by simp)
   ·rw [if_neg c3] at H
    have c3b0 : decide (x8_1 < (xs.length : Int)) = false:=decide_eq_false c3
    clear c3
    obtain rfl:=Option.some.inj H
    go_wp2
    go_ret
    exact ⟨rfl,HB.out⟩
set_option maxHeartbeats 8000000 in
set_option maxRecDepth 100000 in
theorem impl_codeOK_1_cf.calls (k : Nat) (b : Nat) (many : Int) (A1 : Option Addr) (c1 : Nat) (xs : List S79) (r : Int) (w : World) (hbox : w.heap[b]? = some (.cells #[.int .i64 many] 3 (0,0))) (hr1 : Kd.C k79 w A1 xs.length xs) (h : impl_codeOK_1_ix.l0 k many xs 0 = some r) :
  Calls Try.prog 67 #[.slice A1 xs.length c1,.func (.func 68) #[] #[.pointer (some ⟨b,0,none⟩)]] w fun e w' => e = .returned (.bool (decide (r ≥ 0))) ∧ Below w.heap.size w w':=by
 have HR0:=Aside0.mk hr1
 have HB0:=Aside0.mk hbox
 have H':=Aside0.mk h
 clear hr1 hbox h
 go_enter Try.func67,Try.ntmps67
 go_wp2_with (first | (go_at_call 85;(refine (impl_codeOK_1_ix.calls k b many A1 c1 xs r _ HB0.out HR0.out H'.out).mono ?_);rintro e w6 ⟨rfl,hb⟩;have HB6:=Aside0.mk hb;clear hb))
 go_ret
 exact ⟨rfl,HB6.out⟩
def impl_codeOK.f (k : Nat) (l : List S79) (many : Int) : Option Bool:=if (l.length : Int) ≤ 60 then ((impl_codeOK_1_ix.l0 k many l 0).bind fun i => (some (!decide (i ≥ 0)))) else some false
theorem impl_codeOK.mono : ∀ a0 a1 k,LeO (impl_codeOK.f k a0 a1) (impl_codeOK.f (k + 1) a0 a1):=by
 intro a0 a1 k
 unfold impl_codeOK.f
 repeat' first
   | (with_reducible exact impl_codeOK_1_ix.mono _ _ _ _)
   | (with_reducible exact LeO.refl _)
   | (with_reducible exact LeO.none _)
   | (with_reducible refine LeO.ite ?_ ?_)
   | (with_reducible refine LeO.bind ?_ (fun _ => ?_))
set_option maxHeartbeats 8000000 in
set_option maxRecDepth 100000 in
theorem impl_codeOK.calls (k : Nat) (A0 : Option Addr) (c0 : Nat) (l0 : List S79) (a1 : Int) (r : Bool) (w : World) (hr0 : Kd.C k79 w A0 l0.length l0) (hc0 : l0.length ≤ c0) (h : impl_codeOK.f k l0 a1 = some r) :
  Calls Try.prog 42 #[.slice A0 l0.length c0,.int .i64 a1] w fun e w' => e = .returned (.bool r) ∧ Below w.heap.size w w':=by
 have HR0:=Aside0.mk hr0
 have HBX:=Aside0.mk (heap_alloc_new w (.cells #[.int .i64 a1] 3))
 have HB:=Aside0.mk (below_alloc (Below.refl w.heap.size w) (.cells #[.int .i64 a1] 3))
 clear hr0 hc0
 unfold impl_codeOK.f at h
 by_cases c : (l0.length : Int) ≤ 60
 ·rw [if_pos c] at h
  obtain ⟨i,B1,H⟩:=Option.bind_eq_some_iff.mp h
  obtain rfl:=Option.some.inj H
  have B:=Aside0.mk B1
  have cb : decide ((l0.length : Int) ≤ 60) = true:=decide_eq_true c
  have p3:=eq_true c
  clear B1 H h c
  go_enter Try.func42,Try.ntmps42
  go_wp2_with (first | (go_at_call 67;(refine (impl_codeOK_1_cf.calls k w.heap.size a1 A0 c0 l0 i _ HBX.out (Kd.C_below HR0.out HB.out) B.out).mono ?_);rintro e w6 ⟨rfl,hb⟩;have HB6:=Aside0.mk (below_step HB.out hb);clear hb))
  go_ret
  exact ⟨rfl,HB6.out⟩
 ·rw [if_neg c] at h
  obtain rfl:=Option.some.inj h
  have cb : decide ((l0.length : Int) ≤ 60) = false:=decide_eq_false c
  clear h c
  go_enter Try.func42,Try.ntmps42
  go_wp2
  go_ret
  exact ⟨rfl,HB.out⟩


/-! ### impl_tests: function 70 -/
def impl_tests.f (a0 : Int) : Option (Bool):=if a0 = 2 then (some true) else (some (a0 == 5))
set_option maxHeartbeats 8000000 in
set_option maxRecDepth 100000 in
theorem impl_tests.calls (a0 : Int) (r : Bool) (w : World) (h : impl_tests.f a0 = some r) :
  Calls Try.prog 70 #[.int .i64 a0] w fun e w' => e = .returned (.bool r) ∧ Drawn0 w w':=by
 have H : (if a0 = 2 then (some true) else (some (a0 == 5))) = some r:=h
 clear h
 by_cases c2 : a0 = 2
 ·rw [if_pos c2] at H
  have c2b0 : (a0 == 2) = true:=beq_iff_eq.mpr c2
  have c2b1 : (a0 != 2) = false:=bne_eq_false_iff_eq.mpr c2
  clear c2
  obtain rfl:=Option.some.inj H
  go_enter Try.func70,Try.ntmps70
  go_wp2
  go_ret
  exact ⟨by first | rfl | (simp;done) | (simp [*];done),by repeat (first | exact Drawn0.refl _ | apply Drawn0.step)⟩
 ·rw [if_neg c2] at H
  have c2b0 : (a0 == 2) = false:=beq_eq_false_iff_ne.mpr c2
  have c2b1 : (a0 != 2) = true:=bne_iff_ne.mpr c2
  obtain rfl:=Option.some.inj H
  go_enter Try.func70,Try.ntmps70
  go_wp2
  go_ret
  exact ⟨by first | rfl | (simp;done) | (simp [*];done),by repeat (first | exact Drawn0.refl _ | apply Drawn0.step)⟩

-- NOT PRINTED: function 90 (slices_IndexFunc_int_int)

-- NOT PRINTED: function 71 (slices_ContainsFunc_int_int)

-- NOT PRINTED: function 72 (impl_goOK_1)

/-! ### impl_goOK: function 43 (by hand: a literal that captures how many blocks there are) -/
/-- The literal: whether a number is none of a block. -/
def impl_goOK_1.f (k : Nat) (n : Int) (x : Int) : Option Bool:=(impl_within.f x 0 (wrap64 (n - 1))).bind fun t => some (!t)
theorem impl_goOK_1.mono : ∀ a0 a1 k,LeO (impl_goOK_1.f k a0 a1) (impl_goOK_1.f (k + 1) a0 a1):=fun _ _ _ => LeO.refl _
set_option maxHeartbeats 8000000 in
set_option maxRecDepth 100000 in
theorem impl_goOK_1.calls (k : Nat) (b : Nat) (n : Int) (x : Int) (r : Bool) (w : World) (hbox : w.heap[b]? = some (.cells #[.int .i64 n] 3 (0,0))) (h : impl_goOK_1.f k n x = some r) :
  Calls Try.prog 72 #[.int .i64 x,.pointer (some ⟨b,0,none⟩)] w fun e w' => e = .returned (.bool r) ∧ Drawn0 w w':=by
 obtain ⟨t,A1_,H⟩:=Option.bind_eq_some_iff.mp h
 obtain rfl:=Option.some.inj H
 have A:=Aside0.mk A1_
 clear h H A1_
 have hcz : w.cell? ⟨b,0,none⟩ = some (.int .i64 n):=(blk_cell hbox 0).trans rfl
 have hfz:=blk_frozen hbox 0
 clear hbox
 go_enter Try.func72,Try.ntmps72
 go_wp2_with (first | (go_at_call 39;(with_reducible refine (impl_within.calls x 0 (wrap64 (n - 1)) t w A.out).mono ?_);rintro e w' ⟨rfl,⟨nd,rfl⟩⟩))
 go_ret
 exact ⟨rfl,⟨nd,rfl⟩⟩
/-- slices.IndexFunc with that literal. -/
def impl_goOK_1_ix.l0 : Nat → Int → List Int → Int → Option Int
 | 0,_,__,_ => none
 | k + 1,n,xs,i => if i < (xs.length : Int) then (if 0 ≤ i then ((impl_goOK_1.f k n  (rd xs i)).bind fun t => (if t = true then (some i) else (impl_goOK_1_ix.l0 k n xs (wrap64 (i + 1))))) else none) else some (-1)
theorem impl_goOK_1_ix.mono_l : ∀ k,∀ y0 y1 y2,LeO (impl_goOK_1_ix.l0 k y0 y1 y2) (impl_goOK_1_ix.l0 (k + 1) y0 y1 y2)
 | 0 => fun _ _ _ r h => by simp [impl_goOK_1_ix.l0] at h
 | k + 1 => by
  have ih0:=impl_goOK_1_ix.mono_l k
  intro y0 y1 y2
  unfold impl_goOK_1_ix.l0
  repeat' first
   | (with_reducible exact ih0 _ _ _)
   | (with_reducible exact impl_goOK_1.mono _ _ _)
   | (with_reducible exact LeO.refl _)
   | (with_reducible exact LeO.none _)
   | (with_reducible refine LeO.ite ?_ ?_)
   | (with_reducible refine LeO.bind ?_ (fun _ => ?_))
theorem impl_goOK_1_ix.mono : ∀ y0 y1 y2 k,LeO (impl_goOK_1_ix.l0 k y0 y1 y2) (impl_goOK_1_ix.l0 (k + 1) y0 y1 y2):=fun y0 y1 y2 k => impl_goOK_1_ix.mono_l k y0 y1 y2
set_option maxHeartbeats 8000000 in
set_option maxRecDepth 100000 in
theorem impl_goOK_1_ix.calls (k : Nat) (b : Nat) (n : Int) (A1 : Option Addr) (c1 : Nat) (xs : List Int) (r : Int) (w : World) (hbox : w.heap[b]? = some (.cells #[.int .i64 n] 3 (0,0))) (hr1 : Kd.C (Kd.int .i64) w A1 xs.length xs) (h : impl_goOK_1_ix.l0 k n xs 0 = some r) :
  Calls Try.prog 90 #[.slice A1 xs.length c1,.func (.func 72) #[] #[.pointer (some ⟨b,0,none⟩)]] w fun e w' => e = .returned (.int .i64 r) ∧ Drawn0 w w':=by
 have HR0:=Aside0.mk hr1
 have HBX:=Aside0.mk hbox
 have H':=Aside0.mk h
 clear hr1 hbox h
 go_enter Try.func90,Try.ntmps90
 go_wp2
 go_loopg [8] k (fun kq v8 w' => ∃ (x8_1 : Int),v8 = .int .i64 x8_1 ∧ Aside0 (impl_goOK_1_ix.l0 kq n  xs x8_1 = some r) ∧ Aside0 (kq ≤ k) ∧ Drawn0 w w')
 case atStart => exact ⟨0,rfl,H',⟨Nat.le_refl _⟩,Drawn0.refl _⟩
 case round =>
  clear H'
  obtain ⟨x8_1,rfl,HA,HK1,⟨m1,rfl⟩⟩:=hrel
  cases gk with
  | zero => exact absurd HA.out (by simp [impl_goOK_1_ix.l0])
  | succ k1 =>
   have H:=HA.out
   clear HA
   simp only [impl_goOK_1_ix.l0] at H
   by_cases c3 : x8_1 < (xs.length : Int)
   ·rw [if_pos c3] at H
    have c3b0 : decide (x8_1 < (xs.length : Int)) = true:=decide_eq_true c3
    by_cases c4 : 0 ≤ x8_1
    ·rw [if_pos c4] at H
     have c4b0 : decide (0 ≤ x8_1) = true:=decide_eq_true c4
     obtain ⟨t,A60,H⟩:=Option.bind_eq_some_iff.mp H
     obtain ⟨ad,eA,hx0⟩:=Kd.at_int HR0.out x8_1 c4 c3
     obtain ⟨y,hy⟩ : ∃ y,y = rd xs x8_1:=⟨_,rfl⟩
     rw [← hy] at hx0 A60
     cases eA
     have A6:=Aside0.mk A60
     clear A60 hy
     have p3:=eq_true c3
     have p4:=eq_true c4
     clear c3 c4
     cases t with
     | true =>
      rw [if_pos rfl] at H
      obtain rfl:=Option.some.inj H
      go_wp2_with (first | (go_at_call 72;(with_reducible refine (impl_goOK_1.calls k1 b n y true _ (blk_drewN HBX.out _) A6.out).mono ?_);rintro e w' ⟨rfl,⟨nd,rfl⟩⟩))
      go_ret
      exact ⟨rfl,by repeat (first | exact Drawn0.refl _ | apply Drawn0.step)⟩
     | false =>
      rw [if_neg (by decide)] at H
      have H':=Aside0.mk H
      clear H
      go_wp2_with (first | (go_at_call 72;(with_reducible refine (impl_goOK_1.calls k1 b n y false _ (blk_drewN HBX.out _) A6.out).mono ?_);rintro e w' ⟨rfl,⟨nd,rfl⟩⟩))
      go_roundg k1
      case measure => have:=HK1.out;omega
      case rel => exact ⟨(wrap64 (x8_1 + 1)),rfl,H',⟨by have:=HK1.out;omega⟩,by repeat (first | exact Drawn0.refl _ | apply Drawn0.step)⟩
    ·rw [if_neg c4] at H
     exact absurd H (by simp)
   ·rw [if_neg c3] at H
    have c3b0 : decide (x8_1 < (xs.length : Int)) = false:=decide_eq_false c3
    clear c3
    obtain rfl:=Option.some.inj H
    go_wp2
    go_ret
    exact ⟨rfl,by repeat (first | exact Drawn0.refl _ | apply Drawn0.step)⟩
set_option maxHeartbeats 8000000 in
set_option maxRecDepth 100000 in
theorem impl_goOK_1_cf.calls (k : Nat) (b : Nat) (n : Int) (A1 : Option Addr) (c1 : Nat) (xs : List Int) (r : Int) (w : World) (hbox : w.heap[b]? = some (.cells #[.int .i64 n] 3 (0,0))) (hr1 : Kd.C (Kd.int .i64) w A1 xs.length xs) (h : impl_goOK_1_ix.l0 k n xs 0 = some r) :
  Calls Try.prog 71 #[.slice A1 xs.length c1,.func (.func 72) #[] #[.pointer (some ⟨b,0,none⟩)]] w fun e w' => e = .returned (.bool (decide (r ≥ 0))) ∧ Drawn0 w w':=by
 have HR0:=Aside0.mk hr1
 have HBX:=Aside0.mk hbox
 have H':=Aside0.mk h
 clear hr1 hbox h
 go_enter Try.func71,Try.ntmps71
 go_wp2_with (first | (go_at_call 90;(with_reducible refine (impl_goOK_1_ix.calls k b n A1 c1 xs r w HBX.out HR0.out H'.out).mono ?_);rintro e w' ⟨rfl,⟨nd,rfl⟩⟩))
 go_ret
 exact ⟨rfl,by repeat (first | exact Drawn0.refl _ | apply Drawn0.step)⟩
def impl_goOK.r (a0 n : Int) : Option Bool:=if a0 = 1 then some (n == 1) else (if a0 = 2 then some (n == 2) else (if a0 = 5 then impl_within.f n 2 6 else (if a0 = 3 then some (n == 0) else (if a0 = 4 then some (n == 0) else some false))))
def impl_goOK.f (k : Nat) (a0 a1 : Int) (l2 : List Int) (a3 a4 : Int) : Option Bool:=(impl_tests.f a0).bind fun t => (if t = true then ((impl_within.f a1 0 (wrap64 (a3 - 1))).bind fun u => (if u = true then ((impl_goOK_1_ix.l0 k a4 l2 0).bind fun i => (if i ≥ 0 then some false else impl_goOK.r a0 (l2.length : Int))) else some false)) else (if a1 = 0 then ((impl_goOK_1_ix.l0 k a4 l2 0).bind fun i => (if i ≥ 0 then some false else impl_goOK.r a0 (l2.length : Int))) else some false))
theorem impl_goOK.mono : ∀ a0 a1 a2 a3 a4 k,LeO (impl_goOK.f k a0 a1 a2 a3 a4) (impl_goOK.f (k + 1) a0 a1 a2 a3 a4):=by
 intro a0 a1 a2 a3 a4 k
 unfold impl_goOK.f
 repeat' first
   | (with_reducible exact impl_goOK_1_ix.mono _ _ _ _)
   | (with_reducible exact LeO.refl _)
   | (with_reducible exact LeO.none _)
   | (with_reducible refine LeO.ite ?_ ?_)
   | (with_reducible refine LeO.bind ?_ (fun _ => ?_))
set_option maxHeartbeats 8000000 in
set_option maxRecDepth 100000 in
theorem impl_goOK.calls (k : Nat) (a0 a1 : Int) (A2 : Option Addr) (c2 : Nat) (l2 : List Int) (a3 a4 : Int) (r : Bool) (w : World) (hr2 : Kd.C (Kd.int .i64) w A2 l2.length l2) (hc2 : l2.length ≤ c2) (h : impl_goOK.f k a0 a1 l2 a3 a4 = some r) :
  Calls Try.prog 43 #[.int .i64 a0,.int .i64 a1,.slice A2 l2.length c2,.int .i64 a3,.int .i64 a4] w fun e w' => e = .returned (.bool r) ∧ Below w.heap.size w w':=by
 have HR2:=Aside0.mk hr2
 have HBX:=Aside0.mk (heap_alloc_new w (.cells #[.int .i64 a4] 3))
 have HB:=Aside0.mk (below_alloc (Below.refl w.heap.size w) (.cells #[.int .i64 a4] 3))
 clear hr2 hc2
 unfold impl_goOK.f at h
 obtain ⟨t,A1,H⟩:=Option.bind_eq_some_iff.mp h
 have A:=Aside0.mk A1
 clear h A1
 cases t with
 | true =>
  rw [if_pos rfl] at H
  obtain ⟨u,U1,H⟩:=Option.bind_eq_some_iff.mp H
  have U:=Aside0.mk U1
  clear U1
  cases u with
  | false =>
   rw [if_neg (by decide)] at H
   obtain rfl:=Option.some.inj H
   clear H
   go_enter Try.func43,Try.ntmps43
   go_wp2_with (first | (go_at_call 70;(with_reducible refine (impl_tests.calls a0 true _ A.out).mono ?_);rintro e w2 ⟨rfl,⟨n2,rfl⟩⟩) | (go_at_call 39;(with_reducible refine (impl_within.calls a1 0 (wrap64 (a3 - 1)) false _ U.out).mono ?_);rintro e w3 ⟨rfl,⟨n3,rfl⟩⟩))
   go_ret
   exact ⟨rfl,by repeat (first | (with_reducible first | exact HB.out | apply below_alloc | apply pw_below_drewN | apply below_drew1) | exact HB.out)⟩
  | true =>
   rw [if_pos rfl] at H
   obtain ⟨i,B1,H⟩:=Option.bind_eq_some_iff.mp H
   have B:=Aside0.mk B1
   clear B1
   by_cases ci : i ≥ 0
   ·rw [if_pos ci] at H
    obtain rfl:=Option.some.inj H
    have ci1 : decide (i ≥ 0) = true:=decide_eq_true ci
    have ci2 : decide (0 ≤ i) = true:=decide_eq_true ci
    have ci3:=eq_true ci
    clear ci H
    go_enter Try.func43,Try.ntmps43
    go_wp2_with (first | (go_at_call 70;(with_reducible refine (impl_tests.calls a0 true _ A.out).mono ?_);rintro e w2 ⟨rfl,⟨n2,rfl⟩⟩) | (go_at_call 39;(with_reducible refine (impl_within.calls a1 0 (wrap64 (a3 - 1)) true _ U.out).mono ?_);rintro e w3 ⟨rfl,⟨n3,rfl⟩⟩) | (go_at_call 71;(with_reducible refine (impl_goOK_1_cf.calls k w.heap.size a4 A2 c2 l2 i _ (blk_drewN HBX.out _) (Kd.C_drewN (Kd.C_alloc HR2.out _) _) B.out).mono ?_);rintro e w4 ⟨rfl,⟨n4,rfl⟩⟩))
    go_ret
    exact ⟨rfl,by repeat (first | (with_reducible first | exact HB.out | apply below_alloc | apply pw_below_drewN | apply below_drew1) | exact HB.out)⟩
   rw [if_neg ci] at H
   have ci1 : decide (i ≥ 0) = false:=decide_eq_false ci
   have ci2 : decide (0 ≤ i) = false:=decide_eq_false ci
   have ci3:=eq_false ci
   clear ci
   unfold impl_goOK.r at H
   by_cases d1 : a0 = 1
   ·rw [if_pos d1] at H
    obtain rfl:=Option.some.inj H
    clear H
    have D1 : (a0 == 1) = true:=beq_iff_eq.mpr d1
    clear d1
    go_enter Try.func43,Try.ntmps43
    go_wp2_with (first | (go_at_call 70;(with_reducible refine (impl_tests.calls a0 true _ A.out).mono ?_);rintro e w2 ⟨rfl,⟨n2,rfl⟩⟩) | (go_at_call 39;(with_reducible refine (impl_within.calls a1 0 (wrap64 (a3 - 1)) true _ U.out).mono ?_);rintro e w3 ⟨rfl,⟨n3,rfl⟩⟩) | (go_at_call 71;(with_reducible refine (impl_goOK_1_cf.calls k w.heap.size a4 A2 c2 l2 i _ (blk_drewN HBX.out _) (Kd.C_drewN (Kd.C_alloc HR2.out _) _) B.out).mono ?_);rintro e w4 ⟨rfl,⟨n4,rfl⟩⟩))
    go_ret
    exact ⟨rfl,by repeat (first | (with_reducible first | exact HB.out | apply below_alloc | apply pw_below_drewN | apply below_drew1) | exact HB.out)⟩
   rw [if_neg d1] at H
   have D1 : (a0 == 1) = false:=beq_eq_false_iff_ne.mpr d1
   clear d1
   by_cases d2 : a0 = 2
   ·rw [if_pos d2] at H
    obtain rfl:=Option.some.inj H
    clear H
    have D2 : (a0 == 2) = true:=beq_iff_eq.mpr d2
    clear d2
    go_enter Try.func43,Try.ntmps43
    go_wp2_with (first | (go_at_call 70;(with_reducible refine (impl_tests.calls a0 true _ A.out).mono ?_);rintro e w2 ⟨rfl,⟨n2,rfl⟩⟩) | (go_at_call 39;(with_reducible refine (impl_within.calls a1 0 (wrap64 (a3 - 1)) true _ U.out).mono ?_);rintro e w3 ⟨rfl,⟨n3,rfl⟩⟩) | (go_at_call 71;(with_reducible refine (impl_goOK_1_cf.calls k w.heap.size a4 A2 c2 l2 i _ (blk_drewN HBX.out _) (Kd.C_drewN (Kd.C_alloc HR2.out _) _) B.out).mono ?_);rintro e w4 ⟨rfl,⟨n4,rfl⟩⟩))
    go_ret
    exact ⟨rfl,by repeat (first | (with_reducible first | exact HB.out | apply below_alloc | apply pw_below_drewN | apply below_drew1) | exact HB.out)⟩
   rw [if_neg d2] at H
   have D2 : (a0 == 2) = false:=beq_eq_false_iff_ne.mpr d2
   clear d2
   by_cases d5 : a0 = 5
   ·rw [if_pos d5] at H
    have W5:=Aside0.mk H
    clear H
    have D5 : (a0 == 5) = true:=beq_iff_eq.mpr d5
    clear d5
    go_enter Try.func43,Try.ntmps43
    go_wp2_with (first | (go_at_call 70;(with_reducible refine (impl_tests.calls a0 true _ A.out).mono ?_);rintro e w2 ⟨rfl,⟨n2,rfl⟩⟩) | (go_at_call 39;(with_reducible refine (impl_within.calls a1 0 (wrap64 (a3 - 1)) true _ U.out).mono ?_);rintro e w3 ⟨rfl,⟨n3,rfl⟩⟩) | (go_at_call 71;(with_reducible refine (impl_goOK_1_cf.calls k w.heap.size a4 A2 c2 l2 i _ (blk_drewN HBX.out _) (Kd.C_drewN (Kd.C_alloc HR2.out _) _) B.out).mono ?_);rintro e w4 ⟨rfl,⟨n4,rfl⟩⟩) | (go_at_call 39;(with_reducible refine (impl_within.calls (l2.length : Int) 2 6 r _ W5.out).mono ?_);rintro e w5 ⟨rfl,⟨n5,rfl⟩⟩))
    go_ret
    exact ⟨rfl,by repeat (first | (with_reducible first | exact HB.out | apply below_alloc | apply pw_below_drewN | apply below_drew1) | exact HB.out)⟩
   rw [if_neg d5] at H
   have D5 : (a0 == 5) = false:=beq_eq_false_iff_ne.mpr d5
   clear d5
   by_cases d3 : a0 = 3
   ·rw [if_pos d3] at H
    obtain rfl:=Option.some.inj H
    clear H
    have D3 : (a0 == 3) = true:=beq_iff_eq.mpr d3
    clear d3
    go_enter Try.func43,Try.ntmps43
    go_wp2_with (first | (go_at_call 70;(with_reducible refine (impl_tests.calls a0 true _ A.out).mono ?_);rintro e w2 ⟨rfl,⟨n2,rfl⟩⟩) | (go_at_call 39;(with_reducible refine (impl_within.calls a1 0 (wrap64 (a3 - 1)) true _ U.out).mono ?_);rintro e w3 ⟨rfl,⟨n3,rfl⟩⟩) | (go_at_call 71;(with_reducible refine (impl_goOK_1_cf.calls k w.heap.size a4 A2 c2 l2 i _ (blk_drewN HBX.out _) (Kd.C_drewN (Kd.C_alloc HR2.out _) _) B.out).mono ?_);rintro e w4 ⟨rfl,⟨n4,rfl⟩⟩))
    go_ret
    exact ⟨rfl,by repeat (first | (with_reducible first | exact HB.out | apply below_alloc | apply pw_below_drewN | apply below_drew1) | exact HB.out)⟩
   rw [if_neg d3] at H
   have D3 : (a0 == 3) = false:=beq_eq_false_iff_ne.mpr d3
   clear d3
   by_cases d4 : a0 = 4
   ·rw [if_pos d4] at H
    obtain rfl:=Option.some.inj H
    clear H
    have D4 : (a0 == 4) = true:=beq_iff_eq.mpr d4
    clear d4
    go_enter Try.func43,Try.ntmps43
    go_wp2_with (first | (go_at_call 70;(with_reducible refine (impl_tests.calls a0 true _ A.out).mono ?_);rintro e w2 ⟨rfl,⟨n2,rfl⟩⟩) | (go_at_call 39;(with_reducible refine (impl_within.calls a1 0 (wrap64 (a3 - 1)) true _ U.out).mono ?_);rintro e w3 ⟨rfl,⟨n3,rfl⟩⟩) | (go_at_call 71;(with_reducible refine (impl_goOK_1_cf.calls k w.heap.size a4 A2 c2 l2 i _ (blk_drewN HBX.out _) (Kd.C_drewN (Kd.C_alloc HR2.out _) _) B.out).mono ?_);rintro e w4 ⟨rfl,⟨n4,rfl⟩⟩))
    go_ret
    exact ⟨rfl,by repeat (first | (with_reducible first | exact HB.out | apply below_alloc | apply pw_below_drewN | apply below_drew1) | exact HB.out)⟩
   rw [if_neg d4] at H
   have D4 : (a0 == 4) = false:=beq_eq_false_iff_ne.mpr d4
   clear d4
   obtain rfl:=Option.some.inj H
   clear H
   go_enter Try.func43,Try.ntmps43
   go_wp2_with (first | (go_at_call 70;(with_reducible refine (impl_tests.calls a0 true _ A.out).mono ?_);rintro e w2 ⟨rfl,⟨n2,rfl⟩⟩) | (go_at_call 39;(with_reducible refine (impl_within.calls a1 0 (wrap64 (a3 - 1)) true _ U.out).mono ?_);rintro e w3 ⟨rfl,⟨n3,rfl⟩⟩) | (go_at_call 71;(with_reducible refine (impl_goOK_1_cf.calls k w.heap.size a4 A2 c2 l2 i _ (blk_drewN HBX.out _) (Kd.C_drewN (Kd.C_alloc HR2.out _) _) B.out).mono ?_);rintro e w4 ⟨rfl,⟨n4,rfl⟩⟩))
   go_ret
   exact ⟨rfl,by repeat (first | (with_reducible first | exact HB.out | apply below_alloc | apply pw_below_drewN | apply below_drew1) | exact HB.out)⟩
 | false =>
  rw [if_neg (by decide)] at H
  by_cases c0 : a1 = 0
  ·rw [if_pos c0] at H
   have e0 : (a1 != 0) = false:=bne_eq_false_iff_eq.mpr c0
   have e1 : (a1 == 0) = true:=beq_iff_eq.mpr c0
   clear c0
   obtain ⟨i,B1,H⟩:=Option.bind_eq_some_iff.mp H
   have B:=Aside0.mk B1
   clear B1
   by_cases ci : i ≥ 0
   ·rw [if_pos ci] at H
    obtain rfl:=Option.some.inj H
    have ci1 : decide (i ≥ 0) = true:=decide_eq_true ci
    have ci2 : decide (0 ≤ i) = true:=decide_eq_true ci
    have ci3:=eq_true ci
    clear ci H
    go_enter Try.func43,Try.ntmps43
    go_wp2_with (first | (go_at_call 70;(with_reducible refine (impl_tests.calls a0 false _ A.out).mono ?_);rintro e w2 ⟨rfl,⟨n2,rfl⟩⟩) | (go_at_call 71;(with_reducible refine (impl_goOK_1_cf.calls k w.heap.size a4 A2 c2 l2 i _ (blk_drewN HBX.out _) (Kd.C_drewN (Kd.C_alloc HR2.out _) _) B.out).mono ?_);rintro e w4 ⟨rfl,⟨n4,rfl⟩⟩))
    go_ret
    exact ⟨rfl,by repeat (first | (with_reducible first | exact HB.out | apply below_alloc | apply pw_below_drewN | apply below_drew1) | exact HB.out)⟩
   rw [if_neg ci] at H
   have ci1 : decide (i ≥ 0) = false:=decide_eq_false ci
   have ci2 : decide (0 ≤ i) = false:=decide_eq_false ci
   have ci3:=eq_false ci
   clear ci
   unfold impl_goOK.r at H
   by_cases d1 : a0 = 1
   ·rw [if_pos d1] at H
    obtain rfl:=Option.some.inj H
    clear H
    have D1 : (a0 == 1) = true:=beq_iff_eq.mpr d1
    clear d1
    go_enter Try.func43,Try.ntmps43
    go_wp2_with (first | (go_at_call 70;(with_reducible refine (impl_tests.calls a0 false _ A.out).mono ?_);rintro e w2 ⟨rfl,⟨n2,rfl⟩⟩) | (go_at_call 71;(with_reducible refine (impl_goOK_1_cf.calls k w.heap.size a4 A2 c2 l2 i _ (blk_drewN HBX.out _) (Kd.C_drewN (Kd.C_alloc HR2.out _) _) B.out).mono ?_);rintro e w4 ⟨rfl,⟨n4,rfl⟩⟩))
    go_ret
    exact ⟨rfl,by repeat (first | (with_reducible first | exact HB.out | apply below_alloc | apply pw_below_drewN | apply below_drew1) | exact HB.out)⟩
   rw [if_neg d1] at H
   have D1 : (a0 == 1) = false:=beq_eq_false_iff_ne.mpr d1
   clear d1
   by_cases d2 : a0 = 2
   ·rw [if_pos d2] at H
    obtain rfl:=Option.some.inj H
    clear H
    have D2 : (a0 == 2) = true:=beq_iff_eq.mpr d2
    clear d2
    go_enter Try.func43,Try.ntmps43
    go_wp2_with (first | (go_at_call 70;(with_reducible refine (impl_tests.calls a0 false _ A.out).mono ?_);rintro e w2 ⟨rfl,⟨n2,rfl⟩⟩) | (go_at_call 71;(with_reducible refine (impl_goOK_1_cf.calls k w.heap.size a4 A2 c2 l2 i _ (blk_drewN HBX.out _) (Kd.C_drewN (Kd.C_alloc HR2.out _) _) B.out).mono ?_);rintro e w4 ⟨rfl,⟨n4,rfl⟩⟩))
    go_ret
    exact ⟨rfl,by repeat (first | (with_reducible first | exact HB.out | apply below_alloc | apply pw_below_drewN | apply below_drew1) | exact HB.out)⟩
   rw [if_neg d2] at H
   have D2 : (a0 == 2) = false:=beq_eq_false_iff_ne.mpr d2
   clear d2
   by_cases d5 : a0 = 5
   ·rw [if_pos d5] at H
    have W5:=Aside0.mk H
    clear H
    have D5 : (a0 == 5) = true:=beq_iff_eq.mpr d5
    clear d5
    go_enter Try.func43,Try.ntmps43
    go_wp2_with (first | (go_at_call 70;(with_reducible refine (impl_tests.calls a0 false _ A.out).mono ?_);rintro e w2 ⟨rfl,⟨n2,rfl⟩⟩) | (go_at_call 71;(with_reducible refine (impl_goOK_1_cf.calls k w.heap.size a4 A2 c2 l2 i _ (blk_drewN HBX.out _) (Kd.C_drewN (Kd.C_alloc HR2.out _) _) B.out).mono ?_);rintro e w4 ⟨rfl,⟨n4,rfl⟩⟩) | (go_at_call 39;(with_reducible refine (impl_within.calls (l2.length : Int) 2 6 r _ W5.out).mono ?_);rintro e w5 ⟨rfl,⟨n5,rfl⟩⟩))
    go_ret
    exact ⟨rfl,by repeat (first | (with_reducible first | exact HB.out | apply below_alloc | apply pw_below_drewN | apply below_drew1) | exact HB.out)⟩
   rw [if_neg d5] at H
   have D5 : (a0 == 5) = false:=beq_eq_false_iff_ne.mpr d5
   clear d5
   by_cases d3 : a0 = 3
   ·rw [if_pos d3] at H
    obtain rfl:=Option.some.inj H
    clear H
    have D3 : (a0 == 3) = true:=beq_iff_eq.mpr d3
    clear d3
    go_enter Try.func43,Try.ntmps43
    go_wp2_with (first | (go_at_call 70;(with_reducible refine (impl_tests.calls a0 false _ A.out).mono ?_);rintro e w2 ⟨rfl,⟨n2,rfl⟩⟩) | (go_at_call 71;(with_reducible refine (impl_goOK_1_cf.calls k w.heap.size a4 A2 c2 l2 i _ (blk_drewN HBX.out _) (Kd.C_drewN (Kd.C_alloc HR2.out _) _) B.out).mono ?_);rintro e w4 ⟨rfl,⟨n4,rfl⟩⟩))
    go_ret
    exact ⟨rfl,by repeat (first | (with_reducible first | exact HB.out | apply below_alloc | apply pw_below_drewN | apply below_drew1) | exact HB.out)⟩
   rw [if_neg d3] at H
   have D3 : (a0 == 3) = false:=beq_eq_false_iff_ne.mpr d3
   clear d3
   by_cases d4 : a0 = 4
   ·rw [if_pos d4] at H
    obtain rfl:=Option.some.inj H
    clear H
    have D4 : (a0 == 4) = true:=beq_iff_eq.mpr d4
    clear d4
    go_enter Try.func43,Try.ntmps43
    go_wp2_with (first | (go_at_call 70;(with_reducible refine (impl_tests.calls a0 false _ A.out).mono ?_);rintro e w2 ⟨rfl,⟨n2,rfl⟩⟩) | (go_at_call 71;(with_reducible refine (impl_goOK_1_cf.calls k w.heap.size a4 A2 c2 l2 i _ (blk_drewN HBX.out _) (Kd.C_drewN (Kd.C_alloc HR2.out _) _) B.out).mono ?_);rintro e w4 ⟨rfl,⟨n4,rfl⟩⟩))
    go_ret
    exact ⟨rfl,by repeat (first | (with_reducible first | exact HB.out | apply below_alloc | apply pw_below_drewN | apply below_drew1) | exact HB.out)⟩
   rw [if_neg d4] at H
   have D4 : (a0 == 4) = false:=beq_eq_false_iff_ne.mpr d4
   clear d4
   obtain rfl:=Option.some.inj H
   clear H
   go_enter Try.func43,Try.ntmps43
   go_wp2_with (first | (go_at_call 70;(with_reducible refine (impl_tests.calls a0 false _ A.out).mono ?_);rintro e w2 ⟨rfl,⟨n2,rfl⟩⟩) | (go_at_call 71;(with_reducible refine (impl_goOK_1_cf.calls k w.heap.size a4 A2 c2 l2 i _ (blk_drewN HBX.out _) (Kd.C_drewN (Kd.C_alloc HR2.out _) _) B.out).mono ?_);rintro e w4 ⟨rfl,⟨n4,rfl⟩⟩))
   go_ret
   exact ⟨rfl,by repeat (first | (with_reducible first | exact HB.out | apply below_alloc | apply pw_below_drewN | apply below_drew1) | exact HB.out)⟩
  ·rw [if_neg c0] at H
   obtain rfl:=Option.some.inj H
   have e0 : (a1 != 0) = true:=bne_iff_ne.mpr c0
   have e1 : (a1 == 0) = false:=beq_eq_false_iff_ne.mpr c0
   clear c0 H
   go_enter Try.func43,Try.ntmps43
   go_wp2_with (first | (go_at_call 70;(with_reducible refine (impl_tests.calls a0 false _ A.out).mono ?_);rintro e w2 ⟨rfl,⟨n2,rfl⟩⟩))
   go_ret
   exact ⟨rfl,by repeat (first | (with_reducible first | exact HB.out | apply below_alloc | apply pw_below_drewN | apply below_drew1) | exact HB.out)⟩

-- NOT PRINTED: function 41 (impl_GoodFlow_1)

end Go.Proofs.Ythgkhfhfahifmaa.Q
