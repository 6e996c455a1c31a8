-- WRITTEN BY A PROGRAM OF THIS SESSION
import Derived.Test.YthgkhfhfahifmaaWMi3
import Derived.Test.YthgkhfhfahifmaaQ0
import Derived.Test.YthgkhfhfahifmaaQ60
namespace Go.Proofs.Ythgkhfhfahifmaa.Q
open Go.RowKit Go.Proofs.YthgkhfhfahifmaaW.PrintWords Go.Proofs.YthgkhfhfahifmaaW.PrintLast Go.Proofs.YthgkhfhfahifmaaW.PrintMore
attribute [local go_sem] max2_int min2_int max_two min_two max_three min_three max_four min_four   -- for this text's walks alone
set_option linter.unusedVariables false
set_option linter.unusedSimpArgs false

/-! ### laws_markFlatS: function 48 -/
def laws_markFlatS.l0 : Nat → List (S79) → Int → Int → Option (Int × (List (S79)))
 | 0,_,_,_ => none
 | k + 1,x0,x1,x5 => if x5 < (x0.length : Int) then (if 0 ≤ x5 then ((some (x0.set (x5 : Int).toNat (⟨x1,(rd_T79 x0 x5).f1,(rd_T79 x0 x5).f2,(rd_T79 x0 x5).f3,(rd_T79 x0 x5).f4,(rd_T79 x0 x5).f5⟩ : S79) : List (S79))).bind fun y207 => ((some (y207.set (x5 : Int).toNat (⟨(rd_T79 y207 x5).f0,wrap64 (x1 + 1),(rd_T79 y207 x5).f2,(rd_T79 y207 x5).f3,(rd_T79 y207 x5).f4,(rd_T79 y207 x5).f5⟩ : S79) : List (S79))).bind fun y208 => ((some (y208.set (x5 : Int).toNat (⟨(rd_T79 y208 x5).f0,(rd_T79 y208 x5).f1,wrap64 ((wrap64 (x1 + 1)) + 1),(rd_T79 y208 x5).f3,(rd_T79 y208 x5).f4,(rd_T79 y208 x5).f5⟩ : S79) : List (S79))).bind fun y209 => ((some (y209.set (x5 : Int).toNat (⟨(rd_T79 y209 x5).f0,(rd_T79 y209 x5).f1,(rd_T79 y209 x5).f2,wrap64 ((wrap64 ((wrap64 (x1 + 1)) + 1)) + 1),(rd_T79 y209 x5).f4,(rd_T79 y209 x5).f5⟩ : S79) : List (S79))).bind fun y210 => ((some (y210.set (x5 : Int).toNat (⟨(rd_T79 y210 x5).f0,(rd_T79 y210 x5).f1,(rd_T79 y210 x5).f2,(rd_T79 y210 x5).f3,wrap64 ((wrap64 ((wrap64 ((wrap64 (x1 + 1)) + 1)) + 1)) + 1),(rd_T79 y210 x5).f5⟩ : S79) : List (S79))).bind fun y211 => (laws_markFlatS.l0 k (y211.set (x5 : Int).toNat (⟨(rd_T79 y211 x5).f0,(rd_T79 y211 x5).f1,(rd_T79 y211 x5).f2,(rd_T79 y211 x5).f3,(rd_T79 y211 x5).f4,wrap64 ((wrap64 ((wrap64 ((wrap64 ((wrap64 (x1 + 1)) + 1)) + 1)) + 1)) + 1)⟩ : S79)) (wrap64 ((wrap64 ((wrap64 ((wrap64 ((wrap64 ((wrap64 (x1 + 1)) + 1)) + 1)) + 1)) + 1)) + 1)) (wrap64 (x5 + 1)))))))) else (none)) else (some (x1,x0))
def laws_markFlatS.f (k : Nat) (l0 : List (S79)) (a1 : Int) : Option (Int × (List (S79))):=laws_markFlatS.l0 k l0 a1 0
theorem laws_markFlatS.mono_l : ∀ k,(∀ y0 y1 y2,LeO (laws_markFlatS.l0 k y0 y1 y2) (laws_markFlatS.l0 (k + 1) y0 y1 y2))
 | 0 => fun _ _ _ r h => by simp [laws_markFlatS.l0] at h
 | k + 1 => by
  have ih0:=laws_markFlatS.mono_l k
  ·intro y0 y1 y2
   unfold laws_markFlatS.l0
   repeat' first
   | (with_reducible exact ih0 _ _ _)
   | (with_reducible exact LeO.refl _)
   | (with_reducible exact LeO.none _)
   | (with_reducible refine LeO.ite ?_ ?_)
   | (with_reducible refine LeO.bind ?_ (fun _ => ?_))
   | exact ih0 _ _ _
   | exact LeO.none _
   | refine LeO.ite ?_ ?_
   | refine LeO.bind ?_ (fun _ => ?_)
theorem laws_markFlatS.mono : ∀ a0 a1 k,LeO (laws_markFlatS.f k a0 a1) (laws_markFlatS.f (k + 1) a0 a1):=by
 intro a0 a1 k
 have ih0:=laws_markFlatS.mono_l k
 unfold laws_markFlatS.f
 repeat' first
   | (with_reducible exact ih0 _ _ _)
   | (with_reducible exact LeO.refl _)
   | (with_reducible exact LeO.none _)
   | (with_reducible refine LeO.ite ?_ ?_)
   | (with_reducible refine LeO.bind ?_ (fun _ => ?_))
   | exact ih0 _ _ _
   | exact LeO.none _
   | refine LeO.ite ?_ ?_
   | refine LeO.bind ?_ (fun _ => ?_)
set_option maxHeartbeats 8000000 in
set_option maxRecDepth 100000 in
theorem laws_markFlatS.calls (k : Nat) (P0_ : Nat → Prop) (u9000_ : Value) (l0 : List (S79)) (a1 : Int) (r1 : Int) (r2 : List (S79)) (w0 w : World) (hB : Below w0.heap.size w0 w) (ho0 : Kd.R k79 79 w w0.heap.size P0_ u9000_ l0) (h : laws_markFlatS.f k l0 a1 = some (r1,r2)) :
  Calls Try.prog 48 #[u9000_,.int .i64 a1] w fun e w' => e = .returned (.int .i64 r1) ∧ Kd.R k79 79 w' w0.heap.size (fun k_ => (P0_ k_ ∨ w.heap.size ≤ k_)) u9000_ r2 ∧ Below w0.heap.size w0 w' ∧ Kept w w' (fun k_ => P0_ k_):=by
 have HO0:=Aside0.mk (show Kd.R k79 79 w w0.heap.size (fun k_ => (P0_ k_ ∨ w.heap.size ≤ k_)) u9000_ l0 from Kd.R_mono ho0 (fun k_ hk => (.inl hk)))
 have HK:=Aside0.mk (Kept.refl w (fun k_ => P0_ k_))
 have HW0:=Aside0.mk hB.size
 have HB:=Aside0.mk hB
 clear hB
 have H : (laws_markFlatS.l0 k l0 a1 0) = some (r1,r2):=h
 clear h
 have H':=Aside0.mk H
 clear H
 go_enter Try.func48,Try.ntmps48
 go_wp2
 go_loopg [1,5] k (fun kq v1 v5 w' => ∃ (x0_1 : List (S79)) (x1_1 : Int) (x5_1 : Int),v1 = .int .i64 x1_1 ∧ v5 = .int .i64 x5_1 ∧ Aside0 (laws_markFlatS.l0 kq x0_1 x1_1 x5_1 = some (r1,r2)) ∧ Aside0 (kq ≤ k) ∧ Aside0 (Kd.R k79 79 w' w0.heap.size (fun k_ => (P0_ k_ ∨ w.heap.size ≤ k_)) u9000_ x0_1) ∧ Aside0 (Kept w w' (fun k_ => P0_ k_)) ∧ Aside0 (Below w0.heap.size w0 w'))
 case atStart => exact ⟨(l0),(a1),(0),(by first | rfl | (simp;done) | (simp [*];done)),(by first | rfl | (simp;done) | (simp [*];done)),H',⟨Nat.le_refl _⟩,⟨by (with_reducible repeat (first | apply Kd.R_alloc | apply Kd.R_drewN | apply Kd.R_drew));exact HO0.out⟩,⟨by repeat (first | (with_reducible first | exact HK.out | apply Kept.alloc | apply Kept.drewN | apply Kept.drew) | exact HK.out)⟩,⟨by repeat (first | (with_reducible first | exact HB.out | apply below_alloc | apply pw_below_drewN | apply below_drew1) | exact HB.out)⟩⟩
 case round =>
  clear H'
  try clear p2
  obtain ⟨x0_1,x1_1,x5_1,rfl,rfl,HA,HK1,HO_0,HK,HB⟩:=hrel
  cases gk with
  | zero => exact absurd HA.out (by simp [laws_markFlatS.l0])
  | succ k1 =>
   have H:=HA.out
   clear HA
   simp only [laws_markFlatS.l0] at H
   by_cases c3 : x5_1 < (x0_1.length : Int)
   ·rw [if_pos c3] at H
    have c3b0 : decide (x5_1 < (x0_1.length : Int)) = true:=decide_eq_true c3
    clear c3
    by_cases c4 : 0 ≤ x5_1
    ·rw [if_pos c4] at H
     have c4b0 : decide (0 ≤ x5_1) = true:=decide_eq_true c4
     clear c4
     obtain ⟨y207,hy207⟩ : ∃ y_ : List (S79),y_ = (x0_1.set (x5_1 : Int).toNat (⟨x1_1,(rd_T79 x0_1 x5_1).f1,(rd_T79 x0_1 x5_1).f2,(rd_T79 x0_1 x5_1).f3,(rd_T79 x0_1 x5_1).f4,(rd_T79 x0_1 x5_1).f5⟩ : S79)):=⟨_,rfl⟩
     replace H : ((some (y207.set (x5_1 : Int).toNat (⟨(rd_T79 y207 x5_1).f0,wrap64 (x1_1 + 1),(rd_T79 y207 x5_1).f2,(rd_T79 y207 x5_1).f3,(rd_T79 y207 x5_1).f4,(rd_T79 y207 x5_1).f5⟩ : S79) : List (S79))).bind fun y208 => ((some (y208.set (x5_1 : Int).toNat (⟨(rd_T79 y208 x5_1).f0,(rd_T79 y208 x5_1).f1,wrap64 ((wrap64 (x1_1 + 1)) + 1),(rd_T79 y208 x5_1).f3,(rd_T79 y208 x5_1).f4,(rd_T79 y208 x5_1).f5⟩ : S79) : List (S79))).bind fun y209 => ((some (y209.set (x5_1 : Int).toNat (⟨(rd_T79 y209 x5_1).f0,(rd_T79 y209 x5_1).f1,(rd_T79 y209 x5_1).f2,wrap64 ((wrap64 ((wrap64 (x1_1 + 1)) + 1)) + 1),(rd_T79 y209 x5_1).f4,(rd_T79 y209 x5_1).f5⟩ : S79) : List (S79))).bind fun y210 => ((some (y210.set (x5_1 : Int).toNat (⟨(rd_T79 y210 x5_1).f0,(rd_T79 y210 x5_1).f1,(rd_T79 y210 x5_1).f2,(rd_T79 y210 x5_1).f3,wrap64 ((wrap64 ((wrap64 ((wrap64 (x1_1 + 1)) + 1)) + 1)) + 1),(rd_T79 y210 x5_1).f5⟩ : S79) : List (S79))).bind fun y211 => (laws_markFlatS.l0 k1 (y211.set (x5_1 : Int).toNat (⟨(rd_T79 y211 x5_1).f0,(rd_T79 y211 x5_1).f1,(rd_T79 y211 x5_1).f2,(rd_T79 y211 x5_1).f3,(rd_T79 y211 x5_1).f4,wrap64 ((wrap64 ((wrap64 ((wrap64 ((wrap64 (x1_1 + 1)) + 1)) + 1)) + 1)) + 1)⟩ : S79)) (wrap64 ((wrap64 ((wrap64 ((wrap64 ((wrap64 ((wrap64 (x1_1 + 1)) + 1)) + 1)) + 1)) + 1)) + 1)) (wrap64 (x5_1 + 1))))))) = some (r1,r2):=by first | (rw [hy207];with_reducible exact H) | (have H2_:=(Option.bind_some _ _).symm.trans H;rw [hy207];with_reducible exact H2_) | (have H2_:=(Option.bind_some _ _).symm.trans H;with_reducible exact H2_) | with_reducible exact H | (rw [hy207];exact H) | exact H
     have Ny207:=Aside0.mk hy207
     clear hy207
     obtain ⟨y208,hy208⟩ : ∃ y_ : List (S79),y_ = (y207.set (x5_1 : Int).toNat (⟨(rd_T79 y207 x5_1).f0,wrap64 (x1_1 + 1),(rd_T79 y207 x5_1).f2,(rd_T79 y207 x5_1).f3,(rd_T79 y207 x5_1).f4,(rd_T79 y207 x5_1).f5⟩ : S79)):=⟨_,rfl⟩
     replace H : ((some (y208.set (x5_1 : Int).toNat (⟨(rd_T79 y208 x5_1).f0,(rd_T79 y208 x5_1).f1,wrap64 ((wrap64 (x1_1 + 1)) + 1),(rd_T79 y208 x5_1).f3,(rd_T79 y208 x5_1).f4,(rd_T79 y208 x5_1).f5⟩ : S79) : List (S79))).bind fun y209 => ((some (y209.set (x5_1 : Int).toNat (⟨(rd_T79 y209 x5_1).f0,(rd_T79 y209 x5_1).f1,(rd_T79 y209 x5_1).f2,wrap64 ((wrap64 ((wrap64 (x1_1 + 1)) + 1)) + 1),(rd_T79 y209 x5_1).f4,(rd_T79 y209 x5_1).f5⟩ : S79) : List (S79))).bind fun y210 => ((some (y210.set (x5_1 : Int).toNat (⟨(rd_T79 y210 x5_1).f0,(rd_T79 y210 x5_1).f1,(rd_T79 y210 x5_1).f2,(rd_T79 y210 x5_1).f3,wrap64 ((wrap64 ((wrap64 ((wrap64 (x1_1 + 1)) + 1)) + 1)) + 1),(rd_T79 y210 x5_1).f5⟩ : S79) : List (S79))).bind fun y211 => (laws_markFlatS.l0 k1 (y211.set (x5_1 : Int).toNat (⟨(rd_T79 y211 x5_1).f0,(rd_T79 y211 x5_1).f1,(rd_T79 y211 x5_1).f2,(rd_T79 y211 x5_1).f3,(rd_T79 y211 x5_1).f4,wrap64 ((wrap64 ((wrap64 ((wrap64 ((wrap64 (x1_1 + 1)) + 1)) + 1)) + 1)) + 1)⟩ : S79)) (wrap64 ((wrap64 ((wrap64 ((wrap64 ((wrap64 ((wrap64 (x1_1 + 1)) + 1)) + 1)) + 1)) + 1)) + 1)) (wrap64 (x5_1 + 1)))))) = some (r1,r2):=by first | (rw [hy208];with_reducible exact H) | (have H2_:=(Option.bind_some _ _).symm.trans H;rw [hy208];with_reducible exact H2_) | (have H2_:=(Option.bind_some _ _).symm.trans H;with_reducible exact H2_) | with_reducible exact H | (rw [hy208];exact H) | exact H
     have Ny208:=Aside0.mk hy208
     clear hy208
     obtain ⟨y209,hy209⟩ : ∃ y_ : List (S79),y_ = (y208.set (x5_1 : Int).toNat (⟨(rd_T79 y208 x5_1).f0,(rd_T79 y208 x5_1).f1,wrap64 ((wrap64 (x1_1 + 1)) + 1),(rd_T79 y208 x5_1).f3,(rd_T79 y208 x5_1).f4,(rd_T79 y208 x5_1).f5⟩ : S79)):=⟨_,rfl⟩
     replace H : ((some (y209.set (x5_1 : Int).toNat (⟨(rd_T79 y209 x5_1).f0,(rd_T79 y209 x5_1).f1,(rd_T79 y209 x5_1).f2,wrap64 ((wrap64 ((wrap64 (x1_1 + 1)) + 1)) + 1),(rd_T79 y209 x5_1).f4,(rd_T79 y209 x5_1).f5⟩ : S79) : List (S79))).bind fun y210 => ((some (y210.set (x5_1 : Int).toNat (⟨(rd_T79 y210 x5_1).f0,(rd_T79 y210 x5_1).f1,(rd_T79 y210 x5_1).f2,(rd_T79 y210 x5_1).f3,wrap64 ((wrap64 ((wrap64 ((wrap64 (x1_1 + 1)) + 1)) + 1)) + 1),(rd_T79 y210 x5_1).f5⟩ : S79) : List (S79))).bind fun y211 => (laws_markFlatS.l0 k1 (y211.set (x5_1 : Int).toNat (⟨(rd_T79 y211 x5_1).f0,(rd_T79 y211 x5_1).f1,(rd_T79 y211 x5_1).f2,(rd_T79 y211 x5_1).f3,(rd_T79 y211 x5_1).f4,wrap64 ((wrap64 ((wrap64 ((wrap64 ((wrap64 (x1_1 + 1)) + 1)) + 1)) + 1)) + 1)⟩ : S79)) (wrap64 ((wrap64 ((wrap64 ((wrap64 ((wrap64 ((wrap64 (x1_1 + 1)) + 1)) + 1)) + 1)) + 1)) + 1)) (wrap64 (x5_1 + 1))))) = some (r1,r2):=by first | (rw [hy209];with_reducible exact H) | (have H2_:=(Option.bind_some _ _).symm.trans H;rw [hy209];with_reducible exact H2_) | (have H2_:=(Option.bind_some _ _).symm.trans H;with_reducible exact H2_) | with_reducible exact H | (rw [hy209];exact H) | exact H
     have Ny209:=Aside0.mk hy209
     clear hy209
     obtain ⟨y210,hy210⟩ : ∃ y_ : List (S79),y_ = (y209.set (x5_1 : Int).toNat (⟨(rd_T79 y209 x5_1).f0,(rd_T79 y209 x5_1).f1,(rd_T79 y209 x5_1).f2,wrap64 ((wrap64 ((wrap64 (x1_1 + 1)) + 1)) + 1),(rd_T79 y209 x5_1).f4,(rd_T79 y209 x5_1).f5⟩ : S79)):=⟨_,rfl⟩
     replace H : ((some (y210.set (x5_1 : Int).toNat (⟨(rd_T79 y210 x5_1).f0,(rd_T79 y210 x5_1).f1,(rd_T79 y210 x5_1).f2,(rd_T79 y210 x5_1).f3,wrap64 ((wrap64 ((wrap64 ((wrap64 (x1_1 + 1)) + 1)) + 1)) + 1),(rd_T79 y210 x5_1).f5⟩ : S79) : List (S79))).bind fun y211 => (laws_markFlatS.l0 k1 (y211.set (x5_1 : Int).toNat (⟨(rd_T79 y211 x5_1).f0,(rd_T79 y211 x5_1).f1,(rd_T79 y211 x5_1).f2,(rd_T79 y211 x5_1).f3,(rd_T79 y211 x5_1).f4,wrap64 ((wrap64 ((wrap64 ((wrap64 ((wrap64 (x1_1 + 1)) + 1)) + 1)) + 1)) + 1)⟩ : S79)) (wrap64 ((wrap64 ((wrap64 ((wrap64 ((wrap64 ((wrap64 (x1_1 + 1)) + 1)) + 1)) + 1)) + 1)) + 1)) (wrap64 (x5_1 + 1)))) = some (r1,r2):=by first | (rw [hy210];with_reducible exact H) | (have H2_:=(Option.bind_some _ _).symm.trans H;rw [hy210];with_reducible exact H2_) | (have H2_:=(Option.bind_some _ _).symm.trans H;with_reducible exact H2_) | with_reducible exact H | (rw [hy210];exact H) | exact H
     have Ny210:=Aside0.mk hy210
     clear hy210
     obtain ⟨y211,hy211⟩ : ∃ y_ : List (S79),y_ = (y210.set (x5_1 : Int).toNat (⟨(rd_T79 y210 x5_1).f0,(rd_T79 y210 x5_1).f1,(rd_T79 y210 x5_1).f2,(rd_T79 y210 x5_1).f3,wrap64 ((wrap64 ((wrap64 ((wrap64 (x1_1 + 1)) + 1)) + 1)) + 1),(rd_T79 y210 x5_1).f5⟩ : S79)):=⟨_,rfl⟩
     replace H : (laws_markFlatS.l0 k1 (y211.set (x5_1 : Int).toNat (⟨(rd_T79 y211 x5_1).f0,(rd_T79 y211 x5_1).f1,(rd_T79 y211 x5_1).f2,(rd_T79 y211 x5_1).f3,(rd_T79 y211 x5_1).f4,wrap64 ((wrap64 ((wrap64 ((wrap64 ((wrap64 (x1_1 + 1)) + 1)) + 1)) + 1)) + 1)⟩ : S79)) (wrap64 ((wrap64 ((wrap64 ((wrap64 ((wrap64 ((wrap64 (x1_1 + 1)) + 1)) + 1)) + 1)) + 1)) + 1)) (wrap64 (x5_1 + 1))) = some (r1,r2):=by first | (rw [hy211];with_reducible exact H) | (have H2_:=(Option.bind_some _ _).symm.trans H;rw [hy211];with_reducible exact H2_) | (have H2_:=(Option.bind_some _ _).symm.trans H;with_reducible exact H2_) | with_reducible exact H | (rw [hy211];exact H) | exact H
     have Ny211:=Aside0.mk hy211
     clear hy211
     obtain ⟨y212,hy212⟩ : ∃ y_ : List (S79),y_ = (y211.set (x5_1 : Int).toNat (⟨(rd_T79 y211 x5_1).f0,(rd_T79 y211 x5_1).f1,(rd_T79 y211 x5_1).f2,(rd_T79 y211 x5_1).f3,(rd_T79 y211 x5_1).f4,wrap64 ((wrap64 ((wrap64 ((wrap64 ((wrap64 (x1_1 + 1)) + 1)) + 1)) + 1)) + 1)⟩ : S79)):=⟨_,rfl⟩
     replace H : (laws_markFlatS.l0 k1 y212 (wrap64 ((wrap64 ((wrap64 ((wrap64 ((wrap64 ((wrap64 (x1_1 + 1)) + 1)) + 1)) + 1)) + 1)) + 1)) (wrap64 (x5_1 + 1))) = some (r1,r2):=by first | (rw [hy212];with_reducible exact H) | (have H2_:=(Option.bind_some _ _).symm.trans H;rw [hy212];with_reducible exact H2_) | (have H2_:=(Option.bind_some _ _).symm.trans H;with_reducible exact H2_) | with_reducible exact H | (rw [hy212];exact H) | exact H
     have Ny212:=Aside0.mk hy212
     clear hy212
     have H':=Aside0.mk H
     clear H
     obtain ⟨Ao11,co11,eo11⟩:=Kd.R_slice HO_0.out
     subst eo11
     have p5 : 0 ≤ (x5_1 : Int):=of_decide_eq_true (by first | (with_reducible assumption) | assumption)
     have q5 : (x5_1 : Int) < ((x0_1.length : Int) : Int):=of_decide_eq_true (by first | (with_reducible assumption) | assumption)
     obtain ⟨go5,co5,eo5,gb5,gl5,cl5,HG5⟩:=Kd.R_form HO_0.out (by omega)
     (first | cases eo5 | (injection eo5 with ea_ en_ ec_;(first | subst ea_ | (injection ea_ with ea_;subst ea_));subst ec_;clear en_))
     have GB5:=Aside0.mk gb5
     have GG5:=Aside0.mk HG5
     clear gb5 gl5 HG5
     have HMgo5:=Aside0.mk (show (P0_ go5 ∨ w.heap.size ≤ go5) from (HO_0.out.1 _ rfl))
     obtain ⟨ce5,hcl5,hM5,hcc5,hfr5⟩:=Kd.R_elem HO_0.out z79 (x5_1 : Int) p5 q5
     obtain rfl:=k79_openM hM5
     have hx5_0 : wr.cell? ⟨go5,(x5_1 : Int).toNat * 6,none⟩ = some (.int .i64 ((rd_T79 x0_1 x5_1).f0)):=hcc5 0 _ rfl
     have hx5_1 : wr.cell? ⟨go5,(x5_1 : Int).toNat * 6 + 1,none⟩ = some (.int .i64 ((rd_T79 x0_1 x5_1).f1)):=hcc5 1 _ rfl
     have hx5_2 : wr.cell? ⟨go5,(x5_1 : Int).toNat * 6 + 2,none⟩ = some (.int .i64 ((rd_T79 x0_1 x5_1).f2)):=hcc5 2 _ rfl
     have hx5_3 : wr.cell? ⟨go5,(x5_1 : Int).toNat * 6 + 3,none⟩ = some (.int .i64 ((rd_T79 x0_1 x5_1).f3)):=hcc5 3 _ rfl
     have hx5_4 : wr.cell? ⟨go5,(x5_1 : Int).toNat * 6 + 4,none⟩ = some (.int .i64 ((rd_T79 x0_1 x5_1).f4)):=hcc5 4 _ rfl
     have hx5_5 : wr.cell? ⟨go5,(x5_1 : Int).toNat * 6 + 5,none⟩ = some (.int .i64 ((rd_T79 x0_1 x5_1).f5)):=hcc5 5 _ rfl
     have hf5_0 : wr.frozen? ⟨go5,(x5_1 : Int).toNat * 6,none⟩ = false:=hfr5 0
     have hf5_1 : wr.frozen? ⟨go5,(x5_1 : Int).toNat * 6 + 1,none⟩ = false:=hfr5 1
     have hf5_2 : wr.frozen? ⟨go5,(x5_1 : Int).toNat * 6 + 2,none⟩ = false:=hfr5 2
     have hf5_3 : wr.frozen? ⟨go5,(x5_1 : Int).toNat * 6 + 3,none⟩ = false:=hfr5 3
     have hf5_4 : wr.frozen? ⟨go5,(x5_1 : Int).toNat * 6 + 4,none⟩ = false:=hfr5 4
     have hf5_5 : wr.frozen? ⟨go5,(x5_1 : Int).toNat * 6 + 5,none⟩ = false:=hfr5 5
     clear hcl5 hcc5 hfr5;(try clear hM5)
     replace p5:=eq_true p5
     replace q5:=eq_true q5
     have HX12:=Aside0.mk (show Kd.R k79 79 wr w0.heap.size (fun k_ => (P0_ k_ ∨ w.heap.size ≤ k_)) (.slice (some ⟨go5,0,none⟩) x0_1.length co11) x0_1 from (by (with_reducible repeat (first | apply Kd.R_alloc | apply Kd.R_drewN | apply Kd.R_drew));exact HO_0.out))
     obtain ⟨ce12,hcl12,hM12,hcc12,hfr12⟩:=Kd.R_elem HX12.out z79 (x5_1 : Int) (of_decide_eq_true (by first | (with_reducible assumption) | assumption)) (by have h_ : (x5_1 : Int) < ((x0_1.length : Int) : Int):=of_decide_eq_true (by first | (with_reducible assumption) | assumption);first | exact h_ | (have e_:=(Kd.R_reads' HO_0.out).1;omega) | simpa using h_)
     obtain rfl:=k79_openM hM12
     have HP12:=Kd.R_seg HX12.out (x5_1 : Int) (of_decide_eq_true (by first | (with_reducible assumption) | assumption)) (by have h_ : (x5_1 : Int) < ((x0_1.length : Int) : Int):=of_decide_eq_true (by first | (with_reducible assumption) | assumption);first | exact h_ | (have e_:=(Kd.R_reads' HO_0.out).1;omega) | simpa using h_) (seg:=[.int .i64 x1_1]) (j:=0) hcl12 hcc12 (show 1 ≤ 6 from by decide) (x':=(⟨x1_1,(rd_T79 x0_1 x5_1).f1,(rd_T79 x0_1 x5_1).f2,(rd_T79 x0_1 x5_1).f3,(rd_T79 x0_1 x5_1).f4,(rd_T79 x0_1 x5_1).f5⟩ : S79)) (k79_mkM _ _ _ (⟨x1_1,(rd_T79 x0_1 x5_1).f1,(rd_T79 x0_1 x5_1).f2,(rd_T79 x0_1 x5_1).f3,(rd_T79 x0_1 x5_1).f4,(rd_T79 x0_1 x5_1).f5⟩ : S79) ) (fun _ hk => hk)
     have hx12_0:=hcc12 0 _ rfl
     (try simp only [show (k79).sz = 6 from rfl,Nat.mul_one,Nat.add_zero] at hx12_0)
     have hf12_0:=hfr12 0
     (try simp only [show (k79).sz = 6 from rfl,Nat.mul_one,Nat.add_zero] at hf12_0)
     clear hcl12 hcc12 hfr12;(try clear hM12)
     go_wp2_with (first | ((with_reducible refine gate_store (t:=3) (p:=16) rfl ?_);refine store_event (t:=3) (p:=16) (v:=?vo_w13) (w1:=(wr.setCell ⟨go5,(x5_1 : Int).toNat * 6,none⟩ (.int .i64 x1_1))) ?hg ?ho ?hn ?hr ?_;(case ho => rfl);(case hg => rfl);(case hn => rfl);(case hr => first | (go_simp;done) | (go_simp;rfl));intro w13 hw;have hg : wr.grownBy w13 (some go5):=(by rw [hw];exact HP12.2);have hp_ : Kd.R k79 79 w13 w0.heap.size (fun k_ => (P0_ k_ ∨ w.heap.size ≤ k_)) (.slice (some ⟨go5,0,none⟩) x0_1.length co11) y207:=(by rw [hw,Ny207.out];exact HP12.1);clear HP12;have n0_:=Aside0.mk (hp_);have n1_:=Aside0.mk ((by rw [hw];exact below_set (HB.out) GB5.out : Below w0.heap.size w0 w13));have n2_:=Aside0.mk (Kept.of_grown (S:=(fun k_ => P0_ k_)) hg (by repeat (first | (with_reducible first | exact HK.out | apply Kept.alloc | apply Kept.drewN | apply Kept.drew) | exact HK.out)) (fun k_ e_ => (HO_0.out.1 k_ e_)));clear HO_0;clear HB;clear HK;have HO_0:=n0_;have HB:=n1_;have HK:=n2_;clear n0_ n1_ n2_;clear hg hw hp_;have p6 : 0 ≤ (x5_1 : Int):=of_decide_eq_true (by first | (with_reducible assumption) | assumption);have q6 : (x5_1 : Int) < ((x0_1.length : Int) : Int):=of_decide_eq_true (by first | (with_reducible assumption) | assumption);obtain ⟨ce6,hcl6,hM6,hcc6,hfr6⟩:=Kd.R_elem HO_0.out z79 (x5_1 : Int) p6 q6;obtain rfl:=k79_openM hM6;have hx6_0 : w13.cell? ⟨go5,(x5_1 : Int).toNat * 6,none⟩ = some (.int .i64 ((rd_T79 y207 x5_1).f0)):=hcc6 0 _ rfl;have hx6_1 : w13.cell? ⟨go5,(x5_1 : Int).toNat * 6 + 1,none⟩ = some (.int .i64 ((rd_T79 y207 x5_1).f1)):=hcc6 1 _ rfl;have hx6_2 : w13.cell? ⟨go5,(x5_1 : Int).toNat * 6 + 2,none⟩ = some (.int .i64 ((rd_T79 y207 x5_1).f2)):=hcc6 2 _ rfl;have hx6_3 : w13.cell? ⟨go5,(x5_1 : Int).toNat * 6 + 3,none⟩ = some (.int .i64 ((rd_T79 y207 x5_1).f3)):=hcc6 3 _ rfl;have hx6_4 : w13.cell? ⟨go5,(x5_1 : Int).toNat * 6 + 4,none⟩ = some (.int .i64 ((rd_T79 y207 x5_1).f4)):=hcc6 4 _ rfl;have hx6_5 : w13.cell? ⟨go5,(x5_1 : Int).toNat * 6 + 5,none⟩ = some (.int .i64 ((rd_T79 y207 x5_1).f5)):=hcc6 5 _ rfl;have hf6_0 : w13.frozen? ⟨go5,(x5_1 : Int).toNat * 6,none⟩ = false:=hfr6 0;have hf6_1 : w13.frozen? ⟨go5,(x5_1 : Int).toNat * 6 + 1,none⟩ = false:=hfr6 1;have hf6_2 : w13.frozen? ⟨go5,(x5_1 : Int).toNat * 6 + 2,none⟩ = false:=hfr6 2;have hf6_3 : w13.frozen? ⟨go5,(x5_1 : Int).toNat * 6 + 3,none⟩ = false:=hfr6 3;have hf6_4 : w13.frozen? ⟨go5,(x5_1 : Int).toNat * 6 + 4,none⟩ = false:=hfr6 4;have hf6_5 : w13.frozen? ⟨go5,(x5_1 : Int).toNat * 6 + 5,none⟩ = false:=hfr6 5;clear hcl6 hcc6 hfr6;(try clear hM6);replace p6:=eq_true p6;replace q6:=eq_true q6;have HX14:=Aside0.mk (show Kd.R k79 79 w13 w0.heap.size (fun k_ => (P0_ k_ ∨ w.heap.size ≤ k_)) (.slice (some ⟨go5,0,none⟩) x0_1.length co11) y207 from (by (with_reducible repeat (first | apply Kd.R_alloc | apply Kd.R_drewN | apply Kd.R_drew));exact HO_0.out));obtain ⟨ce14,hcl14,hM14,hcc14,hfr14⟩:=Kd.R_elem HX14.out z79 (x5_1 : Int) (of_decide_eq_true (by first | (with_reducible assumption) | assumption)) (by have h_ : (x5_1 : Int) < ((x0_1.length : Int) : Int):=of_decide_eq_true (by first | (with_reducible assumption) | assumption);first | exact h_ | (have e_:=(Kd.R_reads' HO_0.out).1;omega) | simpa using h_);obtain rfl:=k79_openM hM14;have HP14:=Kd.R_seg HX14.out (x5_1 : Int) (of_decide_eq_true (by first | (with_reducible assumption) | assumption)) (by have h_ : (x5_1 : Int) < ((x0_1.length : Int) : Int):=of_decide_eq_true (by first | (with_reducible assumption) | assumption);first | exact h_ | (have e_:=(Kd.R_reads' HO_0.out).1;omega) | simpa using h_) (seg:=[.int .i64 (wrap64 (x1_1 + 1))]) (j:=1) hcl14 hcc14 (show 2 ≤ 6 from by decide) (x':=(⟨(rd_T79 y207 x5_1).f0,wrap64 (x1_1 + 1),(rd_T79 y207 x5_1).f2,(rd_T79 y207 x5_1).f3,(rd_T79 y207 x5_1).f4,(rd_T79 y207 x5_1).f5⟩ : S79)) (k79_mkM _ _ _ (⟨(rd_T79 y207 x5_1).f0,wrap64 (x1_1 + 1),(rd_T79 y207 x5_1).f2,(rd_T79 y207 x5_1).f3,(rd_T79 y207 x5_1).f4,(rd_T79 y207 x5_1).f5⟩ : S79) ) (fun _ hk => hk);have hx14_1:=hcc14 1 _ rfl;(try simp only [show (k79).sz = 6 from rfl,Nat.mul_one,Nat.add_zero] at hx14_1);have hf14_1:=hfr14 1;(try simp only [show (k79).sz = 6 from rfl,Nat.mul_one,Nat.add_zero] at hf14_1);clear hcl14 hcc14 hfr14;(try clear hM14)) | ((with_reducible refine gate_store (t:=3) (p:=23) rfl ?_);refine store_event (t:=3) (p:=23) (v:=?vo_w15) (w1:=(w13.setCell ⟨go5,(x5_1 : Int).toNat * 6 + 1,none⟩ (.int .i64 (wrap64 (x1_1 + 1))))) ?hg ?ho ?hn ?hr ?_;(case ho => rfl);(case hg => rfl);(case hn => rfl);(case hr => first | (go_simp;done) | (go_simp;rfl));intro w15 hw;have hg : w13.grownBy w15 (some go5):=(by rw [hw];exact HP14.2);have hp_ : Kd.R k79 79 w15 w0.heap.size (fun k_ => (P0_ k_ ∨ w.heap.size ≤ k_)) (.slice (some ⟨go5,0,none⟩) x0_1.length co11) y208:=(by rw [hw,Ny208.out];exact HP14.1);clear HP14;have n0_:=Aside0.mk (hp_);have n1_:=Aside0.mk ((by rw [hw];exact below_set (HB.out) GB5.out : Below w0.heap.size w0 w15));have n2_:=Aside0.mk (Kept.of_grown (S:=(fun k_ => P0_ k_)) hg (by repeat (first | (with_reducible first | exact HK.out | apply Kept.alloc | apply Kept.drewN | apply Kept.drew) | exact HK.out)) (fun k_ e_ => (HO_0.out.1 k_ e_)));clear HO_0;clear HB;clear HK;have HO_0:=n0_;have HB:=n1_;have HK:=n2_;clear n0_ n1_ n2_;clear hg hw hp_;have p7 : 0 ≤ (x5_1 : Int):=of_decide_eq_true (by first | (with_reducible assumption) | assumption);have q7 : (x5_1 : Int) < ((x0_1.length : Int) : Int):=of_decide_eq_true (by first | (with_reducible assumption) | assumption);obtain ⟨ce7,hcl7,hM7,hcc7,hfr7⟩:=Kd.R_elem HO_0.out z79 (x5_1 : Int) p7 q7;obtain rfl:=k79_openM hM7;have hx7_0 : w15.cell? ⟨go5,(x5_1 : Int).toNat * 6,none⟩ = some (.int .i64 ((rd_T79 y208 x5_1).f0)):=hcc7 0 _ rfl;have hx7_1 : w15.cell? ⟨go5,(x5_1 : Int).toNat * 6 + 1,none⟩ = some (.int .i64 ((rd_T79 y208 x5_1).f1)):=hcc7 1 _ rfl;have hx7_2 : w15.cell? ⟨go5,(x5_1 : Int).toNat * 6 + 2,none⟩ = some (.int .i64 ((rd_T79 y208 x5_1).f2)):=hcc7 2 _ rfl;have hx7_3 : w15.cell? ⟨go5,(x5_1 : Int).toNat * 6 + 3,none⟩ = some (.int .i64 ((rd_T79 y208 x5_1).f3)):=hcc7 3 _ rfl;have hx7_4 : w15.cell? ⟨go5,(x5_1 : Int).toNat * 6 + 4,none⟩ = some (.int .i64 ((rd_T79 y208 x5_1).f4)):=hcc7 4 _ rfl;have hx7_5 : w15.cell? ⟨go5,(x5_1 : Int).toNat * 6 + 5,none⟩ = some (.int .i64 ((rd_T79 y208 x5_1).f5)):=hcc7 5 _ rfl;have hf7_0 : w15.frozen? ⟨go5,(x5_1 : Int).toNat * 6,none⟩ = false:=hfr7 0;have hf7_1 : w15.frozen? ⟨go5,(x5_1 : Int).toNat * 6 + 1,none⟩ = false:=hfr7 1;have hf7_2 : w15.frozen? ⟨go5,(x5_1 : Int).toNat * 6 + 2,none⟩ = false:=hfr7 2;have hf7_3 : w15.frozen? ⟨go5,(x5_1 : Int).toNat * 6 + 3,none⟩ = false:=hfr7 3;have hf7_4 : w15.frozen? ⟨go5,(x5_1 : Int).toNat * 6 + 4,none⟩ = false:=hfr7 4;have hf7_5 : w15.frozen? ⟨go5,(x5_1 : Int).toNat * 6 + 5,none⟩ = false:=hfr7 5;clear hcl7 hcc7 hfr7;(try clear hM7);replace p7:=eq_true p7;replace q7:=eq_true q7;have HX16:=Aside0.mk (show Kd.R k79 79 w15 w0.heap.size (fun k_ => (P0_ k_ ∨ w.heap.size ≤ k_)) (.slice (some ⟨go5,0,none⟩) x0_1.length co11) y208 from (by (with_reducible repeat (first | apply Kd.R_alloc | apply Kd.R_drewN | apply Kd.R_drew));exact HO_0.out));obtain ⟨ce16,hcl16,hM16,hcc16,hfr16⟩:=Kd.R_elem HX16.out z79 (x5_1 : Int) (of_decide_eq_true (by first | (with_reducible assumption) | assumption)) (by have h_ : (x5_1 : Int) < ((x0_1.length : Int) : Int):=of_decide_eq_true (by first | (with_reducible assumption) | assumption);first | exact h_ | (have e_:=(Kd.R_reads' HO_0.out).1;omega) | simpa using h_);obtain rfl:=k79_openM hM16;have HP16:=Kd.R_seg HX16.out (x5_1 : Int) (of_decide_eq_true (by first | (with_reducible assumption) | assumption)) (by have h_ : (x5_1 : Int) < ((x0_1.length : Int) : Int):=of_decide_eq_true (by first | (with_reducible assumption) | assumption);first | exact h_ | (have e_:=(Kd.R_reads' HO_0.out).1;omega) | simpa using h_) (seg:=[.int .i64 (wrap64 ((wrap64 (x1_1 + 1)) + 1))]) (j:=2) hcl16 hcc16 (show 3 ≤ 6 from by decide) (x':=(⟨(rd_T79 y208 x5_1).f0,(rd_T79 y208 x5_1).f1,wrap64 ((wrap64 (x1_1 + 1)) + 1),(rd_T79 y208 x5_1).f3,(rd_T79 y208 x5_1).f4,(rd_T79 y208 x5_1).f5⟩ : S79)) (k79_mkM _ _ _ (⟨(rd_T79 y208 x5_1).f0,(rd_T79 y208 x5_1).f1,wrap64 ((wrap64 (x1_1 + 1)) + 1),(rd_T79 y208 x5_1).f3,(rd_T79 y208 x5_1).f4,(rd_T79 y208 x5_1).f5⟩ : S79) ) (fun _ hk => hk);have hx16_2:=hcc16 2 _ rfl;(try simp only [show (k79).sz = 6 from rfl,Nat.mul_one,Nat.add_zero] at hx16_2);have hf16_2:=hfr16 2;(try simp only [show (k79).sz = 6 from rfl,Nat.mul_one,Nat.add_zero] at hf16_2);clear hcl16 hcc16 hfr16;(try clear hM16)) | ((with_reducible refine gate_store (t:=3) (p:=30) rfl ?_);refine store_event (t:=3) (p:=30) (v:=?vo_w17) (w1:=(w15.setCell ⟨go5,(x5_1 : Int).toNat * 6 + 2,none⟩ (.int .i64 (wrap64 ((wrap64 (x1_1 + 1)) + 1))))) ?hg ?ho ?hn ?hr ?_;(case ho => rfl);(case hg => rfl);(case hn => rfl);(case hr => first | (go_simp;done) | (go_simp;rfl));intro w17 hw;have hg : w15.grownBy w17 (some go5):=(by rw [hw];exact HP16.2);have hp_ : Kd.R k79 79 w17 w0.heap.size (fun k_ => (P0_ k_ ∨ w.heap.size ≤ k_)) (.slice (some ⟨go5,0,none⟩) x0_1.length co11) y209:=(by rw [hw,Ny209.out];exact HP16.1);clear HP16;have n0_:=Aside0.mk (hp_);have n1_:=Aside0.mk ((by rw [hw];exact below_set (HB.out) GB5.out : Below w0.heap.size w0 w17));have n2_:=Aside0.mk (Kept.of_grown (S:=(fun k_ => P0_ k_)) hg (by repeat (first | (with_reducible first | exact HK.out | apply Kept.alloc | apply Kept.drewN | apply Kept.drew) | exact HK.out)) (fun k_ e_ => (HO_0.out.1 k_ e_)));clear HO_0;clear HB;clear HK;have HO_0:=n0_;have HB:=n1_;have HK:=n2_;clear n0_ n1_ n2_;clear hg hw hp_;have p8 : 0 ≤ (x5_1 : Int):=of_decide_eq_true (by first | (with_reducible assumption) | assumption);have q8 : (x5_1 : Int) < ((x0_1.length : Int) : Int):=of_decide_eq_true (by first | (with_reducible assumption) | assumption);obtain ⟨ce8,hcl8,hM8,hcc8,hfr8⟩:=Kd.R_elem HO_0.out z79 (x5_1 : Int) p8 q8;obtain rfl:=k79_openM hM8;have hx8_0 : w17.cell? ⟨go5,(x5_1 : Int).toNat * 6,none⟩ = some (.int .i64 ((rd_T79 y209 x5_1).f0)):=hcc8 0 _ rfl;have hx8_1 : w17.cell? ⟨go5,(x5_1 : Int).toNat * 6 + 1,none⟩ = some (.int .i64 ((rd_T79 y209 x5_1).f1)):=hcc8 1 _ rfl;have hx8_2 : w17.cell? ⟨go5,(x5_1 : Int).toNat * 6 + 2,none⟩ = some (.int .i64 ((rd_T79 y209 x5_1).f2)):=hcc8 2 _ rfl;have hx8_3 : w17.cell? ⟨go5,(x5_1 : Int).toNat * 6 + 3,none⟩ = some (.int .i64 ((rd_T79 y209 x5_1).f3)):=hcc8 3 _ rfl;have hx8_4 : w17.cell? ⟨go5,(x5_1 : Int).toNat * 6 + 4,none⟩ = some (.int .i64 ((rd_T79 y209 x5_1).f4)):=hcc8 4 _ rfl;have hx8_5 : w17.cell? ⟨go5,(x5_1 : Int).toNat * 6 + 5,none⟩ = some (.int .i64 ((rd_T79 y209 x5_1).f5)):=hcc8 5 _ rfl;have hf8_0 : w17.frozen? ⟨go5,(x5_1 : Int).toNat * 6,none⟩ = false:=hfr8 0;have hf8_1 : w17.frozen? ⟨go5,(x5_1 : Int).toNat * 6 + 1,none⟩ = false:=hfr8 1;have hf8_2 : w17.frozen? ⟨go5,(x5_1 : Int).toNat * 6 + 2,none⟩ = false:=hfr8 2;have hf8_3 : w17.frozen? ⟨go5,(x5_1 : Int).toNat * 6 + 3,none⟩ = false:=hfr8 3;have hf8_4 : w17.frozen? ⟨go5,(x5_1 : Int).toNat * 6 + 4,none⟩ = false:=hfr8 4;have hf8_5 : w17.frozen? ⟨go5,(x5_1 : Int).toNat * 6 + 5,none⟩ = false:=hfr8 5;clear hcl8 hcc8 hfr8;(try clear hM8);replace p8:=eq_true p8;replace q8:=eq_true q8;have HX18:=Aside0.mk (show Kd.R k79 79 w17 w0.heap.size (fun k_ => (P0_ k_ ∨ w.heap.size ≤ k_)) (.slice (some ⟨go5,0,none⟩) x0_1.length co11) y209 from (by (with_reducible repeat (first | apply Kd.R_alloc | apply Kd.R_drewN | apply Kd.R_drew));exact HO_0.out));obtain ⟨ce18,hcl18,hM18,hcc18,hfr18⟩:=Kd.R_elem HX18.out z79 (x5_1 : Int) (of_decide_eq_true (by first | (with_reducible assumption) | assumption)) (by have h_ : (x5_1 : Int) < ((x0_1.length : Int) : Int):=of_decide_eq_true (by first | (with_reducible assumption) | assumption);first | exact h_ | (have e_:=(Kd.R_reads' HO_0.out).1;omega) | simpa using h_);obtain rfl:=k79_openM hM18;have HP18:=Kd.R_seg HX18.out (x5_1 : Int) (of_decide_eq_true (by first | (with_reducible assumption) | assumption)) (by have h_ : (x5_1 : Int) < ((x0_1.length : Int) : Int):=of_decide_eq_true (by first | (with_reducible assumption) | assumption);first | exact h_ | (have e_:=(Kd.R_reads' HO_0.out).1;omega) | simpa using h_) (seg:=[.int .i64 (wrap64 ((wrap64 ((wrap64 (x1_1 + 1)) + 1)) + 1))]) (j:=3) hcl18 hcc18 (show 4 ≤ 6 from by decide) (x':=(⟨(rd_T79 y209 x5_1).f0,(rd_T79 y209 x5_1).f1,(rd_T79 y209 x5_1).f2,wrap64 ((wrap64 ((wrap64 (x1_1 + 1)) + 1)) + 1),(rd_T79 y209 x5_1).f4,(rd_T79 y209 x5_1).f5⟩ : S79)) (k79_mkM _ _ _ (⟨(rd_T79 y209 x5_1).f0,(rd_T79 y209 x5_1).f1,(rd_T79 y209 x5_1).f2,wrap64 ((wrap64 ((wrap64 (x1_1 + 1)) + 1)) + 1),(rd_T79 y209 x5_1).f4,(rd_T79 y209 x5_1).f5⟩ : S79) ) (fun _ hk => hk);have hx18_3:=hcc18 3 _ rfl;(try simp only [show (k79).sz = 6 from rfl,Nat.mul_one,Nat.add_zero] at hx18_3);have hf18_3:=hfr18 3;(try simp only [show (k79).sz = 6 from rfl,Nat.mul_one,Nat.add_zero] at hf18_3);clear hcl18 hcc18 hfr18;(try clear hM18)) | ((with_reducible refine gate_store (t:=3) (p:=37) rfl ?_);refine store_event (t:=3) (p:=37) (v:=?vo_w19) (w1:=(w17.setCell ⟨go5,(x5_1 : Int).toNat * 6 + 3,none⟩ (.int .i64 (wrap64 ((wrap64 ((wrap64 (x1_1 + 1)) + 1)) + 1))))) ?hg ?ho ?hn ?hr ?_;(case ho => rfl);(case hg => rfl);(case hn => rfl);(case hr => first | (go_simp;done) | (go_simp;rfl));intro w19 hw;have hg : w17.grownBy w19 (some go5):=(by rw [hw];exact HP18.2);have hp_ : Kd.R k79 79 w19 w0.heap.size (fun k_ => (P0_ k_ ∨ w.heap.size ≤ k_)) (.slice (some ⟨go5,0,none⟩) x0_1.length co11) y210:=(by rw [hw,Ny210.out];exact HP18.1);clear HP18;have n0_:=Aside0.mk (hp_);have n1_:=Aside0.mk ((by rw [hw];exact below_set (HB.out) GB5.out : Below w0.heap.size w0 w19));have n2_:=Aside0.mk (Kept.of_grown (S:=(fun k_ => P0_ k_)) hg (by repeat (first | (with_reducible first | exact HK.out | apply Kept.alloc | apply Kept.drewN | apply Kept.drew) | exact HK.out)) (fun k_ e_ => (HO_0.out.1 k_ e_)));clear HO_0;clear HB;clear HK;have HO_0:=n0_;have HB:=n1_;have HK:=n2_;clear n0_ n1_ n2_;clear hg hw hp_;have p9 : 0 ≤ (x5_1 : Int):=of_decide_eq_true (by first | (with_reducible assumption) | assumption);have q9 : (x5_1 : Int) < ((x0_1.length : Int) : Int):=of_decide_eq_true (by first | (with_reducible assumption) | assumption);obtain ⟨ce9,hcl9,hM9,hcc9,hfr9⟩:=Kd.R_elem HO_0.out z79 (x5_1 : Int) p9 q9;obtain rfl:=k79_openM hM9;have hx9_0 : w19.cell? ⟨go5,(x5_1 : Int).toNat * 6,none⟩ = some (.int .i64 ((rd_T79 y210 x5_1).f0)):=hcc9 0 _ rfl;have hx9_1 : w19.cell? ⟨go5,(x5_1 : Int).toNat * 6 + 1,none⟩ = some (.int .i64 ((rd_T79 y210 x5_1).f1)):=hcc9 1 _ rfl;have hx9_2 : w19.cell? ⟨go5,(x5_1 : Int).toNat * 6 + 2,none⟩ = some (.int .i64 ((rd_T79 y210 x5_1).f2)):=hcc9 2 _ rfl;have hx9_3 : w19.cell? ⟨go5,(x5_1 : Int).toNat * 6 + 3,none⟩ = some (.int .i64 ((rd_T79 y210 x5_1).f3)):=hcc9 3 _ rfl;have hx9_4 : w19.cell? ⟨go5,(x5_1 : Int).toNat * 6 + 4,none⟩ = some (.int .i64 ((rd_T79 y210 x5_1).f4)):=hcc9 4 _ rfl;have hx9_5 : w19.cell? ⟨go5,(x5_1 : Int).toNat * 6 + 5,none⟩ = some (.int .i64 ((rd_T79 y210 x5_1).f5)):=hcc9 5 _ rfl;have hf9_0 : w19.frozen? ⟨go5,(x5_1 : Int).toNat * 6,none⟩ = false:=hfr9 0;have hf9_1 : w19.frozen? ⟨go5,(x5_1 : Int).toNat * 6 + 1,none⟩ = false:=hfr9 1;have hf9_2 : w19.frozen? ⟨go5,(x5_1 : Int).toNat * 6 + 2,none⟩ = false:=hfr9 2;have hf9_3 : w19.frozen? ⟨go5,(x5_1 : Int).toNat * 6 + 3,none⟩ = false:=hfr9 3;have hf9_4 : w19.frozen? ⟨go5,(x5_1 : Int).toNat * 6 + 4,none⟩ = false:=hfr9 4;have hf9_5 : w19.frozen? ⟨go5,(x5_1 : Int).toNat * 6 + 5,none⟩ = false:=hfr9 5;clear hcl9 hcc9 hfr9;(try clear hM9);replace p9:=eq_true p9;replace q9:=eq_true q9;have HX20:=Aside0.mk (show Kd.R k79 79 w19 w0.heap.size (fun k_ => (P0_ k_ ∨ w.heap.size ≤ k_)) (.slice (some ⟨go5,0,none⟩) x0_1.length co11) y210 from (by (with_reducible repeat (first | apply Kd.R_alloc | apply Kd.R_drewN | apply Kd.R_drew));exact HO_0.out));obtain ⟨ce20,hcl20,hM20,hcc20,hfr20⟩:=Kd.R_elem HX20.out z79 (x5_1 : Int) (of_decide_eq_true (by first | (with_reducible assumption) | assumption)) (by have h_ : (x5_1 : Int) < ((x0_1.length : Int) : Int):=of_decide_eq_true (by first | (with_reducible assumption) | assumption);first | exact h_ | (have e_:=(Kd.R_reads' HO_0.out).1;omega) | simpa using h_);obtain rfl:=k79_openM hM20;have HP20:=Kd.R_seg HX20.out (x5_1 : Int) (of_decide_eq_true (by first | (with_reducible assumption) | assumption)) (by have h_ : (x5_1 : Int) < ((x0_1.length : Int) : Int):=of_decide_eq_true (by first | (with_reducible assumption) | assumption);first | exact h_ | (have e_:=(Kd.R_reads' HO_0.out).1;omega) | simpa using h_) (seg:=[.int .i64 (wrap64 ((wrap64 ((wrap64 ((wrap64 (x1_1 + 1)) + 1)) + 1)) + 1))]) (j:=4) hcl20 hcc20 (show 5 ≤ 6 from by decide) (x':=(⟨(rd_T79 y210 x5_1).f0,(rd_T79 y210 x5_1).f1,(rd_T79 y210 x5_1).f2,(rd_T79 y210 x5_1).f3,wrap64 ((wrap64 ((wrap64 ((wrap64 (x1_1 + 1)) + 1)) + 1)) + 1),(rd_T79 y210 x5_1).f5⟩ : S79)) (k79_mkM _ _ _ (⟨(rd_T79 y210 x5_1).f0,(rd_T79 y210 x5_1).f1,(rd_T79 y210 x5_1).f2,(rd_T79 y210 x5_1).f3,wrap64 ((wrap64 ((wrap64 ((wrap64 (x1_1 + 1)) + 1)) + 1)) + 1),(rd_T79 y210 x5_1).f5⟩ : S79) ) (fun _ hk => hk);have hx20_4:=hcc20 4 _ rfl;(try simp only [show (k79).sz = 6 from rfl,Nat.mul_one,Nat.add_zero] at hx20_4);have hf20_4:=hfr20 4;(try simp only [show (k79).sz = 6 from rfl,Nat.mul_one,Nat.add_zero] at hf20_4);clear hcl20 hcc20 hfr20;(try clear hM20)) | ((with_reducible refine gate_store (t:=3) (p:=44) rfl ?_);refine store_event (t:=3) (p:=44) (v:=?vo_w21) (w1:=(w19.setCell ⟨go5,(x5_1 : Int).toNat * 6 + 4,none⟩ (.int .i64 (wrap64 ((wrap64 ((wrap64 ((wrap64 (x1_1 + 1)) + 1)) + 1)) + 1))))) ?hg ?ho ?hn ?hr ?_;(case ho => rfl);(case hg => rfl);(case hn => rfl);(case hr => first | (go_simp;done) | (go_simp;rfl));intro w21 hw;have hg : w19.grownBy w21 (some go5):=(by rw [hw];exact HP20.2);have hp_ : Kd.R k79 79 w21 w0.heap.size (fun k_ => (P0_ k_ ∨ w.heap.size ≤ k_)) (.slice (some ⟨go5,0,none⟩) x0_1.length co11) y211:=(by rw [hw,Ny211.out];exact HP20.1);clear HP20;have n0_:=Aside0.mk (hp_);have n1_:=Aside0.mk ((by rw [hw];exact below_set (HB.out) GB5.out : Below w0.heap.size w0 w21));have n2_:=Aside0.mk (Kept.of_grown (S:=(fun k_ => P0_ k_)) hg (by repeat (first | (with_reducible first | exact HK.out | apply Kept.alloc | apply Kept.drewN | apply Kept.drew) | exact HK.out)) (fun k_ e_ => (HO_0.out.1 k_ e_)));clear HO_0;clear HB;clear HK;have HO_0:=n0_;have HB:=n1_;have HK:=n2_;clear n0_ n1_ n2_;clear hg hw hp_;have p10 : 0 ≤ (x5_1 : Int):=of_decide_eq_true (by first | (with_reducible assumption) | assumption);have q10 : (x5_1 : Int) < ((x0_1.length : Int) : Int):=of_decide_eq_true (by first | (with_reducible assumption) | assumption);obtain ⟨ce10,hcl10,hM10,hcc10,hfr10⟩:=Kd.R_elem HO_0.out z79 (x5_1 : Int) p10 q10;obtain rfl:=k79_openM hM10;have hx10_0 : w21.cell? ⟨go5,(x5_1 : Int).toNat * 6,none⟩ = some (.int .i64 ((rd_T79 y211 x5_1).f0)):=hcc10 0 _ rfl;have hx10_1 : w21.cell? ⟨go5,(x5_1 : Int).toNat * 6 + 1,none⟩ = some (.int .i64 ((rd_T79 y211 x5_1).f1)):=hcc10 1 _ rfl;have hx10_2 : w21.cell? ⟨go5,(x5_1 : Int).toNat * 6 + 2,none⟩ = some (.int .i64 ((rd_T79 y211 x5_1).f2)):=hcc10 2 _ rfl;have hx10_3 : w21.cell? ⟨go5,(x5_1 : Int).toNat * 6 + 3,none⟩ = some (.int .i64 ((rd_T79 y211 x5_1).f3)):=hcc10 3 _ rfl;have hx10_4 : w21.cell? ⟨go5,(x5_1 : Int).toNat * 6 + 4,none⟩ = some (.int .i64 ((rd_T79 y211 x5_1).f4)):=hcc10 4 _ rfl;have hx10_5 : w21.cell? ⟨go5,(x5_1 : Int).toNat * 6 + 5,none⟩ = some (.int .i64 ((rd_T79 y211 x5_1).f5)):=hcc10 5 _ rfl;have hf10_0 : w21.frozen? ⟨go5,(x5_1 : Int).toNat * 6,none⟩ = false:=hfr10 0;have hf10_1 : w21.frozen? ⟨go5,(x5_1 : Int).toNat * 6 + 1,none⟩ = false:=hfr10 1;have hf10_2 : w21.frozen? ⟨go5,(x5_1 : Int).toNat * 6 + 2,none⟩ = false:=hfr10 2;have hf10_3 : w21.frozen? ⟨go5,(x5_1 : Int).toNat * 6 + 3,none⟩ = false:=hfr10 3;have hf10_4 : w21.frozen? ⟨go5,(x5_1 : Int).toNat * 6 + 4,none⟩ = false:=hfr10 4;have hf10_5 : w21.frozen? ⟨go5,(x5_1 : Int).toNat * 6 + 5,none⟩ = false:=hfr10 5;clear hcl10 hcc10 hfr10;(try clear hM10);replace p10:=eq_true p10;replace q10:=eq_true q10;have HX22:=Aside0.mk (show Kd.R k79 79 w21 w0.heap.size (fun k_ => (P0_ k_ ∨ w.heap.size ≤ k_)) (.slice (some ⟨go5,0,none⟩) x0_1.length co11) y211 from (by (with_reducible repeat (first | apply Kd.R_alloc | apply Kd.R_drewN | apply Kd.R_drew));exact HO_0.out));obtain ⟨ce22,hcl22,hM22,hcc22,hfr22⟩:=Kd.R_elem HX22.out z79 (x5_1 : Int) (of_decide_eq_true (by first | (with_reducible assumption) | assumption)) (by have h_ : (x5_1 : Int) < ((x0_1.length : Int) : Int):=of_decide_eq_true (by first | (with_reducible assumption) | assumption);first | exact h_ | (have e_:=(Kd.R_reads' HO_0.out).1;omega) | simpa using h_);obtain rfl:=k79_openM hM22;have HP22:=Kd.R_seg HX22.out (x5_1 : Int) (of_decide_eq_true (by first | (with_reducible assumption) | assumption)) (by have h_ : (x5_1 : Int) < ((x0_1.length : Int) : Int):=of_decide_eq_true (by first | (with_reducible assumption) | assumption);first | exact h_ | (have e_:=(Kd.R_reads' HO_0.out).1;omega) | simpa using h_) (seg:=[.int .i64 (wrap64 ((wrap64 ((wrap64 ((wrap64 ((wrap64 (x1_1 + 1)) + 1)) + 1)) + 1)) + 1))]) (j:=5) hcl22 hcc22 (show 6 ≤ 6 from by decide) (x':=(⟨(rd_T79 y211 x5_1).f0,(rd_T79 y211 x5_1).f1,(rd_T79 y211 x5_1).f2,(rd_T79 y211 x5_1).f3,(rd_T79 y211 x5_1).f4,wrap64 ((wrap64 ((wrap64 ((wrap64 ((wrap64 (x1_1 + 1)) + 1)) + 1)) + 1)) + 1)⟩ : S79)) (k79_mkM _ _ _ (⟨(rd_T79 y211 x5_1).f0,(rd_T79 y211 x5_1).f1,(rd_T79 y211 x5_1).f2,(rd_T79 y211 x5_1).f3,(rd_T79 y211 x5_1).f4,wrap64 ((wrap64 ((wrap64 ((wrap64 ((wrap64 (x1_1 + 1)) + 1)) + 1)) + 1)) + 1)⟩ : S79) ) (fun _ hk => hk);have hx22_5:=hcc22 5 _ rfl;(try simp only [show (k79).sz = 6 from rfl,Nat.mul_one,Nat.add_zero] at hx22_5);have hf22_5:=hfr22 5;(try simp only [show (k79).sz = 6 from rfl,Nat.mul_one,Nat.add_zero] at hf22_5);clear hcl22 hcc22 hfr22;(try clear hM22)) | ((with_reducible refine gate_store (t:=3) (p:=51) rfl ?_);refine store_event (t:=3) (p:=51) (v:=?vo_w23) (w1:=(w21.setCell ⟨go5,(x5_1 : Int).toNat * 6 + 5,none⟩ (.int .i64 (wrap64 ((wrap64 ((wrap64 ((wrap64 ((wrap64 (x1_1 + 1)) + 1)) + 1)) + 1)) + 1))))) ?hg ?ho ?hn ?hr ?_;(case ho => rfl);(case hg => rfl);(case hn => rfl);(case hr => first | (go_simp;done) | (go_simp;rfl));intro w23 hw;have hg : w21.grownBy w23 (some go5):=(by rw [hw];exact HP22.2);have hp_ : Kd.R k79 79 w23 w0.heap.size (fun k_ => (P0_ k_ ∨ w.heap.size ≤ k_)) (.slice (some ⟨go5,0,none⟩) x0_1.length co11) y212:=(by rw [hw,Ny212.out];exact HP22.1);clear HP22;have n0_:=Aside0.mk (hp_);have n1_:=Aside0.mk ((by rw [hw];exact below_set (HB.out) GB5.out : Below w0.heap.size w0 w23));have n2_:=Aside0.mk (Kept.of_grown (S:=(fun k_ => P0_ k_)) hg (by repeat (first | (with_reducible first | exact HK.out | apply Kept.alloc | apply Kept.drewN | apply Kept.drew) | exact HK.out)) (fun k_ e_ => (HO_0.out.1 k_ e_)));clear HO_0;clear HB;clear HK;have HO_0:=n0_;have HB:=n1_;have HK:=n2_;clear n0_ n1_ n2_;clear hg hw hp_))
     go_roundg k1
     case measure => have:=HK1.out;omega
     case rel => exact ⟨(y212),(wrap64 ((wrap64 ((wrap64 ((wrap64 ((wrap64 ((wrap64 (x1_1 + 1)) + 1)) + 1)) + 1)) + 1)) + 1)),(wrap64 (x5_1 + 1)),(by first | rfl | (simp;done) | (simp [*];done)),(by first | rfl | (simp;done) | (simp [*];done)),H',⟨by have:=HK1.out;omega⟩,⟨by (with_reducible repeat (first | apply Kd.R_alloc | apply Kd.R_drewN | apply Kd.R_drew));exact HO_0.out⟩,⟨by repeat (first | (with_reducible first | exact HK.out | apply Kept.alloc | apply Kept.drewN | apply Kept.drew) | exact HK.out)⟩,⟨by repeat (first | (with_reducible first | exact HB.out | apply below_alloc | apply pw_below_drewN | apply below_drew1) | exact HB.out)⟩⟩
    ·rw [if_neg c4] at H
     exact absurd H (by simp)
   ·rw [if_neg c3] at H
    have c3b0 : decide (x5_1 < (x0_1.length : Int)) = false:=decide_eq_false c3
    clear c3
    simp only [Option.some.injEq,Prod.mk.injEq] at H
    obtain ⟨rfl,rfl⟩:=H
    obtain ⟨Ao24,co24,eo24⟩:=Kd.R_slice HO_0.out
    subst eo24
    go_wp2
    go_ret
    exact ⟨by first | rfl | (simp [errW_none,errW_some] <;> rfl) | (simp [*,errW_none,errW_some] <;> rfl),by (with_reducible repeat (first | apply Kd.R_alloc | apply Kd.R_drewN | apply Kd.R_drew));exact HO_0.out,by repeat (first | (with_reducible first | exact HB.out | apply below_alloc | apply pw_below_drewN | apply below_drew1) | exact HB.out),by repeat (first | (with_reducible first | exact HK.out | apply Kept.alloc | apply Kept.drewN | apply Kept.drew) | exact HK.out)⟩

/-! ### laws_markBlockS: function 17 (by hand: fields of structs in a row that came in are written, and two rows in them) -/
/-- A block of a row of blocks of the call's own, lent: its two rows are apart, for they are of two types. -/
theorem BlockS.row {w : World} {base n cap : Nat} {P : Nat → Prop} {A : Option Addr} {xs : List S56} (h : Kd.S k56 56 w base P (.slice A n cap) xs) (i : Int) (h0 : 0 ≤ i) (h1 : i < n) :
  ∃ g oki v0 v3,A = some ⟨g,0,none⟩ ∧ w.cell? ⟨g,i.toNat * 4,none⟩ = some v0 ∧
   k79.R 79 w base (fun k => some k = v0.ownBlock) v0 (rd_T56 xs i).f0 ∧ (Kd.int .i64).R 3 w base (fun k => some k = v3.ownBlock) v3 (rd_T56 xs i).f3 ∧
   (∀ k,some k = v0.ownBlock → oki k) ∧ (∀ k,some k = v3.ownBlock → oki k ∧ ¬ some k = v0.ownBlock) ∧
   Kd.H k56 56 w base P (.slice (some ⟨g,0,none⟩) n cap) xs i oki [v0,.int .i64 (rd_T56 xs i).f1,.int .i64 (rd_T56 xs i).f2,v3] ∧
   (∀ k,oki k → P k ∧ k ≠ g) ∧ base ≤ g ∧ P g:=by
 have hn:=(Kd.S_reads' h).1
 obtain ⟨g,cap',hv,hbg,_⟩:=Kd.S_form h (by omega)
 injection hv with ha _ _
 subst ha
 obtain ⟨oki,c,hcl,hM,hcc,hfr,hoki,hH⟩:=Kd.S_elem h z56 i h0 h1
 obtain ⟨v0,v3,rfl,hR0,hR3⟩:=k56_openM hM
 have hPg : P g:=(Kd.S_R h).1 g (by simp [Value.ownBlock])
 have c0:=hcc 0 _ rfl
 simp only [show k56.sz = 4 from rfl,Nat.add_zero] at c0
 refine ⟨g,oki,v0,v3,rfl,c0,Kd.R_tight rfl hR0,Kd.R_tight rfl hR3,fun k hk => hR0.1 k hk.symm,fun k hk => ⟨hR3.1 k hk.symm,fun hk0 => ?_⟩,hH,hoki,hbg,hPg⟩
 obtain ⟨c3,e3⟩:=Kd.R_typed hR3 k hk.symm
 obtain ⟨c0,e0⟩:=Kd.R_typed hR0 k hk0.symm
 rw [e0] at e3
 injection e3 with e3
 injection e3 with _ e3
 exact absurd e3 (by decide)
/-- Its first row is written; then its two numbers are. -/
theorem BlockS.mid {w w' : World} {base n cap g : Nat} {P oki ok' : Nat → Prop} {v0 v3 : Value} {xs : List S56} {i u10 u20 : Int} {y0 : List S79} {y3 : List Int} (hH : Kd.H k56 56 w base P (.slice (some ⟨g,0,none⟩) n cap) xs i oki [v0,.int .i64 u10,.int .i64 u20,v3]) (h0 : 0 ≤ i) (h1 : i < n)
  (hk : Kept w w' (fun k => some k = v0.ownBlock)) (hr0 : k79.R 79 w' base ok' v0 y0) (hr3 : (Kd.int .i64).R 3 w base (fun k => some k = v3.ownBlock) v3 y3)
  (hv0 : ∀ k,some k = v0.ownBlock → oki k) (hv3 : ∀ k,some k = v3.ownBlock → oki k ∧ ¬ some k = v0.ownBlock) (hoki : ∀ k,oki k → P k ∧ k ≠ g) (hPg : P g) (u1 u2 : Int) :
  (∃ q,w'.cell? ⟨g,i.toNat * 4 + 1,none⟩ = some q) ∧ w'.frozen? ⟨g,i.toNat * 4 + 1,none⟩ = false ∧
   (∃ q,(w'.setCell ⟨g,i.toNat * 4 + 1,none⟩ (.int .i64 u1)).cell? ⟨g,i.toNat * 4 + 2,none⟩ = some q) ∧ (w'.setCell ⟨g,i.toNat * 4 + 1,none⟩ (.int .i64 u1)).frozen? ⟨g,i.toNat * 4 + 2,none⟩ = false ∧
   ((w'.setCell ⟨g,i.toNat * 4 + 1,none⟩ (.int .i64 u1)).setCell ⟨g,i.toNat * 4 + 2,none⟩ (.int .i64 u2)).cell? ⟨g,i.toNat * 4 + 3,none⟩ = some v3 ∧
   k79.R 79 ((w'.setCell ⟨g,i.toNat * 4 + 1,none⟩ (.int .i64 u1)).setCell ⟨g,i.toNat * 4 + 2,none⟩ (.int .i64 u2)) base (fun k => some k = v0.ownBlock) v0 y0 ∧
   (Kd.int .i64).R 3 ((w'.setCell ⟨g,i.toNat * 4 + 1,none⟩ (.int .i64 u1)).setCell ⟨g,i.toNat * 4 + 2,none⟩ (.int .i64 u2)) base (fun k => some k = v3.ownBlock) v3 y3 ∧
   Kd.H k56 56 ((w'.setCell ⟨g,i.toNat * 4 + 1,none⟩ (.int .i64 u1)).setCell ⟨g,i.toNat * 4 + 2,none⟩ (.int .i64 u2)) base P (.slice (some ⟨g,0,none⟩) n cap) xs i oki [v0,.int .i64 u1,.int .i64 u2,v3] ∧
   Kept w ((w'.setCell ⟨g,i.toNat * 4 + 1,none⟩ (.int .i64 u1)).setCell ⟨g,i.toNat * 4 + 2,none⟩ (.int .i64 u2)) P:=by
 have hH':=Kd.H_kept hH hk (fun k _ hn hc => hn (hv0 k hc))
 have hr0':=Kd.R_tight rfl hr0
 have hr3' : (Kd.int .i64).R 3 w' base (fun k => some k = v3.ownBlock) v3 y3:=Kd.R_step hr3 (fun k hk3 hlt => hk.2 k hlt (hv3 k hk3).2)
 have c1:=(Kd.H_at hH' h0 h1).1 1 _ rfl
 have f1:=(Kd.H_at hH' h0 h1).2 1
 obtain ⟨ha,ga⟩:=Kd.H_seg hH' h0 h1 (seg:=[.int .i64 u1]) (j:=1) (by show 1 + 1 ≤ 4;omega) (by intro q hq;rw [List.mem_singleton.1 hq];rfl)
 have e1 : w'.setCells g (i.toNat * k56.sz + 1) [.int .i64 u1] = w'.setCell ⟨g,i.toNat * 4 + 1,none⟩ (.int .i64 u1):=by
  simp [World.setCells,show k56.sz = 4 from rfl]
 rw [e1] at ha ga
 have ha' : Kd.H k56 56 (w'.setCell ⟨g,i.toNat * 4 + 1,none⟩ (.int .i64 u1)) base P (.slice (some ⟨g,0,none⟩) n cap) xs i oki [v0,.int .i64 u1,.int .i64 u20,v3]:=ha
 have c2:=(Kd.H_at ha' h0 h1).1 2 _ rfl
 have f2:=(Kd.H_at ha' h0 h1).2 2
 obtain ⟨hb,gb⟩:=Kd.H_seg ha' h0 h1 (seg:=[.int .i64 u2]) (j:=2) (by show 2 + 1 ≤ 4;omega) (by intro q hq;rw [List.mem_singleton.1 hq];rfl)
 have e2 : (w'.setCell ⟨g,i.toNat * 4 + 1,none⟩ (.int .i64 u1)).setCells g (i.toNat * k56.sz + 2) [.int .i64 u2] = (w'.setCell ⟨g,i.toNat * 4 + 1,none⟩ (.int .i64 u1)).setCell ⟨g,i.toNat * 4 + 2,none⟩ (.int .i64 u2):=by
  simp [World.setCells,show k56.sz = 4 from rfl]
 rw [e2] at hb gb
 have hb' : Kd.H k56 56 ((w'.setCell ⟨g,i.toNat * 4 + 1,none⟩ (.int .i64 u1)).setCell ⟨g,i.toNat * 4 + 2,none⟩ (.int .i64 u2)) base P (.slice (some ⟨g,0,none⟩) n cap) xs i oki [v0,.int .i64 u1,.int .i64 u2,v3]:=hb
 have c3:=(Kd.H_at hb' h0 h1).1 3 _ rfl
 simp only [show k56.sz = 4 from rfl] at c1 f1 c2 f2 c3
 have hne0 : ∀ k,some k = v0.ownBlock → some k ≠ some g:=fun k hk he => (hoki k (hv0 k hk)).2 (by injection he)
 have hne3 : ∀ k,some k = v3.ownBlock → some k ≠ some g:=fun k hk he => (hoki k (hv3 k hk).1).2 (by injection he)
 have kg : ∀ k,some g = some k → P k:=fun k e => by injection e with e;exact e ▸ hPg
 exact ⟨⟨_,c1⟩,f1,⟨_,c2⟩,f2,c3,Kd.R_grown (Kd.R_grown hr0' ga hne0) gb hne0,Kd.R_grown (Kd.R_grown hr3' ga hne3) gb hne3,hb',Kept.of_grown gb (Kept.of_grown ga (hk.mono (fun k hk => (hoki k (hv0 k hk)).1)) (fun k e => .inl (kg k e))) (fun k e => .inl (kg k e))⟩
/-- Its last row is written: the block is given back. -/
theorem BlockS.back {w w' : World} {base : Nat} {P oki ok' : Nat → Prop} {v v0 v3 : Value} {xs : List S56} {i u1 u2 : Int} {y0 : List S79} {y3 : List Int} (hH : Kd.H k56 56 w base P v xs i oki [v0,.int .i64 u1,.int .i64 u2,v3])
  (hk : Kept w w' (fun k => some k = v3.ownBlock)) (hr0 : k79.R 79 w base (fun k => some k = v0.ownBlock) v0 y0) (hr3 : (Kd.int .i64).R 3 w' base ok' v3 y3)
  (hv0 : ∀ k,some k = v0.ownBlock → oki k) (hv3 : ∀ k,some k = v3.ownBlock → oki k ∧ ¬ some k = v0.ownBlock) (hoki : ∀ k,oki k → P k) :
  Kd.S k56 56 w' base P v (xs.set i.toNat ⟨y0,u1,u2,y3⟩) ∧ Kept w w' P:=by
 have hH':=Kd.H_kept hH hk (fun k _ hn hc => hn (hv3 k hc).1)
 have hr0' : k79.R 79 w' base (fun k => some k = v0.ownBlock) v0 y0:=Kd.R_step hr0 (fun k hk0 hlt => hk.2 k hlt (fun hk3 => (hv3 k hk3).2 hk0))
 exact ⟨Kd.H_back hH' (k56_mkM _ base oki ⟨y0,u1,u2,y3⟩ (Kd.R_mono hr0' hv0) (Kd.R_reok rfl hr3 (fun k hk => (hv3 k hk.symm).1))) (fun _ h => h),hk.mono (fun k hk => hoki k (hv3 k hk).1)⟩
def laws_markBlockS.l0 : Nat → List S56 → Int → Int → Option (Int × List S56)
 | 0,_,_,_ => none
 | k + 1,x,a,i => if i < (x.length : Int) then (if 0 ≤ i then ((laws_markFlatS.f k (rd_T56 x i).f0 a).bind fun b => ((laws_markIntS.f k (rd_T56 x i).f3 (wrap64 (wrap64 (b.1 + 1) + 1))).bind fun c => (laws_markBlockS.l0 k (x.set i.toNat ⟨b.2,b.1,wrap64 (b.1 + 1),c.2⟩) c.1 (wrap64 (i + 1))))) else none) else some (a,x)
def laws_markBlockS.f (k : Nat) (x : List S56) (a : Int) : Option (Int × List S56):=laws_markBlockS.l0 k x a 0
theorem laws_markBlockS.mono_l : ∀ k,∀ y0 y1 y2,LeO (laws_markBlockS.l0 k y0 y1 y2) (laws_markBlockS.l0 (k + 1) y0 y1 y2)
 | 0 => fun _ _ _ r h => by simp [laws_markBlockS.l0] at h
 | k + 1 => by
  have ih0:=laws_markBlockS.mono_l k
  intro y0 y1 y2
  unfold laws_markBlockS.l0
  repeat' first
   | (with_reducible exact ih0 _ _ _)
   | (with_reducible exact laws_markFlatS.mono _ _ _)
   | (with_reducible exact laws_markIntS.mono _ _ _)
   | (with_reducible exact LeO.refl _)
   | (with_reducible exact LeO.none _)
   | (with_reducible refine LeO.ite ?_ ?_)
   | (with_reducible refine LeO.bind ?_ (fun _ => ?_))
theorem laws_markBlockS.mono : ∀ a0 a1 k,LeO (laws_markBlockS.f k a0 a1) (laws_markBlockS.f (k + 1) a0 a1):=fun _ _ k => laws_markBlockS.mono_l k _ _ _
set_option maxHeartbeats 8000000 in
set_option maxRecDepth 100000 in
theorem laws_markBlockS.calls (k : Nat) (P0_ : Nat → Prop) (u9000_ : Value) (l0 : List S56) (a1 : Int) (r1 : Int) (r2 : List S56) (w0 w : World) (hB : Below w0.heap.size w0 w) (ho0 : Kd.S k56 56 w w0.heap.size P0_ u9000_ l0) (h : laws_markBlockS.f k l0 a1 = some (r1,r2)) :
  Calls Try.prog 17 #[u9000_,.int .i64 a1] w fun e w' => e = .returned (.int .i64 r1) ∧ Kd.S k56 56 w' w0.heap.size P0_ u9000_ r2 ∧ Below w0.heap.size w0 w' ∧ Kept w w' P0_:=by
 have hu58:=Try.underlying56
 obtain ⟨A0,c0,rfl⟩:=Kd.S_slice ho0
 have HO0:=Aside0.mk ho0
 have HB0:=Aside0.mk hB
 have H':=Aside0.mk h
 have HK0:=Aside0.mk (Kept.refl w P0_)
 clear ho0 hB h
 unfold laws_markBlockS.f at H'
 go_enter Try.func17,Try.ntmps17
 go_wp2
 go_loopg [1,5] k (fun kq v1 v5 w' => ∃ (x : List S56) (x1 x5 : Int),v1 = .int .i64 x1 ∧ v5 = .int .i64 x5 ∧ Aside0 (laws_markBlockS.l0 kq x x1 x5 = some (r1,r2)) ∧ Aside0 (kq ≤ k) ∧ Aside0 (Kd.S k56 56 w' w0.heap.size P0_ (.slice A0 l0.length c0) x) ∧ Aside0 (Below w0.heap.size w0 w') ∧ Aside0 (Kept w w' P0_))
 case atStart => exact ⟨l0,a1,0,rfl,rfl,H',⟨Nat.le_refl _⟩,HO0,HB0,HK0⟩
 case round =>
  clear H' HO0 HB0 HK0
  obtain ⟨x,x1,x5,rfl,rfl,HA,HK1,HO,HB,HK⟩:=hrel
  cases gk with
  | zero => exact absurd HA.out (by simp [laws_markBlockS.l0])
  | succ k1 =>
   have H:=HA.out
   clear HA
   simp only [laws_markBlockS.l0] at H
   have hlen:=(Kd.S_reads' HO.out).1
   rw [← hlen] at H
   have HLN:=Aside0.mk hlen
   clear hlen
   by_cases c3 : x5 < (l0.length : Int)
   ·rw [if_pos c3] at H
    by_cases c4 : 0 ≤ x5
    ·rw [if_pos c4] at H
     obtain ⟨⟨b1,b2⟩,A60,H⟩:=Option.bind_eq_some_iff.mp H
     obtain ⟨⟨d1,d2⟩,A70,H⟩:=Option.bind_eq_some_iff.mp H
     obtain ⟨g,oki,v0,v3,rfl,hx0,hR0,hR3,hv0,hv3,hH,hoki,hbg,hPg⟩:=BlockS.row HO.out x5 c4 c3
     have A6:=Aside0.mk A60
     have A7:=Aside0.mk A70
     have HR0:=Aside0.mk hR0
     have HR3:=Aside0.mk hR3
     have HV0:=Aside0.mk hv0
     have HV3:=Aside0.mk hv3
     have HH:=Aside0.mk hH
     have HKI:=Aside0.mk hoki
     have HBG:=Aside0.mk hbg
     have HPG:=Aside0.mk hPg
     have H':=Aside0.mk H
     have c3b0 : decide (x5 < (l0.length : Int)) = true:=decide_eq_true c3
     have c4b0 : decide (0 ≤ x5) = true:=decide_eq_true c4
     have p3:=eq_true c3
     have p4:=eq_true c4
     clear A60 A70 hR0 hR3 hv0 hv3 hH hoki H c3 c4 hbg hPg HO
     go_wp2_with (first | (go_at_call 48;(refine (laws_markFlatS.calls k1 _ v0 (rd_T56 x x5).f0 _ b1 b2 w0 _ HB.out HR0.out A6.out).mono ?_);rintro e w4 ⟨rfl,hr2,hb,hkp⟩;obtain ⟨⟨q1,hx1⟩,hf1,⟨q2,hx2⟩,hf2,hx3,hs0,hs3,hs,hk2⟩:=BlockS.mid (u1:=b1) (u2:=wrap64 (b1 + 1)) HH.out (of_eq_true p4) (of_eq_true p3) hkp hr2 HR3.out HV0.out HV3.out HKI.out HPG.out;have HB4:=Aside0.mk (below_set (j:=x5.toNat * 4 + 2) (v:=.int .i64 (wrap64 (b1 + 1))) (below_set (j:=x5.toNat * 4 + 1) (v:=.int .i64 b1) hb HBG.out) HBG.out);have HS0:=Aside0.mk hs0;have HS3:=Aside0.mk hs3;have HS:=Aside0.mk hs;have HK4:=Aside0.mk (HK.out.then_ hk2 (fun k_ h_ => .inl h_));clear hr2 hb hkp hs0 hs3 hs hk2) | (go_at_call 23;(refine (laws_markIntS.calls k1 _ v3 (rd_T56 x x5).f3 _ d1 d2 w0 _ HB4.out HS3.out A7.out).mono ?_);rintro e w5 ⟨rfl,hr2,hb,hkp⟩;obtain ⟨hs,hk2⟩:=BlockS.back HS.out hkp HS0.out hr2 HV0.out HV3.out (fun k_ h_ => (HKI.out k_ h_).1);have HB5:=Aside0.mk hb;have HO5:=Aside0.mk hs;have HK5:=Aside0.mk (HK4.out.then_ hk2 (fun k_ h_ => .inl h_));clear hr2 hb hkp hs hk2))
     go_roundg k1
     case measure => have:=HK1.out;omega
     case rel => exact ⟨_,_,_,rfl,rfl,H',⟨by have:=HK1.out;omega⟩,HO5,HB5,HK5⟩
    ·rw [if_neg c4] at H
     exact absurd H (by simp)
   ·rw [if_neg c3] at H
    have c3b0 : decide (x5 < (l0.length : Int)) = false:=decide_eq_false c3
    clear c3
    simp only [Option.some.injEq,Prod.mk.injEq] at H
    obtain ⟨rfl,rfl⟩:=H
    go_wp2
    go_ret
    exact ⟨rfl,HO.out,HB.out,HK.out⟩

/-! ### laws_heldIntS: function 24 -/
def laws_heldIntS.l0 : Nat → List Int → Int → Int → Option (Int)
 | 0,_,_,_ => none
 | k + 1,x0,x1,x5 => if x5 < (x0.length : Int) then (if 0 ≤ x5 then (if (rd x0 x5) = x1 then (laws_heldIntS.l0 k x0 (wrap64 (x1 + 1)) (wrap64 (x5 + 1))) else (some (-1))) else (none)) else (some x1)
def laws_heldIntS.f (k : Nat) (l0 : List Int) (a1 : Int) : Option (Int):=laws_heldIntS.l0 k l0 a1 0
theorem laws_heldIntS.mono_l : ∀ k,(∀ y0 y1 y2,LeO (laws_heldIntS.l0 k y0 y1 y2) (laws_heldIntS.l0 (k + 1) y0 y1 y2))
 | 0 => fun _ _ _ r h => by simp [laws_heldIntS.l0] at h
 | k + 1 => by
  have ih0:=laws_heldIntS.mono_l k
  ·intro y0 y1 y2
   unfold laws_heldIntS.l0
   repeat' first
   | (with_reducible exact ih0 _ _ _)
   | (with_reducible exact LeO.refl _)
   | (with_reducible exact LeO.none _)
   | (with_reducible refine LeO.ite ?_ ?_)
   | (with_reducible refine LeO.bind ?_ (fun _ => ?_))
   | exact ih0 _ _ _
   | exact LeO.none _
   | refine LeO.ite ?_ ?_
   | refine LeO.bind ?_ (fun _ => ?_)
theorem laws_heldIntS.mono : ∀ a0 a1 k,LeO (laws_heldIntS.f k a0 a1) (laws_heldIntS.f (k + 1) a0 a1):=by
 intro a0 a1 k
 have ih0:=laws_heldIntS.mono_l k
 unfold laws_heldIntS.f
 repeat' first
   | (with_reducible exact ih0 _ _ _)
   | (with_reducible exact LeO.refl _)
   | (with_reducible exact LeO.none _)
   | (with_reducible refine LeO.ite ?_ ?_)
   | (with_reducible refine LeO.bind ?_ (fun _ => ?_))
   | exact ih0 _ _ _
   | exact LeO.none _
   | refine LeO.ite ?_ ?_
   | refine LeO.bind ?_ (fun _ => ?_)
set_option maxHeartbeats 8000000 in
set_option maxRecDepth 100000 in
theorem laws_heldIntS.calls (k : Nat) (A0 : Option Addr) (c0 : Nat) (l0 : List Int) (a1 : Int) (r : Int) (w : World) (hr0 : Kd.C (Kd.int .i64) w A0 l0.length l0) (hc0 : l0.length ≤ c0) (h : laws_heldIntS.f k l0 a1 = some r) :
  Calls Try.prog 24 #[.slice A0 l0.length c0,.int .i64 a1] w fun e w' => e = .returned (.int .i64 r) ∧ Drawn0 w w':=by
 have HR0:=Aside0.mk hr0
 have HC0:=Aside0.mk hc0
 clear hr0 hc0
 have H : (laws_heldIntS.l0 k l0 a1 0) = some r:=h
 clear h
 have H':=Aside0.mk H
 clear H
 go_enter Try.func24,Try.ntmps24
 go_wp2
 go_loopg [1,5] k (fun kq v1 v5 w' => ∃ (x1_1 : Int) (x5_1 : Int),v1 = .int .i64 x1_1 ∧ v5 = .int .i64 x5_1 ∧ Aside0 (laws_heldIntS.l0 kq l0 x1_1 x5_1 = some r) ∧ Aside0 (kq ≤ k) ∧ Drawn0 w w')
 case atStart => exact ⟨(a1),(0),(by first | rfl | (simp;done) | (simp [*];done)),(by first | rfl | (simp;done) | (simp [*];done)),H',⟨Nat.le_refl _⟩,by repeat (first | exact Drawn0.refl _ | apply Drawn0.step)⟩
 case round =>
  clear H'
  try clear c2
  try clear p2
  obtain ⟨x1_1,x5_1,rfl,rfl,HA,HK1,⟨m1,rfl⟩⟩:=hrel
  cases gk with
  | zero => exact absurd HA.out (by simp [laws_heldIntS.l0])
  | succ k1 =>
   have H:=HA.out
   clear HA
   simp only [laws_heldIntS.l0] at H
   by_cases c3 : x5_1 < (l0.length : Int)
   ·rw [if_pos c3] at H
    have c3b0 : decide (x5_1 < (l0.length : Int)) = true:=decide_eq_true c3
    clear c3
    by_cases c4 : 0 ≤ x5_1
    ·rw [if_pos c4] at H
     have c4b0 : decide (0 ≤ x5_1) = true:=decide_eq_true c4
     clear c4
     by_cases c5 : (rd l0 x5_1) = x1_1
     ·rw [if_pos c5] at H
      have c5b0 : ((rd l0 x5_1) == x1_1) = true:=beq_iff_eq.mpr c5
      have c5b1 : ((rd l0 x5_1) != x1_1) = false:=bne_eq_false_iff_eq.mpr c5
      clear c5
      have H':=Aside0.mk H
      clear H
      have p213 : 0 ≤ (x5_1 : Int):=of_decide_eq_true (by first | (with_reducible assumption) | assumption)
      have q213 : x5_1 < (l0.length : Int):=of_decide_eq_true (by first | (with_reducible assumption) | assumption)
      obtain ⟨ad213,e213,hx213_0⟩:=Kd.at_int HR0.out x5_1 p213 q213
      cases e213
      replace p213:=eq_true p213
      replace q213:=eq_true q213
      go_wp2
      go_roundg k1
      case measure => have:=HK1.out;omega
      case rel => exact ⟨(wrap64 (x1_1 + 1)),(wrap64 (x5_1 + 1)),(by first | rfl | (simp;done) | (simp [*];done)),(by first | rfl | (simp;done) | (simp [*];done)),H',⟨by have:=HK1.out;omega⟩,by repeat (first | exact Drawn0.refl _ | apply Drawn0.step)⟩
     ·rw [if_neg c5] at H
      have c5b0 : ((rd l0 x5_1) == x1_1) = false:=beq_eq_false_iff_ne.mpr c5
      have c5b1 : ((rd l0 x5_1) != x1_1) = true:=bne_iff_ne.mpr c5
      obtain rfl:=Option.some.inj H
      have p213 : 0 ≤ (x5_1 : Int):=of_decide_eq_true (by first | (with_reducible assumption) | assumption)
      have q213 : x5_1 < (l0.length : Int):=of_decide_eq_true (by first | (with_reducible assumption) | assumption)
      obtain ⟨ad213,e213,hx213_0⟩:=Kd.at_int HR0.out x5_1 p213 q213
      cases e213
      replace p213:=eq_true p213
      replace q213:=eq_true q213
      go_wp2
      go_ret
      exact ⟨by first | rfl | (simp;done) | (simp [*];done),by repeat (first | exact Drawn0.refl _ | apply Drawn0.step)⟩
    ·rw [if_neg c4] at H
     exact absurd H (by simp)
   ·rw [if_neg c3] at H
    have c3b0 : decide (x5_1 < (l0.length : Int)) = false:=decide_eq_false c3
    clear c3
    obtain rfl:=Option.some.inj H
    go_wp2
    go_ret
    exact ⟨by first | rfl | (simp;done) | (simp [*];done),by repeat (first | exact Drawn0.refl _ | apply Drawn0.step)⟩

/-! ### spec_l1Put: function 74 -/
def spec_l1Put.l0 : Nat → List Int → Int → Int → Option (List Int)
 | 0,_,_,_ => none
 | k + 1,x0,x1,x5 => if x5 < (x0.length : Int) then (if 0 ≤ x5 then (if (rd x0 x5) < x1 then (spec_l1Put.l0 k x0 x1 (wrap64 (x5 + 1))) else (if (rd x0 x5) = x1 then (some x0) else (if x5 ≤ (x0.length : Int) then ((some (x0.take (x5 : Int).toNat : List Int)).bind fun y216 => (if ([] : List Int).length + y216.length < 17592186044416 then ((some (([] : List Int) ++ y216 : List Int)).bind fun y220 => (if y220.length < 17592186044416 then ((some (y220 ++ [x1] : List Int)).bind fun y223 => ((some (x0.drop (x5 : Int).toNat : List Int)).bind fun y226 => (if y223.length + y226.length < 17592186044416 then (some (y223 ++ y226)) else (none)))) else (none))) else (none))) else (none)))) else (none)) else (if 0 ≤ x5 then (if x5 ≤ (x0.length : Int) then ((some (x0.take (x5 : Int).toNat : List Int)).bind fun y233 => (if ([] : List Int).length + y233.length < 17592186044416 then ((some (([] : List Int) ++ y233 : List Int)).bind fun y237 => (if y237.length < 17592186044416 then ((some (y237 ++ [x1] : List Int)).bind fun y240 => ((some (x0.drop (x5 : Int).toNat : List Int)).bind fun y243 => (if y240.length + y243.length < 17592186044416 then (some (y240 ++ y243)) else (none)))) else (none))) else (none))) else (none)) else (none))
def spec_l1Put.f (k : Nat) (l0 : List Int) (a1 : Int) : Option (List Int):=spec_l1Put.l0 k l0 a1 0
theorem spec_l1Put.mono_l : ∀ k,(∀ y0 y1 y2,LeO (spec_l1Put.l0 k y0 y1 y2) (spec_l1Put.l0 (k + 1) y0 y1 y2))
 | 0 => fun _ _ _ r h => by simp [spec_l1Put.l0] at h
 | k + 1 => by
  have ih0:=spec_l1Put.mono_l k
  ·intro y0 y1 y2
   unfold spec_l1Put.l0
   repeat' first
   | (with_reducible exact ih0 _ _ _)
   | (with_reducible exact LeO.refl _)
   | (with_reducible exact LeO.none _)
   | (with_reducible refine LeO.ite ?_ ?_)
   | (with_reducible refine LeO.bind ?_ (fun _ => ?_))
   | exact ih0 _ _ _
   | exact LeO.none _
   | refine LeO.ite ?_ ?_
   | refine LeO.bind ?_ (fun _ => ?_)
theorem spec_l1Put.mono : ∀ a0 a1 k,LeO (spec_l1Put.f k a0 a1) (spec_l1Put.f (k + 1) a0 a1):=by
 intro a0 a1 k
 have ih0:=spec_l1Put.mono_l k
 unfold spec_l1Put.f
 repeat' first
   | (with_reducible exact ih0 _ _ _)
   | (with_reducible exact LeO.refl _)
   | (with_reducible exact LeO.none _)
   | (with_reducible refine LeO.ite ?_ ?_)
   | (with_reducible refine LeO.bind ?_ (fun _ => ?_))
   | exact ih0 _ _ _
   | exact LeO.none _
   | refine LeO.ite ?_ ?_
   | refine LeO.bind ?_ (fun _ => ?_)
set_option maxHeartbeats 8000000 in
set_option maxRecDepth 100000 in
theorem spec_l1Put.calls (k : Nat) (P0_ : Nat → Prop) (u9000_ : Value) (l0 : List Int) (a1 : Int) (r : List Int) (w0 w : World) (hB : Below w0.heap.size w0 w) (ho0 : Kd.R (Kd.int .i64) 3 w w0.heap.size P0_ u9000_ l0) (h : spec_l1Put.f k l0 a1 = some r) :
  Calls Try.prog 74 #[u9000_,.int .i64 a1] w fun e w' => ∃ v0_ : Value,e = .returned (v0_) ∧ Kd.R (Kd.int .i64) 3 w' w0.heap.size (fun k_ => (P0_ k_ ∨ w.heap.size ≤ k_)) v0_ r ∧ Below w0.heap.size w0 w' ∧ Kept w w' (fun k_ => P0_ k_):=by
 have HO0:=Aside0.mk (show Kd.R (Kd.int .i64) 3 w w0.heap.size (fun k_ => (P0_ k_ ∨ w.heap.size ≤ k_)) u9000_ l0 from Kd.R_mono ho0 (fun k_ hk => (.inl hk)))
 have HK:=Aside0.mk (Kept.refl w (fun k_ => P0_ k_))
 have HW0:=Aside0.mk hB.size
 have HB:=Aside0.mk hB
 clear hB
 have H : (spec_l1Put.l0 k l0 a1 0) = some r:=h
 clear h
 have H':=Aside0.mk H
 clear H
 go_enter Try.func74,Try.ntmps74
 go_wp2
 go_loopg [5] k (fun kq v5 w' => ∃ (x5_1 : Int),v5 = .int .i64 x5_1 ∧ Aside0 (spec_l1Put.l0 kq l0 a1 x5_1 = some r) ∧ Aside0 (kq ≤ k) ∧ Aside0 (Kd.R (Kd.int .i64) 3 w' w0.heap.size (fun k_ => (P0_ k_ ∨ w.heap.size ≤ k_)) u9000_ l0) ∧ Aside0 (Kept w w' (fun k_ => P0_ k_)) ∧ Aside0 (Below w0.heap.size w0 w'))
 case atStart => exact ⟨(0),(by first | rfl | (simp;done) | (simp [*];done)),H',⟨Nat.le_refl _⟩,⟨by (with_reducible repeat (first | apply Kd.R_alloc | apply Kd.R_drewN | apply Kd.R_drew));exact HO0.out⟩,⟨by repeat (first | (with_reducible first | exact HK.out | apply Kept.alloc | apply Kept.drewN | apply Kept.drew) | exact HK.out)⟩,⟨by repeat (first | (with_reducible first | exact HB.out | apply below_alloc | apply pw_below_drewN | apply below_drew1) | exact HB.out)⟩⟩
 case round =>
  clear H'
  try clear p2
  obtain ⟨x5_1,rfl,HA,HK1,HO_0,HK,HB⟩:=hrel
  cases gk with
  | zero => exact absurd HA.out (by simp [spec_l1Put.l0])
  | succ k1 =>
   have H:=HA.out
   clear HA
   simp only [spec_l1Put.l0] at H
   by_cases c3 : x5_1 < (l0.length : Int)
   ·rw [if_pos c3] at H
    have c3b0 : decide (x5_1 < (l0.length : Int)) = true:=decide_eq_true c3
    clear c3
    by_cases c4 : 0 ≤ x5_1
    ·rw [if_pos c4] at H
     have c4b0 : decide (0 ≤ x5_1) = true:=decide_eq_true c4
     clear c4
     by_cases c5 : (rd l0 x5_1) < a1
     ·rw [if_pos c5] at H
      have c5b0 : decide ((rd l0 x5_1) < a1) = true:=decide_eq_true c5
      clear c5
      have H':=Aside0.mk H
      clear H
      obtain ⟨Ao6,co6,eo6⟩:=Kd.R_slice HO_0.out
      subst eo6
      have p214 : 0 ≤ (x5_1 : Int):=of_decide_eq_true (by first | (with_reducible assumption) | assumption)
      have q214 : x5_1 < (l0.length : Int):=of_decide_eq_true (by first | (with_reducible assumption) | assumption)
      obtain ⟨ad214,e214,hx214_0⟩:=Kd.at_int (Kd.R_reads' HO_0.out).2.2 x5_1 p214 q214
      cases e214
      replace p214:=eq_true p214
      replace q214:=eq_true q214
      go_wp2
      go_roundg k1
      case measure => have:=HK1.out;omega
      case rel => exact ⟨(wrap64 (x5_1 + 1)),(by first | rfl | (simp;done) | (simp [*];done)),H',⟨by have:=HK1.out;omega⟩,⟨by (with_reducible repeat (first | apply Kd.R_alloc | apply Kd.R_drewN | apply Kd.R_drew));exact HO_0.out⟩,⟨by repeat (first | (with_reducible first | exact HK.out | apply Kept.alloc | apply Kept.drewN | apply Kept.drew) | exact HK.out)⟩,⟨by repeat (first | (with_reducible first | exact HB.out | apply below_alloc | apply pw_below_drewN | apply below_drew1) | exact HB.out)⟩⟩
     ·rw [if_neg c5] at H
      have c5b0 : decide ((rd l0 x5_1) < a1) = false:=decide_eq_false c5
      clear c5
      by_cases c7 : (rd l0 x5_1) = a1
      ·rw [if_pos c7] at H
       have c7b0 : ((rd l0 x5_1) == a1) = true:=beq_iff_eq.mpr c7
       have c7b1 : ((rd l0 x5_1) != a1) = false:=bne_eq_false_iff_eq.mpr c7
       clear c7
       obtain rfl:=Option.some.inj H
       obtain ⟨Ao8,co8,eo8⟩:=Kd.R_slice HO_0.out
       subst eo8
       have p214 : 0 ≤ (x5_1 : Int):=of_decide_eq_true (by first | (with_reducible assumption) | assumption)
       have q214 : x5_1 < (l0.length : Int):=of_decide_eq_true (by first | (with_reducible assumption) | assumption)
       obtain ⟨ad214,e214,hx214_0⟩:=Kd.at_int (Kd.R_reads' HO_0.out).2.2 x5_1 p214 q214
       cases e214
       replace p214:=eq_true p214
       replace q214:=eq_true q214
       have p215 : 0 ≤ (x5_1 : Int):=of_decide_eq_true (by first | (with_reducible assumption) | assumption)
       have q215 : x5_1 < (l0.length : Int):=of_decide_eq_true (by first | (with_reducible assumption) | assumption)
       obtain ⟨ad215,e215,hx215_0⟩:=Kd.at_int (Kd.R_reads' HO_0.out).2.2 x5_1 p215 q215
       obtain rfl : ad214 = ad215:=(by injection e215)
       replace p215:=eq_true p215
       replace q215:=eq_true q215
       go_wp2
       go_ret
       exact ⟨_,by first | rfl | (simp [errW_none,errW_some] <;> rfl) | (simp [*,errW_none,errW_some] <;> rfl),by (with_reducible repeat (first | apply Kd.R_alloc | apply Kd.R_drewN | apply Kd.R_drew));exact HO_0.out,by repeat (first | (with_reducible first | exact HB.out | apply below_alloc | apply pw_below_drewN | apply below_drew1) | exact HB.out),by repeat (first | (with_reducible first | exact HK.out | apply Kept.alloc | apply Kept.drewN | apply Kept.drew) | exact HK.out)⟩
      ·rw [if_neg c7] at H
       have c7b0 : ((rd l0 x5_1) == a1) = false:=beq_eq_false_iff_ne.mpr c7
       have c7b1 : ((rd l0 x5_1) != a1) = true:=bne_iff_ne.mpr c7
       have c9b0:=eq_true (of_decide_eq_true (by first | (with_reducible assumption) | assumption) : 0 ≤ x5_1)
       by_cases c10 : x5_1 ≤ (l0.length : Int)
       ·rw [if_pos c10] at H
        have c10b0:=eq_true c10
        have c10b1 : decide (x5_1 ≤ (l0.length : Int)) = true:=decide_eq_true c10
        clear c10
        obtain ⟨y216,hy216⟩ : ∃ y_ : List Int,y_ = (l0.take (x5_1 : Int).toNat):=⟨_,rfl⟩
        replace H : (if ([] : List Int).length + y216.length < 17592186044416 then ((some (([] : List Int) ++ y216 : List Int)).bind fun y220 => (if y220.length < 17592186044416 then ((some (y220 ++ [a1] : List Int)).bind fun y223 => ((some (l0.drop (x5_1 : Int).toNat : List Int)).bind fun y226 => (if y223.length + y226.length < 17592186044416 then (some (y223 ++ y226)) else (none)))) else (none))) else (none)) = some r:=by first | (rw [hy216];with_reducible exact H) | (have H2_:=(Option.bind_some _ _).symm.trans H;rw [hy216];with_reducible exact H2_) | (have H2_:=(Option.bind_some _ _).symm.trans H;with_reducible exact H2_) | with_reducible exact H | (rw [hy216];exact H) | exact H
        have Ny216:=Aside0.mk hy216
        clear hy216
        by_cases c11 : ([] : List Int).length + y216.length < 17592186044416
        ·rw [if_pos c11] at H
         have LMc11:=Aside0.mk c11
         clear c11
         obtain ⟨y220,hy220⟩ : ∃ y_ : List Int,y_ = (([] : List Int) ++ y216):=⟨_,rfl⟩
         replace H : (if y220.length < 17592186044416 then ((some (y220 ++ [a1] : List Int)).bind fun y223 => ((some (l0.drop (x5_1 : Int).toNat : List Int)).bind fun y226 => (if y223.length + y226.length < 17592186044416 then (some (y223 ++ y226)) else (none)))) else (none)) = some r:=by first | (rw [hy220];with_reducible exact H) | (have H2_:=(Option.bind_some _ _).symm.trans H;rw [hy220];with_reducible exact H2_) | (have H2_:=(Option.bind_some _ _).symm.trans H;with_reducible exact H2_) | with_reducible exact H | (rw [hy220];exact H) | exact H
         have Ny220:=Aside0.mk hy220
         clear hy220
         by_cases c12 : y220.length < 17592186044416
         ·rw [if_pos c12] at H
          have LMc12:=Aside0.mk c12
          clear c12
          obtain ⟨y223,hy223⟩ : ∃ y_ : List Int,y_ = (y220 ++ [a1]):=⟨_,rfl⟩
          replace H : ((some (l0.drop (x5_1 : Int).toNat : List Int)).bind fun y226 => (if y223.length + y226.length < 17592186044416 then (some (y223 ++ y226)) else (none))) = some r:=by first | (rw [hy223];with_reducible exact H) | (have H2_:=(Option.bind_some _ _).symm.trans H;rw [hy223];with_reducible exact H2_) | (have H2_:=(Option.bind_some _ _).symm.trans H;with_reducible exact H2_) | with_reducible exact H | (rw [hy223];exact H) | exact H
          have Ny223:=Aside0.mk hy223
          clear hy223
          have c13b0:=eq_true (of_decide_eq_true (by first | (with_reducible assumption) | assumption) : 0 ≤ x5_1)
          have c14b0:=eq_true (of_decide_eq_true (by first | (with_reducible assumption) | assumption) : x5_1 ≤ (l0.length : Int))
          obtain ⟨y226,hy226⟩ : ∃ y_ : List Int,y_ = (l0.drop (x5_1 : Int).toNat):=⟨_,rfl⟩
          replace H : (if y223.length + y226.length < 17592186044416 then (some (y223 ++ y226)) else (none)) = some r:=by first | (rw [hy226];with_reducible exact H) | (have H2_:=(Option.bind_some _ _).symm.trans H;rw [hy226];with_reducible exact H2_) | (have H2_:=(Option.bind_some _ _).symm.trans H;with_reducible exact H2_) | with_reducible exact H | (rw [hy226];exact H) | exact H
          have Ny226:=Aside0.mk hy226
          clear hy226
          by_cases c15 : y223.length + y226.length < 17592186044416
          ·rw [if_pos c15] at H
           have LMc15:=Aside0.mk c15
           clear c15
           obtain ⟨y230,hy230⟩ : ∃ y_ : List Int,y_ = (y223 ++ y226):=⟨_,rfl⟩
           replace H : (some y230) = some r:=by first | (rw [hy230];with_reducible exact H) | (have H2_:=(Option.bind_some _ _).symm.trans H;rw [hy230];with_reducible exact H2_) | (have H2_:=(Option.bind_some _ _).symm.trans H;with_reducible exact H2_) | with_reducible exact H | (rw [hy230];exact H) | exact H
           have Ny230:=Aside0.mk hy230
           clear hy230
           obtain rfl:=Option.some.inj H
           obtain ⟨Ao16,co16,eo16⟩:=Kd.R_slice HO_0.out
           subst eo16
           have p214 : 0 ≤ (x5_1 : Int):=of_decide_eq_true (by first | (with_reducible assumption) | assumption)
           have q214 : x5_1 < (l0.length : Int):=of_decide_eq_true (by first | (with_reducible assumption) | assumption)
           obtain ⟨ad214,e214,hx214_0⟩:=Kd.at_int (Kd.R_reads' HO_0.out).2.2 x5_1 p214 q214
           cases e214
           replace p214:=eq_true p214
           replace q214:=eq_true q214
           have p215 : 0 ≤ (x5_1 : Int):=of_decide_eq_true (by first | (with_reducible assumption) | assumption)
           have q215 : x5_1 < (l0.length : Int):=of_decide_eq_true (by first | (with_reducible assumption) | assumption)
           obtain ⟨ad215,e215,hx215_0⟩:=Kd.at_int (Kd.R_reads' HO_0.out).2.2 x5_1 p215 q215
           obtain rfl : ad214 = ad215:=(by injection e215)
           replace p215:=eq_true p215
           replace q215:=eq_true q215
           have q17 : (x5_1 : Int) ≤ ((l0.length : Int) : Int):=of_decide_eq_true (by first | (with_reducible assumption) | assumption)
           obtain ⟨i017,hi017,_,hsz17,_⟩:=info_parts info3
           have hroom17 : l0.length ≤ co16:=(Kd.R_reads' HO_0.out).2.1
           have hC17 : Kd.C (Kd.int .i64) _ (some ad214) l0.length l0:=(Kd.R_reads' HO_0.out).2.2
           have hcut17:=cut_to (P:=Try.prog) 37 3 .i64 Try.underlying37 hi017 (some ad214) l0.length co16 x5_1 (of_decide_eq_true (by first | (with_reducible assumption) | assumption)) q17 hroom17
           have hr17:=Kd.C_take (m:=(x5_1 : Int).toNat) hC17 (by omega)
           have hy17 : y216.length = (x5_1 : Int).toNat:=(by rw [Ny216.out,List.length_take];omega)
           rw [← Ny216.out] at hr17
           rw [← hy17] at hcut17
           have HR219:=Aside0.mk hr17
           have HC219:=Aside0.mk (show y216.length ≤ co16 from by omega)
           clear hr17 hC17 hroom17 hi017 hsz17
           have KY17:=Aside0.mk hy17
           clear hy17
           have KL17:=Aside0.mk (show (x5_1 : Int).toNat ≤ l0.length from by omega)
           replace q17:=eq_true q17
           go_wp2_with (first | ((with_reducible refine gate_builtin (b:=.append) (xs:=#[.tmp 34,.tmp 37]) rfl ?_);at_builtin;refine Kd.R_append_rows (Kd.int .i64) (w0:=w0) w0.heap.size rfl (.tmp 34) (.tmp 37) 37 3 (.int .i64 0) 8 rfl Try.underlying37 info3 rfl (by decide) (by omega) (.slice none 0 0) ([] : List Int) y216 _ _ _ (fun k_ => (P0_ k_ ∨ w.heap.size ≤ k_) ∧ some k_ ≠ (.slice (some ad214) l0.length co16 : Value).ownBlock) (fun _ => False) rfl rfl ?aO ?aR (fun _ _ h => h) (fun _ h => h.elim) ?aF ?aB ?aS ?aL ?_;(case aR => repeat (first | exact (by repeat (first | (with_reducible exact HR219.out) | (with_reducible refine Kd.C_alloc ?_ _) | (with_reducible refine Kd.C_drewN ?_ _) | (with_reducible refine Kd.C_drew ?_) | exact HR219.out)) | (with_reducible refine Kd.C_alloc ?_ _) | (with_reducible refine Kd.C_drewN ?_ _) | (with_reducible refine Kd.C_drew ?_)));(case aB => exact (by repeat (first | (with_reducible first | exact HB.out | apply below_alloc | apply pw_below_drewN | apply below_drew1) | exact HB.out)));(case aF => exact (fun k_ hk => ⟨(.inr (Nat.le_trans (by first | exact HK.out.1 | exact (show Kept w _ (fun k_ => P0_ k_) from by repeat (first | (with_reducible first | exact HK.out | apply Kept.alloc | apply Kept.drewN | apply Kept.drew) | exact HK.out)).1) hk)),Kd.fresh' (Kd.R_lt (by (with_reducible repeat (first | apply Kd.R_alloc | apply Kd.R_drewN | apply Kd.R_drew));exact HO_0.out)) k_ hk⟩));(case aO => exact ((Kd.R_nil _ _ _ _ (fun k_ => (P0_ k_ ∨ w.heap.size ≤ k_) ∧ some k_ ≠ (.slice (some ad214) l0.length co16 : Value).ownBlock))));(case aS => exact (below_size (by repeat (first | (with_reducible first | exact HB.out | apply below_alloc | apply pw_below_drewN | apply below_drew1) | exact HB.out))));(case aL => have:=LMc11.out;omega);intro v221 w18 ho hb hg hat;rw [← Ny220.out] at ho;have n0_:=Aside0.mk (Kd.R_after (Kd.R_apart_nil (by (with_reducible repeat (first | apply Kd.R_alloc | apply Kd.R_drewN | apply Kd.R_drew));exact HO_0.out)) hg hat);have n1_:=Aside0.mk (hb);have n2_:=Aside0.mk (Kept.of_grown (S:=(fun k_ => P0_ k_)) hg (by repeat (first | (with_reducible first | exact HK.out | apply Kept.alloc | apply Kept.drewN | apply Kept.drew) | exact HK.out)) (fun k_ e_ => by simp [Value.ownBlock] at e_));have n3_:=Aside0.mk ((show Kd.C (Kd.int .i64) w18 (some ad214) y216.length y216 from by rw [Ny216.out];exact Kd.C_take (m:=(x5_1 : Int).toNat) ((Kd.R_reads' (Kd.R_after (Kd.R_apart_nil (by (with_reducible repeat (first | apply Kd.R_alloc | apply Kd.R_drewN | apply Kd.R_drew));exact HO_0.out)) hg hat)).2.2) KL17.out));have n4_:=Aside0.mk (ho);clear HO_0;clear HB;clear HK;clear HR219;have HO_0:=n0_;have HB:=n1_;have HK:=n2_;have HR219:=n3_;have HO222:=n4_;clear n0_ n1_ n2_ n3_ n4_;clear ho hb hg hat) | ((with_reducible refine gate_builtin (b:=.append) (xs:=#[.tmp 39,.tmp 41]) rfl ?_);at_builtin;refine Kd.R_append (Kd.int .i64) (w0:=w0) w0.heap.size rfl (.tmp 39) (.tmp 41) 37 3 (.int .i64 0) 8 rfl Try.underlying37 info3 rfl (by decide) (by omega) v221 y220 a1 [.int .i64 a1] (fun k_ => (P0_ k_ ∨ w.heap.size ≤ k_) ∧ some k_ ≠ (.slice (some ad214) l0.length co16 : Value).ownBlock) (fun _ => False) rfl rfl ?aP (fun _ hk => hk.elim) ?aF ?aO ?aB ?aS ?aL ?_;(case aP => exact rfl);(case aB => exact (by repeat (first | (with_reducible first | exact HB.out | apply below_alloc | apply pw_below_drewN | apply below_drew1) | exact HB.out)));(case aF => exact (fun k_ hk => ⟨(.inr (Nat.le_trans (by first | exact HK.out.1 | exact (show Kept w _ (fun k_ => P0_ k_) from by repeat (first | (with_reducible first | exact HK.out | apply Kept.alloc | apply Kept.drewN | apply Kept.drew) | exact HK.out)).1) hk)),Kd.fresh' (Kd.R_lt (by (with_reducible repeat (first | apply Kd.R_alloc | apply Kd.R_drewN | apply Kd.R_drew));exact HO_0.out)) k_ hk⟩));(case aO => exact (by (with_reducible repeat (first | apply Kd.R_alloc | apply Kd.R_drewN | apply Kd.R_drew));exact HO222.out));(case aS => exact (below_size (by repeat (first | (with_reducible first | exact HB.out | apply below_alloc | apply pw_below_drewN | apply below_drew1) | exact HB.out))));(case aL => have:=LMc12.out;omega);intro v224 w19 ho hb hg hat;rw [← Ny223.out] at ho;have n0_:=Aside0.mk (Kd.R_after (ok:=(fun k_ => (P0_ k_ ∨ w.heap.size ≤ k_))) (by (with_reducible repeat (first | apply Kd.R_alloc | apply Kd.R_drewN | apply Kd.R_drew));exact HO_0.out) hg hat);have n1_:=Aside0.mk (hb);have n2_:=Aside0.mk (Kept.of_grown (S:=(fun k_ => P0_ k_)) hg (by repeat (first | (with_reducible first | exact HK.out | apply Kept.alloc | apply Kept.drewN | apply Kept.drew) | exact HK.out)) (fun k_ e_ => (HO222.out.1 k_ e_).1));have n3_:=Aside0.mk ((show Kd.C (Kd.int .i64) w19 (some ad214) y216.length y216 from by rw [Ny216.out];exact Kd.C_take (m:=(x5_1 : Int).toNat) ((Kd.R_reads' (Kd.R_after (ok:=(fun k_ => (P0_ k_ ∨ w.heap.size ≤ k_))) (by (with_reducible repeat (first | apply Kd.R_alloc | apply Kd.R_drewN | apply Kd.R_drew));exact HO_0.out) hg hat)).2.2) KL17.out));have n4_:=Aside0.mk (ho);clear HO_0;clear HB;clear HK;clear HR219;clear HO222;have HO_0:=n0_;have HB:=n1_;have HK:=n2_;have HR219:=n3_;have HO225:=n4_;clear n0_ n1_ n2_ n3_ n4_;clear ho hb hg hat;have q20 : (x5_1 : Int) ≤ ((l0.length : Int) : Int):=of_decide_eq_true (by first | (with_reducible assumption) | assumption);obtain ⟨i020,hi020,_,hsz20,_⟩:=info_parts info3;have hroom20 : l0.length ≤ co16:=(Kd.R_reads' HO_0.out).2.1;have hC20 : Kd.C (Kd.int .i64) _ (some ad214) l0.length l0:=(Kd.R_reads' HO_0.out).2.2;have q020 : (0 : Int) ≤ (x5_1 : Int):=of_decide_eq_true (by first | (with_reducible assumption) | assumption);have hcut20:=cut_from (P:=Try.prog) 37 3 .i64 Try.underlying37 hi020 1 hsz20 (some ad214) l0.length co16 x5_1 q020 q20;have hr20:=Kd.C_drop (m:=(x5_1 : Int).toNat) (c:=co16) hC20 (by omega) hroom20;obtain ⟨A20,hA20⟩ : ∃ A1,A1 = (if co16 = (x5_1 : Int).toNat then (some ad214) else ((some ad214) : Option Addr).map (·.add ((x5_1 : Int).toNat * 1))):=⟨_,rfl⟩;obtain ⟨c20,hc20⟩ : ∃ c1,c1 = co16 - (x5_1 : Int).toNat:=⟨_,rfl⟩;have hy20 : y226.length = l0.length - (x5_1 : Int).toNat:=(by rw [Ny226.out,List.length_drop] <;> omega);rw [show (l0).drop (x5_1 : Int).toNat = y226 from Ny226.out.symm] at hr20;replace hr20 : Kd.C (Kd.int .i64) _ A20 y226.length y226:=(by rw [hA20];exact hr20);rw [← hy20,← hA20,← hc20] at hcut20;have HR229:=Aside0.mk hr20;have HC229:=Aside0.mk (show y226.length ≤ c20 from by rw [hy20,hc20];exact Nat.sub_le_sub_right hroom20 _);clear hr20 hC20 hroom20 hi020 hsz20 hc20;have KY20:=Aside0.mk hy20;have KA20:=Aside0.mk hA20;clear hy20 hA20;have KL20:=Aside0.mk (show (x5_1 : Int).toNat ≤ l0.length from by omega);replace q20:=eq_true q20) | ((with_reducible refine gate_builtin (b:=.append) (xs:=#[.tmp 43,.tmp 46]) rfl ?_);at_builtin;refine Kd.R_append_rows (Kd.int .i64) (w0:=w0) w0.heap.size rfl (.tmp 43) (.tmp 46) 37 3 (.int .i64 0) 8 rfl Try.underlying37 info3 rfl (by decide) (by omega) v224 y223 y226 _ _ _ (fun k_ => (P0_ k_ ∨ w.heap.size ≤ k_) ∧ some k_ ≠ (.slice (some ad214) l0.length co16 : Value).ownBlock) (fun _ => False) rfl rfl ?aO ?aR (fun _ _ h => h) (fun _ h => h.elim) ?aF ?aB ?aS ?aL ?_;(case aR => repeat (first | exact (by repeat (first | (with_reducible exact HR229.out) | (with_reducible refine Kd.C_alloc ?_ _) | (with_reducible refine Kd.C_drewN ?_ _) | (with_reducible refine Kd.C_drew ?_) | exact HR229.out)) | (with_reducible refine Kd.C_alloc ?_ _) | (with_reducible refine Kd.C_drewN ?_ _) | (with_reducible refine Kd.C_drew ?_)));(case aB => exact (by repeat (first | (with_reducible first | exact HB.out | apply below_alloc | apply pw_below_drewN | apply below_drew1) | exact HB.out)));(case aF => exact (fun k_ hk => ⟨(.inr (Nat.le_trans (by first | exact HK.out.1 | exact (show Kept w _ (fun k_ => P0_ k_) from by repeat (first | (with_reducible first | exact HK.out | apply Kept.alloc | apply Kept.drewN | apply Kept.drew) | exact HK.out)).1) hk)),Kd.fresh' (Kd.R_lt (by (with_reducible repeat (first | apply Kd.R_alloc | apply Kd.R_drewN | apply Kd.R_drew));exact HO_0.out)) k_ hk⟩));(case aO => exact (by (with_reducible repeat (first | apply Kd.R_alloc | apply Kd.R_drewN | apply Kd.R_drew));exact HO225.out));(case aS => exact (below_size (by repeat (first | (with_reducible first | exact HB.out | apply below_alloc | apply pw_below_drewN | apply below_drew1) | exact HB.out))));(case aL => have:=LMc15.out;omega);intro v231 w21 ho hb hg hat;rw [← Ny230.out] at ho;have n0_:=Aside0.mk (Kd.R_after (ok:=(fun k_ => (P0_ k_ ∨ w.heap.size ≤ k_))) (by (with_reducible repeat (first | apply Kd.R_alloc | apply Kd.R_drewN | apply Kd.R_drew));exact HO_0.out) hg hat);have n1_:=Aside0.mk (hb);have n2_:=Aside0.mk (Kept.of_grown (S:=(fun k_ => P0_ k_)) hg (by repeat (first | (with_reducible first | exact HK.out | apply Kept.alloc | apply Kept.drewN | apply Kept.drew) | exact HK.out)) (fun k_ e_ => (HO225.out.1 k_ e_).1));have n3_:=Aside0.mk ((show Kd.C (Kd.int .i64) w21 (some ad214) y216.length y216 from by rw [Ny216.out];exact Kd.C_take (m:=(x5_1 : Int).toNat) ((Kd.R_reads' (Kd.R_after (ok:=(fun k_ => (P0_ k_ ∨ w.heap.size ≤ k_))) (by (with_reducible repeat (first | apply Kd.R_alloc | apply Kd.R_drewN | apply Kd.R_drew));exact HO_0.out) hg hat)).2.2) KL17.out));have n4_:=Aside0.mk ((show Kd.C (Kd.int .i64) w21 A20 y226.length y226 from by rw [Ny226.out,KA20.out];exact Kd.C_drop (m:=(x5_1 : Int).toNat) (c:=co16) ((Kd.R_reads' (Kd.R_after (ok:=(fun k_ => (P0_ k_ ∨ w.heap.size ≤ k_))) (by (with_reducible repeat (first | apply Kd.R_alloc | apply Kd.R_drewN | apply Kd.R_drew));exact HO_0.out) hg hat)).2.2) KL20.out ((Kd.R_reads' (Kd.R_after (ok:=(fun k_ => (P0_ k_ ∨ w.heap.size ≤ k_))) (by (with_reducible repeat (first | apply Kd.R_alloc | apply Kd.R_drewN | apply Kd.R_drew));exact HO_0.out) hg hat)).2.1)));have n5_:=Aside0.mk (ho);clear HO_0;clear HB;clear HK;clear HR219;clear HR229;clear HO225;have HO_0:=n0_;have HB:=n1_;have HK:=n2_;have HR219:=n3_;have HR229:=n4_;have HO232:=n5_;clear n0_ n1_ n2_ n3_ n4_ n5_;clear ho hb hg hat))
           go_ret
           exact ⟨_,by first | rfl | (simp [errW_none,errW_some] <;> rfl) | (simp [*,errW_none,errW_some] <;> rfl),by (with_reducible repeat (first | apply Kd.R_alloc | apply Kd.R_drewN | apply Kd.R_drew));exact Kd.R_mono HO232.out (fun _ hk => hk.1),by repeat (first | (with_reducible first | exact HB.out | apply below_alloc | apply pw_below_drewN | apply below_drew1) | exact HB.out),by repeat (first | (with_reducible first | exact HK.out | apply Kept.alloc | apply Kept.drewN | apply Kept.drew) | exact HK.out)⟩
          ·rw [if_neg c15] at H
           exact absurd H (by simp)
         ·rw [if_neg c12] at H
          exact absurd H (by simp)
        ·rw [if_neg c11] at H
         exact absurd H (by simp)
       ·rw [if_neg c10] at H
        exact absurd H (by simp)
    ·rw [if_neg c4] at H
     exact absurd H (by simp)
   ·rw [if_neg c3] at H
    have c3b0 : decide (x5_1 < (l0.length : Int)) = false:=decide_eq_false c3
    clear c3
    by_cases c22 : 0 ≤ x5_1
    ·rw [if_pos c22] at H
     have c22b0:=eq_true c22
     have c22b1 : decide (0 ≤ x5_1) = true:=decide_eq_true c22
     clear c22
     by_cases c23 : x5_1 ≤ (l0.length : Int)
     ·rw [if_pos c23] at H
      have c23b0:=eq_true c23
      have c23b1 : decide (x5_1 ≤ (l0.length : Int)) = true:=decide_eq_true c23
      clear c23
      obtain ⟨y233,hy233⟩ : ∃ y_ : List Int,y_ = (l0.take (x5_1 : Int).toNat):=⟨_,rfl⟩
      replace H : (if ([] : List Int).length + y233.length < 17592186044416 then ((some (([] : List Int) ++ y233 : List Int)).bind fun y237 => (if y237.length < 17592186044416 then ((some (y237 ++ [a1] : List Int)).bind fun y240 => ((some (l0.drop (x5_1 : Int).toNat : List Int)).bind fun y243 => (if y240.length + y243.length < 17592186044416 then (some (y240 ++ y243)) else (none)))) else (none))) else (none)) = some r:=by first | (rw [hy233];with_reducible exact H) | (have H2_:=(Option.bind_some _ _).symm.trans H;rw [hy233];with_reducible exact H2_) | (have H2_:=(Option.bind_some _ _).symm.trans H;with_reducible exact H2_) | with_reducible exact H | (rw [hy233];exact H) | exact H
      have Ny233:=Aside0.mk hy233
      clear hy233
      by_cases c24 : ([] : List Int).length + y233.length < 17592186044416
      ·rw [if_pos c24] at H
       have LMc24:=Aside0.mk c24
       clear c24
       obtain ⟨y237,hy237⟩ : ∃ y_ : List Int,y_ = (([] : List Int) ++ y233):=⟨_,rfl⟩
       replace H : (if y237.length < 17592186044416 then ((some (y237 ++ [a1] : List Int)).bind fun y240 => ((some (l0.drop (x5_1 : Int).toNat : List Int)).bind fun y243 => (if y240.length + y243.length < 17592186044416 then (some (y240 ++ y243)) else (none)))) else (none)) = some r:=by first | (rw [hy237];with_reducible exact H) | (have H2_:=(Option.bind_some _ _).symm.trans H;rw [hy237];with_reducible exact H2_) | (have H2_:=(Option.bind_some _ _).symm.trans H;with_reducible exact H2_) | with_reducible exact H | (rw [hy237];exact H) | exact H
       have Ny237:=Aside0.mk hy237
       clear hy237
       by_cases c25 : y237.length < 17592186044416
       ·rw [if_pos c25] at H
        have LMc25:=Aside0.mk c25
        clear c25
        obtain ⟨y240,hy240⟩ : ∃ y_ : List Int,y_ = (y237 ++ [a1]):=⟨_,rfl⟩
        replace H : ((some (l0.drop (x5_1 : Int).toNat : List Int)).bind fun y243 => (if y240.length + y243.length < 17592186044416 then (some (y240 ++ y243)) else (none))) = some r:=by first | (rw [hy240];with_reducible exact H) | (have H2_:=(Option.bind_some _ _).symm.trans H;rw [hy240];with_reducible exact H2_) | (have H2_:=(Option.bind_some _ _).symm.trans H;with_reducible exact H2_) | with_reducible exact H | (rw [hy240];exact H) | exact H
        have Ny240:=Aside0.mk hy240
        clear hy240
        have c26b0:=eq_true (of_decide_eq_true (by first | (with_reducible assumption) | assumption) : 0 ≤ x5_1)
        have c27b0:=eq_true (of_decide_eq_true (by first | (with_reducible assumption) | assumption) : x5_1 ≤ (l0.length : Int))
        obtain ⟨y243,hy243⟩ : ∃ y_ : List Int,y_ = (l0.drop (x5_1 : Int).toNat):=⟨_,rfl⟩
        replace H : (if y240.length + y243.length < 17592186044416 then (some (y240 ++ y243)) else (none)) = some r:=by first | (rw [hy243];with_reducible exact H) | (have H2_:=(Option.bind_some _ _).symm.trans H;rw [hy243];with_reducible exact H2_) | (have H2_:=(Option.bind_some _ _).symm.trans H;with_reducible exact H2_) | with_reducible exact H | (rw [hy243];exact H) | exact H
        have Ny243:=Aside0.mk hy243
        clear hy243
        by_cases c28 : y240.length + y243.length < 17592186044416
        ·rw [if_pos c28] at H
         have LMc28:=Aside0.mk c28
         clear c28
         obtain ⟨y247,hy247⟩ : ∃ y_ : List Int,y_ = (y240 ++ y243):=⟨_,rfl⟩
         replace H : (some y247) = some r:=by first | (rw [hy247];with_reducible exact H) | (have H2_:=(Option.bind_some _ _).symm.trans H;rw [hy247];with_reducible exact H2_) | (have H2_:=(Option.bind_some _ _).symm.trans H;with_reducible exact H2_) | with_reducible exact H | (rw [hy247];exact H) | exact H
         have Ny247:=Aside0.mk hy247
         clear hy247
         obtain rfl:=Option.some.inj H
         obtain ⟨Ao29,co29,eo29⟩:=Kd.R_slice HO_0.out
         subst eo29
         have q30 : (x5_1 : Int) ≤ ((l0.length : Int) : Int):=of_decide_eq_true (by first | (with_reducible assumption) | assumption)
         obtain ⟨i030,hi030,_,hsz30,_⟩:=info_parts info3
         have hroom30 : l0.length ≤ co29:=(Kd.R_reads' HO_0.out).2.1
         have hC30 : Kd.C (Kd.int .i64) _ Ao29 l0.length l0:=(Kd.R_reads' HO_0.out).2.2
         have hcut30:=cut_to (P:=Try.prog) 37 3 .i64 Try.underlying37 hi030 Ao29 l0.length co29 x5_1 (of_decide_eq_true (by first | (with_reducible assumption) | assumption)) q30 hroom30
         have hr30:=Kd.C_take (m:=(x5_1 : Int).toNat) hC30 (by omega)
         have hy30 : y233.length = (x5_1 : Int).toNat:=(by rw [Ny233.out,List.length_take];omega)
         rw [← Ny233.out] at hr30
         rw [← hy30] at hcut30
         have HR236:=Aside0.mk hr30
         have HC236:=Aside0.mk (show y233.length ≤ co29 from by omega)
         clear hr30 hC30 hroom30 hi030 hsz30
         have KY30:=Aside0.mk hy30
         clear hy30
         have KL30:=Aside0.mk (show (x5_1 : Int).toNat ≤ l0.length from by omega)
         replace q30:=eq_true q30
         go_wp2_with (first | ((with_reducible refine gate_builtin (b:=.append) (xs:=#[.tmp 34,.tmp 37]) rfl ?_);at_builtin;refine Kd.R_append_rows (Kd.int .i64) (w0:=w0) w0.heap.size rfl (.tmp 34) (.tmp 37) 37 3 (.int .i64 0) 8 rfl Try.underlying37 info3 rfl (by decide) (by omega) (.slice none 0 0) ([] : List Int) y233 _ _ _ (fun k_ => (P0_ k_ ∨ w.heap.size ≤ k_) ∧ some k_ ≠ (.slice Ao29 l0.length co29 : Value).ownBlock) (fun _ => False) rfl rfl ?aO ?aR (fun _ _ h => h) (fun _ h => h.elim) ?aF ?aB ?aS ?aL ?_;(case aR => repeat (first | exact (by repeat (first | (with_reducible exact HR236.out) | (with_reducible refine Kd.C_alloc ?_ _) | (with_reducible refine Kd.C_drewN ?_ _) | (with_reducible refine Kd.C_drew ?_) | exact HR236.out)) | (with_reducible refine Kd.C_alloc ?_ _) | (with_reducible refine Kd.C_drewN ?_ _) | (with_reducible refine Kd.C_drew ?_)));(case aB => exact (by repeat (first | (with_reducible first | exact HB.out | apply below_alloc | apply pw_below_drewN | apply below_drew1) | exact HB.out)));(case aF => exact (fun k_ hk => ⟨(.inr (Nat.le_trans (by first | exact HK.out.1 | exact (show Kept w _ (fun k_ => P0_ k_) from by repeat (first | (with_reducible first | exact HK.out | apply Kept.alloc | apply Kept.drewN | apply Kept.drew) | exact HK.out)).1) hk)),Kd.fresh' (Kd.R_lt (by (with_reducible repeat (first | apply Kd.R_alloc | apply Kd.R_drewN | apply Kd.R_drew));exact HO_0.out)) k_ hk⟩));(case aO => exact ((Kd.R_nil _ _ _ _ (fun k_ => (P0_ k_ ∨ w.heap.size ≤ k_) ∧ some k_ ≠ (.slice Ao29 l0.length co29 : Value).ownBlock))));(case aS => exact (below_size (by repeat (first | (with_reducible first | exact HB.out | apply below_alloc | apply pw_below_drewN | apply below_drew1) | exact HB.out))));(case aL => have:=LMc24.out;omega);intro v238 w31 ho hb hg hat;rw [← Ny237.out] at ho;have n0_:=Aside0.mk (Kd.R_after (Kd.R_apart_nil (by (with_reducible repeat (first | apply Kd.R_alloc | apply Kd.R_drewN | apply Kd.R_drew));exact HO_0.out)) hg hat);have n1_:=Aside0.mk (hb);have n2_:=Aside0.mk (Kept.of_grown (S:=(fun k_ => P0_ k_)) hg (by repeat (first | (with_reducible first | exact HK.out | apply Kept.alloc | apply Kept.drewN | apply Kept.drew) | exact HK.out)) (fun k_ e_ => by simp [Value.ownBlock] at e_));have n3_:=Aside0.mk ((show Kd.C (Kd.int .i64) w31 Ao29 y233.length y233 from by rw [Ny233.out];exact Kd.C_take (m:=(x5_1 : Int).toNat) ((Kd.R_reads' (Kd.R_after (Kd.R_apart_nil (by (with_reducible repeat (first | apply Kd.R_alloc | apply Kd.R_drewN | apply Kd.R_drew));exact HO_0.out)) hg hat)).2.2) KL30.out));have n4_:=Aside0.mk (ho);clear HO_0;clear HB;clear HK;clear HR236;have HO_0:=n0_;have HB:=n1_;have HK:=n2_;have HR236:=n3_;have HO239:=n4_;clear n0_ n1_ n2_ n3_ n4_;clear ho hb hg hat) | ((with_reducible refine gate_builtin (b:=.append) (xs:=#[.tmp 39,.tmp 41]) rfl ?_);at_builtin;refine Kd.R_append (Kd.int .i64) (w0:=w0) w0.heap.size rfl (.tmp 39) (.tmp 41) 37 3 (.int .i64 0) 8 rfl Try.underlying37 info3 rfl (by decide) (by omega) v238 y237 a1 [.int .i64 a1] (fun k_ => (P0_ k_ ∨ w.heap.size ≤ k_) ∧ some k_ ≠ (.slice Ao29 l0.length co29 : Value).ownBlock) (fun _ => False) rfl rfl ?aP (fun _ hk => hk.elim) ?aF ?aO ?aB ?aS ?aL ?_;(case aP => exact rfl);(case aB => exact (by repeat (first | (with_reducible first | exact HB.out | apply below_alloc | apply pw_below_drewN | apply below_drew1) | exact HB.out)));(case aF => exact (fun k_ hk => ⟨(.inr (Nat.le_trans (by first | exact HK.out.1 | exact (show Kept w _ (fun k_ => P0_ k_) from by repeat (first | (with_reducible first | exact HK.out | apply Kept.alloc | apply Kept.drewN | apply Kept.drew) | exact HK.out)).1) hk)),Kd.fresh' (Kd.R_lt (by (with_reducible repeat (first | apply Kd.R_alloc | apply Kd.R_drewN | apply Kd.R_drew));exact HO_0.out)) k_ hk⟩));(case aO => exact (by (with_reducible repeat (first | apply Kd.R_alloc | apply Kd.R_drewN | apply Kd.R_drew));exact HO239.out));(case aS => exact (below_size (by repeat (first | (with_reducible first | exact HB.out | apply below_alloc | apply pw_below_drewN | apply below_drew1) | exact HB.out))));(case aL => have:=LMc25.out;omega);intro v241 w32 ho hb hg hat;rw [← Ny240.out] at ho;have n0_:=Aside0.mk (Kd.R_after (ok:=(fun k_ => (P0_ k_ ∨ w.heap.size ≤ k_))) (by (with_reducible repeat (first | apply Kd.R_alloc | apply Kd.R_drewN | apply Kd.R_drew));exact HO_0.out) hg hat);have n1_:=Aside0.mk (hb);have n2_:=Aside0.mk (Kept.of_grown (S:=(fun k_ => P0_ k_)) hg (by repeat (first | (with_reducible first | exact HK.out | apply Kept.alloc | apply Kept.drewN | apply Kept.drew) | exact HK.out)) (fun k_ e_ => (HO239.out.1 k_ e_).1));have n3_:=Aside0.mk ((show Kd.C (Kd.int .i64) w32 Ao29 y233.length y233 from by rw [Ny233.out];exact Kd.C_take (m:=(x5_1 : Int).toNat) ((Kd.R_reads' (Kd.R_after (ok:=(fun k_ => (P0_ k_ ∨ w.heap.size ≤ k_))) (by (with_reducible repeat (first | apply Kd.R_alloc | apply Kd.R_drewN | apply Kd.R_drew));exact HO_0.out) hg hat)).2.2) KL30.out));have n4_:=Aside0.mk (ho);clear HO_0;clear HB;clear HK;clear HR236;clear HO239;have HO_0:=n0_;have HB:=n1_;have HK:=n2_;have HR236:=n3_;have HO242:=n4_;clear n0_ n1_ n2_ n3_ n4_;clear ho hb hg hat;have q33 : (x5_1 : Int) ≤ ((l0.length : Int) : Int):=of_decide_eq_true (by first | (with_reducible assumption) | assumption);obtain ⟨i033,hi033,_,hsz33,_⟩:=info_parts info3;have hroom33 : l0.length ≤ co29:=(Kd.R_reads' HO_0.out).2.1;have hC33 : Kd.C (Kd.int .i64) _ Ao29 l0.length l0:=(Kd.R_reads' HO_0.out).2.2;have q033 : (0 : Int) ≤ (x5_1 : Int):=of_decide_eq_true (by first | (with_reducible assumption) | assumption);have hcut33:=cut_from (P:=Try.prog) 37 3 .i64 Try.underlying37 hi033 1 hsz33 Ao29 l0.length co29 x5_1 q033 q33;have hr33:=Kd.C_drop (m:=(x5_1 : Int).toNat) (c:=co29) hC33 (by omega) hroom33;obtain ⟨A33,hA33⟩ : ∃ A1,A1 = (if co29 = (x5_1 : Int).toNat then Ao29 else (Ao29 : Option Addr).map (·.add ((x5_1 : Int).toNat * 1))):=⟨_,rfl⟩;obtain ⟨c33,hc33⟩ : ∃ c1,c1 = co29 - (x5_1 : Int).toNat:=⟨_,rfl⟩;have hy33 : y243.length = l0.length - (x5_1 : Int).toNat:=(by rw [Ny243.out,List.length_drop] <;> omega);rw [show (l0).drop (x5_1 : Int).toNat = y243 from Ny243.out.symm] at hr33;replace hr33 : Kd.C (Kd.int .i64) _ A33 y243.length y243:=(by rw [hA33];exact hr33);rw [← hy33,← hA33,← hc33] at hcut33;have HR246:=Aside0.mk hr33;have HC246:=Aside0.mk (show y243.length ≤ c33 from by rw [hy33,hc33];exact Nat.sub_le_sub_right hroom33 _);clear hr33 hC33 hroom33 hi033 hsz33 hc33;have KY33:=Aside0.mk hy33;have KA33:=Aside0.mk hA33;clear hy33 hA33;have KL33:=Aside0.mk (show (x5_1 : Int).toNat ≤ l0.length from by omega);replace q33:=eq_true q33) | ((with_reducible refine gate_builtin (b:=.append) (xs:=#[.tmp 43,.tmp 46]) rfl ?_);at_builtin;refine Kd.R_append_rows (Kd.int .i64) (w0:=w0) w0.heap.size rfl (.tmp 43) (.tmp 46) 37 3 (.int .i64 0) 8 rfl Try.underlying37 info3 rfl (by decide) (by omega) v241 y240 y243 _ _ _ (fun k_ => (P0_ k_ ∨ w.heap.size ≤ k_) ∧ some k_ ≠ (.slice Ao29 l0.length co29 : Value).ownBlock) (fun _ => False) rfl rfl ?aO ?aR (fun _ _ h => h) (fun _ h => h.elim) ?aF ?aB ?aS ?aL ?_;(case aR => repeat (first | exact (by repeat (first | (with_reducible exact HR246.out) | (with_reducible refine Kd.C_alloc ?_ _) | (with_reducible refine Kd.C_drewN ?_ _) | (with_reducible refine Kd.C_drew ?_) | exact HR246.out)) | (with_reducible refine Kd.C_alloc ?_ _) | (with_reducible refine Kd.C_drewN ?_ _) | (with_reducible refine Kd.C_drew ?_)));(case aB => exact (by repeat (first | (with_reducible first | exact HB.out | apply below_alloc | apply pw_below_drewN | apply below_drew1) | exact HB.out)));(case aF => exact (fun k_ hk => ⟨(.inr (Nat.le_trans (by first | exact HK.out.1 | exact (show Kept w _ (fun k_ => P0_ k_) from by repeat (first | (with_reducible first | exact HK.out | apply Kept.alloc | apply Kept.drewN | apply Kept.drew) | exact HK.out)).1) hk)),Kd.fresh' (Kd.R_lt (by (with_reducible repeat (first | apply Kd.R_alloc | apply Kd.R_drewN | apply Kd.R_drew));exact HO_0.out)) k_ hk⟩));(case aO => exact (by (with_reducible repeat (first | apply Kd.R_alloc | apply Kd.R_drewN | apply Kd.R_drew));exact HO242.out));(case aS => exact (below_size (by repeat (first | (with_reducible first | exact HB.out | apply below_alloc | apply pw_below_drewN | apply below_drew1) | exact HB.out))));(case aL => have:=LMc28.out;omega);intro v248 w34 ho hb hg hat;rw [← Ny247.out] at ho;have n0_:=Aside0.mk (Kd.R_after (ok:=(fun k_ => (P0_ k_ ∨ w.heap.size ≤ k_))) (by (with_reducible repeat (first | apply Kd.R_alloc | apply Kd.R_drewN | apply Kd.R_drew));exact HO_0.out) hg hat);have n1_:=Aside0.mk (hb);have n2_:=Aside0.mk (Kept.of_grown (S:=(fun k_ => P0_ k_)) hg (by repeat (first | (with_reducible first | exact HK.out | apply Kept.alloc | apply Kept.drewN | apply Kept.drew) | exact HK.out)) (fun k_ e_ => (HO242.out.1 k_ e_).1));have n3_:=Aside0.mk ((show Kd.C (Kd.int .i64) w34 Ao29 y233.length y233 from by rw [Ny233.out];exact Kd.C_take (m:=(x5_1 : Int).toNat) ((Kd.R_reads' (Kd.R_after (ok:=(fun k_ => (P0_ k_ ∨ w.heap.size ≤ k_))) (by (with_reducible repeat (first | apply Kd.R_alloc | apply Kd.R_drewN | apply Kd.R_drew));exact HO_0.out) hg hat)).2.2) KL30.out));have n4_:=Aside0.mk ((show Kd.C (Kd.int .i64) w34 A33 y243.length y243 from by rw [Ny243.out,KA33.out];exact Kd.C_drop (m:=(x5_1 : Int).toNat) (c:=co29) ((Kd.R_reads' (Kd.R_after (ok:=(fun k_ => (P0_ k_ ∨ w.heap.size ≤ k_))) (by (with_reducible repeat (first | apply Kd.R_alloc | apply Kd.R_drewN | apply Kd.R_drew));exact HO_0.out) hg hat)).2.2) KL33.out ((Kd.R_reads' (Kd.R_after (ok:=(fun k_ => (P0_ k_ ∨ w.heap.size ≤ k_))) (by (with_reducible repeat (first | apply Kd.R_alloc | apply Kd.R_drewN | apply Kd.R_drew));exact HO_0.out) hg hat)).2.1)));have n5_:=Aside0.mk (ho);clear HO_0;clear HB;clear HK;clear HR236;clear HR246;clear HO242;have HO_0:=n0_;have HB:=n1_;have HK:=n2_;have HR236:=n3_;have HR246:=n4_;have HO249:=n5_;clear n0_ n1_ n2_ n3_ n4_ n5_;clear ho hb hg hat))
         go_ret
         exact ⟨_,by first | rfl | (simp [errW_none,errW_some] <;> rfl) | (simp [*,errW_none,errW_some] <;> rfl),by (with_reducible repeat (first | apply Kd.R_alloc | apply Kd.R_drewN | apply Kd.R_drew));exact Kd.R_mono HO249.out (fun _ hk => hk.1),by repeat (first | (with_reducible first | exact HB.out | apply below_alloc | apply pw_below_drewN | apply below_drew1) | exact HB.out),by repeat (first | (with_reducible first | exact HK.out | apply Kept.alloc | apply Kept.drewN | apply Kept.drew) | exact HK.out)⟩
        ·rw [if_neg c28] at H
         exact absurd H (by simp)
       ·rw [if_neg c25] at H
        exact absurd H (by simp)
      ·rw [if_neg c24] at H
       exact absurd H (by simp)
     ·rw [if_neg c23] at H
      exact absurd H (by simp)
    ·rw [if_neg c22] at H
     exact absurd H (by simp)

/-! ### spec_l1Has: function 78 -/
def spec_l1Has.l0 : Nat → Int → List Int → Int → Int → Option (Bool)
 | 0,_,_,_,_ => none
 | k + 1,x1,x7,x8,x9 => if x9 < x8 then (if 0 ≤ x9 then (if x9 < (x7.length : Int) then (if (rd x7 x9) = x1 then (some true) else (spec_l1Has.l0 k x1 x7 x8 (wrap64 (x9 + 1)))) else (none)) else (none)) else (some false)
def spec_l1Has.f (k : Nat) (l0 : List Int) (a1 : Int) : Option (Bool):=spec_l1Has.l0 k a1 l0 (l0.length : Int) 0
theorem spec_l1Has.mono_l : ∀ k,(∀ y0 y1 y2 y3,LeO (spec_l1Has.l0 k y0 y1 y2 y3) (spec_l1Has.l0 (k + 1) y0 y1 y2 y3))
 | 0 => fun _ _ _ _ r h => by simp [spec_l1Has.l0] at h
 | k + 1 => by
  have ih0:=spec_l1Has.mono_l k
  ·intro y0 y1 y2 y3
   unfold spec_l1Has.l0
   repeat' first
   | (with_reducible exact ih0 _ _ _ _)
   | (with_reducible exact LeO.refl _)
   | (with_reducible exact LeO.none _)
   | (with_reducible refine LeO.ite ?_ ?_)
   | (with_reducible refine LeO.bind ?_ (fun _ => ?_))
   | exact ih0 _ _ _ _
   | exact LeO.none _
   | refine LeO.ite ?_ ?_
   | refine LeO.bind ?_ (fun _ => ?_)
theorem spec_l1Has.mono : ∀ a0 a1 k,LeO (spec_l1Has.f k a0 a1) (spec_l1Has.f (k + 1) a0 a1):=by
 intro a0 a1 k
 have ih0:=spec_l1Has.mono_l k
 unfold spec_l1Has.f
 repeat' first
   | (with_reducible exact ih0 _ _ _ _)
   | (with_reducible exact LeO.refl _)
   | (with_reducible exact LeO.none _)
   | (with_reducible refine LeO.ite ?_ ?_)
   | (with_reducible refine LeO.bind ?_ (fun _ => ?_))
   | exact ih0 _ _ _ _
   | exact LeO.none _
   | refine LeO.ite ?_ ?_
   | refine LeO.bind ?_ (fun _ => ?_)
set_option maxHeartbeats 8000000 in
set_option maxRecDepth 100000 in
theorem spec_l1Has.calls (k : Nat) (A0 : Option Addr) (c0 : Nat) (l0 : List Int) (a1 : Int) (r : Bool) (w : World) (hr0 : Kd.C (Kd.int .i64) w A0 l0.length l0) (hc0 : l0.length ≤ c0) (h : spec_l1Has.f k l0 a1 = some r) :
  Calls Try.prog 78 #[.slice A0 l0.length c0,.int .i64 a1] w fun e w' => e = .returned (.bool r) ∧ Drawn0 w w':=by
 have HR0:=Aside0.mk hr0
 have HC0:=Aside0.mk hc0
 clear hr0 hc0
 have H : (spec_l1Has.l0 k a1 l0 (l0.length : Int) 0) = some r:=h
 clear h
 have H':=Aside0.mk H
 clear H
 go_enter Try.func78,Try.ntmps78
 go_wp2
 go_loopg [9] k (fun kq v9 w' => ∃ (x9_1 : Int),v9 = .int .i64 x9_1 ∧ Aside0 (spec_l1Has.l0 kq a1 l0 (l0.length : Int) x9_1 = some r) ∧ Aside0 (kq ≤ k) ∧ Drawn0 w w')
 case atStart => exact ⟨(0),(by first | rfl | (simp;done) | (simp [*];done)),H',⟨Nat.le_refl _⟩,by repeat (first | exact Drawn0.refl _ | apply Drawn0.step)⟩
 case round =>
  clear H'
  try clear p2
  obtain ⟨x9_1,rfl,HA,HK1,⟨m1,rfl⟩⟩:=hrel
  cases gk with
  | zero => exact absurd HA.out (by simp [spec_l1Has.l0])
  | succ k1 =>
   have H:=HA.out
   clear HA
   simp only [spec_l1Has.l0] at H
   by_cases c3 : x9_1 < (l0.length : Int)
   ·rw [if_pos c3] at H
    have c3b0 : decide (x9_1 < (l0.length : Int)) = true:=decide_eq_true c3
    clear c3
    by_cases c4 : 0 ≤ x9_1
    ·rw [if_pos c4] at H
     have c4b0 : decide (0 ≤ x9_1) = true:=decide_eq_true c4
     clear c4
     by_cases c5 : x9_1 < (l0.length : Int)
     ·rw [if_pos c5] at H
      have c5b0 : decide (x9_1 < (l0.length : Int)) = true:=decide_eq_true c5
      clear c5
      by_cases c6 : (rd l0 x9_1) = a1
      ·rw [if_pos c6] at H
       have c6b0 : ((rd l0 x9_1) == a1) = true:=beq_iff_eq.mpr c6
       have c6b1 : ((rd l0 x9_1) != a1) = false:=bne_eq_false_iff_eq.mpr c6
       clear c6
       obtain rfl:=Option.some.inj H
       have p250 : 0 ≤ (x9_1 : Int):=of_decide_eq_true (by first | (with_reducible assumption) | assumption)
       have q250 : x9_1 < (l0.length : Int):=of_decide_eq_true (by first | (with_reducible assumption) | assumption)
       obtain ⟨ad250,e250,hx250_0⟩:=Kd.at_int HR0.out x9_1 p250 q250
       cases e250
       replace p250:=eq_true p250
       replace q250:=eq_true q250
       go_wp2
       go_ret
       exact ⟨by first | rfl | (simp;done) | (simp [*];done),by repeat (first | exact Drawn0.refl _ | apply Drawn0.step)⟩
      ·rw [if_neg c6] at H
       have c6b0 : ((rd l0 x9_1) == a1) = false:=beq_eq_false_iff_ne.mpr c6
       have c6b1 : ((rd l0 x9_1) != a1) = true:=bne_iff_ne.mpr c6
       have H':=Aside0.mk H
       clear H
       have p250 : 0 ≤ (x9_1 : Int):=of_decide_eq_true (by first | (with_reducible assumption) | assumption)
       have q250 : x9_1 < (l0.length : Int):=of_decide_eq_true (by first | (with_reducible assumption) | assumption)
       obtain ⟨ad250,e250,hx250_0⟩:=Kd.at_int HR0.out x9_1 p250 q250
       cases e250
       replace p250:=eq_true p250
       replace q250:=eq_true q250
       go_wp2
       go_roundg k1
       case measure => have:=HK1.out;omega
       case rel => exact ⟨(wrap64 (x9_1 + 1)),(by first | rfl | (simp;done) | (simp [*];done)),H',⟨by have:=HK1.out;omega⟩,by repeat (first | exact Drawn0.refl _ | apply Drawn0.step)⟩
     ·rw [if_neg c5] at H
      exact absurd H (by simp)
    ·rw [if_neg c4] at H
     exact absurd H (by simp)
   ·rw [if_neg c3] at H
    have c3b0 : decide (x9_1 < (l0.length : Int)) = false:=decide_eq_false c3
    clear c3
    obtain rfl:=Option.some.inj H
    go_wp2
    go_ret
    exact ⟨by first | rfl | (simp;done) | (simp [*];done),by repeat (first | exact Drawn0.refl _ | apply Drawn0.step)⟩

end Go.Proofs.Ythgkhfhfahifmaa.Q
