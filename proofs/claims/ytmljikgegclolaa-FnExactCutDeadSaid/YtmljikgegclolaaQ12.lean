-- WRITTEN BY A PROGRAM OF THIS SESSION
import Derived.Test.YtmljikgegclolaaQ0
import Derived.Test.YtmljikgegclolaaQ10
import Derived.Test.YtmljikgegclolaaQ11
namespace Go.Proofs.Ytmljikgegclolaa.Q
open Go.RowKit Go.Proofs.YtmljikgegclolaaW.PrintWords Go.Proofs.YtmljikgegclolaaW.PrintLast Go.Proofs.YtmljikgegclolaaW.PrintMore
attribute [local go_sem] max2_int min2_int max_two min_two max_three min_three max_four min_four   -- for this text's walks alone
set_option linter.unusedVariables false
set_option linter.unusedSimpArgs false

/-! ### slices_ContainsFunc_impl_Step__impl_shapeOf_1: function 124 -/
def slices_ContainsFunc_impl_Step__impl_shapeOf_1.f (k : Nat) (l0 : List (S56))  : Option (Bool):=(slices_IndexFunc_impl_Step__impl_shapeOf_1.f k l0).bind fun t302 => (some (decide (t302 ≥ 0)))
theorem slices_ContainsFunc_impl_Step__impl_shapeOf_1.mono : ∀ a0 k,LeO (slices_ContainsFunc_impl_Step__impl_shapeOf_1.f k a0) (slices_ContainsFunc_impl_Step__impl_shapeOf_1.f (k + 1) a0):=by
 intro a0 k
 unfold slices_ContainsFunc_impl_Step__impl_shapeOf_1.f
 repeat' first
   | (with_reducible exact slices_IndexFunc_impl_Step__impl_shapeOf_1.mono _ _)
   | (with_reducible exact LeO.refl _)
   | (with_reducible exact LeO.none _)
   | (with_reducible refine LeO.ite ?_ ?_)
   | (with_reducible refine LeO.bind ?_ (fun _ => ?_))
   | exact slices_IndexFunc_impl_Step__impl_shapeOf_1.mono _ _
   | exact LeO.none _
   | refine LeO.ite ?_ ?_
   | refine LeO.bind ?_ (fun _ => ?_)
set_option maxHeartbeats 8000000 in
set_option maxRecDepth 100000 in
theorem slices_ContainsFunc_impl_Step__impl_shapeOf_1.calls (k : Nat) (A0 : Option Addr) (c0 : Nat) (l0 : List (S56))  (r : Bool) (w : World) (hr0 : Kd.C k56 w A0 l0.length l0) (hc0 : l0.length ≤ c0) (h : slices_ContainsFunc_impl_Step__impl_shapeOf_1.f k l0 = some r) :
  Calls Try.prog 76 #[.slice A0 l0.length c0,.func (.func 77) #[] #[]] w fun e w' => e = .returned (.bool r) ∧ Below w.heap.size w w':=by
 have HR0:=Aside0.mk hr0
 have HC0:=Aside0.mk hc0
 clear hr0 hc0
 have HB:=Aside0.mk (Below.refl w.heap.size w)
 have H : ((slices_IndexFunc_impl_Step__impl_shapeOf_1.f k l0).bind fun t302 => (some (decide (t302 ≥ 0)))) = some r:=h
 clear h
 replace H:=Option.bind_eq_some_iff.mp H
 obtain ⟨t302,A30,H⟩:=H
 replace H : (some (decide (t302 ≥ 0))) = some r:=H
 have A3:=Aside0.mk A30
 clear A30
 obtain rfl:=Option.some.inj H
 go_enter Try.func76,Try.ntmps76
 go_wp2_with (first | ((with_reducible refine gate_callee (f:=95) rfl ?_);refine goesL_ (some 7) rfl rfl Try.func95 (by kernel_rfl) rfl #[.slice A0 l0.length c0,.func (.func 77) #[] #[]] rfl (by (try simp only [List.map_toArray,List.map_cons,List.map_nil]);first | done | rfl | (simp only [List.length_drop,List.length_take];rfl)) ?_;(with_reducible refine (slices_IndexFunc_impl_Step__impl_shapeOf_1.calls k _ _ l0  t302 _ ?side1 ?side2 A3.out).mono ?_);(case side1 => repeat (first | exact HR0.out | (with_reducible refine Kd.C_alloc ?_ _) | (with_reducible refine Kd.C_drewN ?_ _) | (with_reducible refine Kd.C_drew ?_)));(case side2 => exact HC0.out);rintro e w4 ⟨rfl,hb⟩;refine ⟨_,rfl,?_⟩;have n0_:=Aside0.mk (below_step (by repeat (first | (with_reducible first | exact HB.out | apply below_alloc | apply pw_below_drewN | apply below_drew1) | exact HB.out)) hb);clear HB;have HB:=n0_;clear n0_;(try clear hb);(try clear hb2);(try clear hk);(try clear hi)))
 go_ret
 exact ⟨by first | rfl | (simp [errW_none,errW_some] <;> rfl) | (simp [*,errW_none,errW_some] <;> rfl),by repeat (first | (with_reducible first | exact HB.out | apply below_alloc | apply pw_below_drewN | apply below_drew1) | exact HB.out)⟩

/-- A state of type 63 at block g of W; what its slices lead to came in by w0. -/
def IsS63 (w0 W : World) (g : Nat) (f0 : List (S56)) (f1 : List Int) (f2 : List Int) (f3 : List (List Int)) : Prop:=∃ A0 c0,∃ A1 c1,∃ A2 c2,∃ A3 c3,W.heap[g]? = some (.cells #[.slice A0 f0.length c0,.slice A1 f1.length c1,.slice A2 f2.length c2,.slice A3 f3.length c3] 63 (0,0)) ∧ w0.heap.size ≤ g ∧ Kd.C k56 w0 A0 f0.length f0 ∧ Kd.C (Kd.int .i64) w0 A1 f1.length f1 ∧ Kd.C (Kd.int .i64) w0 A2 f2.length f2 ∧ Kd.C (Kd.slice 3 (Kd.int .i64)) w0 A3 f3.length f3
theorem IsS63.grown {w0 W : World} {g : Nat} {f0 : List (S56)} {f1 : List Int} {f2 : List Int} {f3 : List (List Int)} {W1 : World} {row : Option Nat} (h : IsS63 w0 W g f0 f1 f2 f3) (hw : W.grownBy W1 row) (hne : some g ≠ row) : IsS63 w0 W1 g f0 f1 f2 f3:=by
 obtain ⟨A0,c0,A1,c1,A2,c2,A3,c3,hb,hg,hr0,hr1,hr2,hr3⟩:=h
 exact ⟨A0,c0,A1,c1,A2,c2,A3,c3,blk_grown hb hw hne,hg,hr0,hr1,hr2,hr3⟩
theorem IsS63.own_neN {w0 W : World} {g : Nat} {f0 : List (S56)} {f1 : List Int} {f2 : List Int} {f3 : List (List Int)} {α : Type} {d : Kd α} {e : Nat} {base : Nat} {ok : Nat → Prop} {v : Value} {xs : List α} (h : IsS63 w0 W g f0 f1 f2 f3) (ho : Kd.N d e W base ok v xs) (ht : e ≠ 63) : some g ≠ v.ownBlock:=by
 obtain ⟨A0,c0,A1,c1,A2,c2,A3,c3,hb,hg,hr0,hr1,hr2,hr3⟩:=h
 exact Kd.N_ne ho hb ht
theorem IsS63.fresh {w0 W : World} {g : Nat} {f0 : List (S56)} {f1 : List Int} {f2 : List Int} {f3 : List (List Int)} (h : IsS63 w0 W g f0 f1 f2 f3) : ∀ k,W.heap.size ≤ k → k ≠ g:=by
 obtain ⟨A0,c0,A1,c1,A2,c2,A3,c3,hb,hg,hr0,hr1,hr2,hr3⟩:=h
 exact Kd.freshB hb
theorem IsS63.kept {w0 W : World} {g : Nat} {f0 : List (S56)} {f1 : List Int} {f2 : List Int} {f3 : List (List Int)} {W1 : World} {S : Nat → Prop} (h : IsS63 w0 W g f0 f1 f2 f3) (hk : Kept W W1 S) (hne : ¬ S g) : IsS63 w0 W1 g f0 f1 f2 f3:=by
 obtain ⟨A0,c0,A1,c1,A2,c2,A3,c3,hb,hg,hr0,hr1,hr2,hr3⟩:=h
 exact ⟨A0,c0,A1,c1,A2,c2,A3,c3,blk_kept hb hk hne,hg,hr0,hr1,hr2,hr3⟩
theorem IsS63.below {w0 W : World} {g : Nat} {f0 : List (S56)} {f1 : List Int} {f2 : List Int} {f3 : List (List Int)} {W1 : World} (h : IsS63 w0 W g f0 f1 f2 f3) (hw : Below W.heap.size W W1) : IsS63 w0 W1 g f0 f1 f2 f3:=h.grown (grown_of_below hw none) (by simp)
theorem IsS63.alloc {w0 W : World} {g : Nat} {f0 : List (S56)} {f1 : List Int} {f2 : List Int} {f3 : List (List Int)} (h : IsS63 w0 W g f0 f1 f2 f3) (o : Obj) : IsS63 w0 (W.alloc o) g f0 f1 f2 f3:=h.below (below_alloc (Below.refl _ _) o)
theorem IsS63.drewN {w0 W : World} {g : Nat} {f0 : List (S56)} {f1 : List Int} {f2 : List Int} {f3 : List (List Int)} (h : IsS63 w0 W g f0 f1 f2 f3) (m : Nat) : IsS63 w0 (W.drewN m) g f0 f1 f2 f3:=h
theorem IsS63.drew {w0 W : World} {g : Nat} {f0 : List (S56)} {f1 : List Int} {f2 : List Int} {f3 : List (List Int)} (h : IsS63 w0 W g f0 f1 f2 f3) : IsS63 w0 W.drew g f0 f1 f2 f3:=h
theorem IsS63.at_ {w0 W : World} {g : Nat} {f0 : List (S56)} {f1 : List Int} {f2 : List Int} {f3 : List (List Int)} {w' : World} {m : Nat} (hq : W.drewN m = w') (h : IsS63 w0 W g f0 f1 f2 f3) : IsS63 w0 w' g f0 f1 f2 f3:=by subst hq;exact IsS63.drewN h m
theorem IsS63.apart {w0 W : World} {g : Nat} {f0 : List (S56)} {f1 : List Int} {f2 : List Int} {f3 : List (List Int)} {α : Type} {d : Kd α} {e : Nat} {base : Nat} {ok : Nat → Prop} {v : Value} {xs : List α} (h : IsS63 w0 W g f0 f1 f2 f3) (ho : d.R e W base ok v xs) (ht : ∀ q,q ∈ e :: d.E → q ≠ 63) : d.R e W base (fun k => ok k ∧ k ≠ g) v xs:=by
 obtain ⟨A0,c0,A1,c1,A2,c2,A3,c3,hb,hg,hr0,hr1,hr2,hr3⟩:=h
 exact Kd.R_types ho hb ht
theorem IsS63.own_ne {w0 W : World} {g : Nat} {f0 : List (S56)} {f1 : List Int} {f2 : List Int} {f3 : List (List Int)} {α : Type} {d : Kd α} {e : Nat} {base : Nat} {ok : Nat → Prop} {v : Value} {xs : List α} (h : IsS63 w0 W g f0 f1 f2 f3) (ho : d.R e W base ok v xs) (ht : e ≠ 63) : some g ≠ v.ownBlock:=by
 obtain ⟨A0,c0,A1,c1,A2,c2,A3,c3,hb,hg,hr0,hr1,hr2,hr3⟩:=h
 exact Kd.R_ne ho hb ht
theorem IsS63.apartQ {w0 W : World} {g : Nat} {f0 : List (S56)} {f1 : List Int} {f2 : List Int} {f3 : List (List Int)} {α : Type} {d : Kd α} {e : Nat} {base : Nat} {ok : Nat → Prop} {v : Value} {xs : List α} (h : IsS63 w0 W g f0 f1 f2 f3) (ho : d.Q e W base ok v xs) (ht : ∀ q,q ∈ e :: d.E → q ≠ 63) : d.Q e W base (fun k => ok k ∧ k ≠ g) v xs:=by
 obtain ⟨A0,c0,A1,c1,A2,c2,A3,c3,hb,hg,hr0,hr1,hr2,hr3⟩:=h
 exact Kd.Q_types ho hb ht
theorem IsS63.own_neQ {w0 W : World} {g : Nat} {f0 : List (S56)} {f1 : List Int} {f2 : List Int} {f3 : List (List Int)} {α : Type} {d : Kd α} {e : Nat} {base : Nat} {ok : Nat → Prop} {v : Value} {xs : List α} (h : IsS63 w0 W g f0 f1 f2 f3) (ho : d.Q e W base ok v xs) (ht : e ≠ 63) : some g ≠ v.ownBlock:=by
 obtain ⟨A0,c0,A1,c1,A2,c2,A3,c3,hb,hg,hr0,hr1,hr2,hr3⟩:=h
 exact Kd.Q_ne ho hb ht
theorem IsS63.apartS {w0 W : World} {g : Nat} {f0 : List (S56)} {f1 : List Int} {f2 : List Int} {f3 : List (List Int)} {α : Type} {d : Kd α} {e : Nat} {base : Nat} {ok : Nat → Prop} {v : Value} {xs : List α} (h : IsS63 w0 W g f0 f1 f2 f3) (ho : d.S e W base ok v xs) (ht : ∀ q,q ∈ e :: d.E → q ≠ 63) : d.S e W base (fun k => ok k ∧ k ≠ g) v xs:=by
 obtain ⟨A0,c0,A1,c1,A2,c2,A3,c3,hb,hg,hr0,hr1,hr2,hr3⟩:=h
 exact Kd.S_types ho hb ht
theorem IsS63.own_neS {w0 W : World} {g : Nat} {f0 : List (S56)} {f1 : List Int} {f2 : List Int} {f3 : List (List Int)} {α : Type} {d : Kd α} {e : Nat} {base : Nat} {ok : Nat → Prop} {v : Value} {xs : List α} (h : IsS63 w0 W g f0 f1 f2 f3) (ho : d.S e W base ok v xs) (ht : e ≠ 63) : some g ≠ v.ownBlock:=by
 obtain ⟨A0,c0,A1,c1,A2,c2,A3,c3,hb,hg,hr0,hr1,hr2,hr3⟩:=h
 exact Kd.S_ne ho hb ht
theorem IsS63.lt {w0 W : World} {g : Nat} {f0 : List (S56)} {f1 : List Int} {f2 : List Int} {f3 : List (List Int)} (h : IsS63 w0 W g f0 f1 f2 f3) : g < W.heap.size:=by
 obtain ⟨A0,c0,A1,c1,A2,c2,A3,c3,hb,hg,hr0,hr1,hr2,hr3⟩:=h
 exact blk_lt hb
theorem IsS63.ge {w0 W : World} {g : Nat} {f0 : List (S56)} {f1 : List Int} {f2 : List Int} {f3 : List (List Int)} (h : IsS63 w0 W g f0 f1 f2 f3) : w0.heap.size ≤ g:=by
 obtain ⟨A0,c0,A1,c1,A2,c2,A3,c3,hb,hg,hr0,hr1,hr2,hr3⟩:=h
 exact hg
theorem IsS63.ne_blk {w0 W : World} {g : Nat} {f0 : List (S56)} {f1 : List Int} {f2 : List Int} {f3 : List (List Int)} {a : Nat} {cs : Array Value} {t : TypeId} {fr : Nat × Nat} (h : IsS63 w0 W g f0 f1 f2 f3) (hb2 : W.heap[a]? = some (.cells cs t fr)) (ht : t ≠ 63) : g ≠ a:=by
 obtain ⟨A0,c0,A1,c1,A2,c2,A3,c3,hb,hg,hr0,hr1,hr2,hr3⟩:=h
 rintro rfl
 rw [hb] at hb2
 injection hb2 with hb2
 injection hb2 with _ ht2
 exact ht ht2.symm
theorem IsS63.far {w0 W : World} {g : Nat} {f0 : List (S56)} {f1 : List Int} {f2 : List Int} {f3 : List (List Int)} {p : Addr} (h : IsS63 w0 W g f0 f1 f2 f3) (hne : g ≠ p.block) (u : Value) : IsS63 w0 (W.setCell p u) g f0 f1 f2 f3:=by
 obtain ⟨A0,c0,A1,c1,A2,c2,A3,c3,hb,hg,hr0,hr1,hr2,hr3⟩:=h
 exact ⟨A0,c0,A1,c1,A2,c2,A3,c3,blk_far hb hne u,hg,hr0,hr1,hr2,hr3⟩
theorem cellS63_0 {W : World} {g : Nat} {A0 : Option Addr} {c0 : Nat} {A1 : Option Addr} {c1 : Nat} {A2 : Option Addr} {c2 : Nat} {A3 : Option Addr} {c3 : Nat} {f0 : List (S56)} {f1 : List Int} {f2 : List Int} {f3 : List (List Int)} (h : W.heap[g]? = some (.cells #[.slice A0 f0.length c0,.slice A1 f1.length c1,.slice A2 f2.length c2,.slice A3 f3.length c3] 63 (0,0))) : W.cell? ⟨g,0,none⟩ = some (.slice A0 f0.length c0):=(blk_cell h 0).trans rfl
theorem cellS63_1 {W : World} {g : Nat} {A0 : Option Addr} {c0 : Nat} {A1 : Option Addr} {c1 : Nat} {A2 : Option Addr} {c2 : Nat} {A3 : Option Addr} {c3 : Nat} {f0 : List (S56)} {f1 : List Int} {f2 : List Int} {f3 : List (List Int)} (h : W.heap[g]? = some (.cells #[.slice A0 f0.length c0,.slice A1 f1.length c1,.slice A2 f2.length c2,.slice A3 f3.length c3] 63 (0,0))) : W.cell? ⟨g,1,none⟩ = some (.slice A1 f1.length c1):=(blk_cell h 1).trans rfl
theorem cellS63_2 {W : World} {g : Nat} {A0 : Option Addr} {c0 : Nat} {A1 : Option Addr} {c1 : Nat} {A2 : Option Addr} {c2 : Nat} {A3 : Option Addr} {c3 : Nat} {f0 : List (S56)} {f1 : List Int} {f2 : List Int} {f3 : List (List Int)} (h : W.heap[g]? = some (.cells #[.slice A0 f0.length c0,.slice A1 f1.length c1,.slice A2 f2.length c2,.slice A3 f3.length c3] 63 (0,0))) : W.cell? ⟨g,2,none⟩ = some (.slice A2 f2.length c2):=(blk_cell h 2).trans rfl
theorem cellS63_3 {W : World} {g : Nat} {A0 : Option Addr} {c0 : Nat} {A1 : Option Addr} {c1 : Nat} {A2 : Option Addr} {c2 : Nat} {A3 : Option Addr} {c3 : Nat} {f0 : List (S56)} {f1 : List Int} {f2 : List Int} {f3 : List (List Int)} (h : W.heap[g]? = some (.cells #[.slice A0 f0.length c0,.slice A1 f1.length c1,.slice A2 f2.length c2,.slice A3 f3.length c3] 63 (0,0))) : W.cell? ⟨g,3,none⟩ = some (.slice A3 f3.length c3):=(blk_cell h 3).trans rfl
theorem IsS63.new (w0 W : World) (A0 : Option Addr) (c0 : Nat) (A1 : Option Addr) (c1 : Nat) (A2 : Option Addr) (c2 : Nat) (A3 : Option Addr) (c3 : Nat) (f0 : List (S56)) (f1 : List Int) (f2 : List Int) (f3 : List (List Int)) (hB : Below w0.heap.size w0 W) (hr0 : Kd.C k56 w0 A0 f0.length f0) (hr1 : Kd.C (Kd.int .i64) w0 A1 f1.length f1) (hr2 : Kd.C (Kd.int .i64) w0 A2 f2.length f2) (hr3 : Kd.C (Kd.slice 3 (Kd.int .i64)) w0 A3 f3.length f3) : IsS63 w0 (W.alloc (.cells #[.slice A0 f0.length c0,.slice A1 f1.length c1,.slice A2 f2.length c2,.slice A3 f3.length c3] 63)) W.heap.size f0 f1 f2 f3:=⟨A0,c0,A1,c1,A2,c2,A3,c3,by simpa using heap_alloc_new W _,hB.size,hr0,hr1,hr2,hr3⟩
/-! ### impl_shapeOf: function 50 (by hand: a pointer is handed back, or nil; rows inside the struct behind it are written) -/
/-- The blocks that are none of the shape's rows of rows: its own, its ends' and others', the stack's. -/
def ShF (g : Nat) (ve vo vs : Value) (k : Nat) : Prop:=k = g ∨ some k = ve.ownBlock ∨ some k = vo.ownBlock ∨ some k = vs.ownBlock
/-- A shape while it is made: in its block g the code, its ends, its others, what is open; beside it the stack. -/
structure ShInv (w W : World) (g n c : Nat) (A : Option Addr) (ve vo vp vs : Value) (e o : List Int) (p : List (List Int)) (st : List Int) : Prop where
 below : Below w.heap.size w W
 gb : w.heap.size ≤ g
 blk : W.heap[g]? = some (.cells #[.slice A n c,ve,vo,vp] 63 (0,0))
 er : Kd.R (Kd.int .i64) 3 W w.heap.size (fun k => some k = ve.ownBlock) ve e
 or_ : Kd.R (Kd.int .i64) 3 W w.heap.size (fun k => some k = vo.ownBlock) vo o
 sr : Kd.R (Kd.int .i64) 3 W w.heap.size (fun k => some k = vs.ownBlock) vs st
 pr : Kd.S (Kd.slice 3 (Kd.int .i64)) 29 W w.heap.size (fun k => ¬ ShF g ve vo vs k) vp p
 eo : ∀ k,some k = ve.ownBlock → some k ≠ vo.ownBlock
 es : ∀ k,some k = ve.ownBlock → some k ≠ vs.ownBlock
 os : ∀ k,some k = vo.ownBlock → some k ≠ vs.ownBlock
 el : e.length = n
 ol : o.length = n
 pl : p.length = n
section
variable {w W W' : World} {g n c : Nat} {A : Option Addr} {ve vo vp vs : Value} {e o : List Int} {p : List (List Int)} {st : List Int}
theorem ShInv.ge (h : ShInv w W g n c A ve vo vp vs e o p st) : some g ≠ ve.ownBlock:=Kd.R_ne h.er h.blk (by decide)
theorem ShInv.go (h : ShInv w W g n c A ve vo vp vs e o p st) : some g ≠ vo.ownBlock:=Kd.R_ne h.or_ h.blk (by decide)
theorem ShInv.gs (h : ShInv w W g n c A ve vo vp vs e o p st) : some g ≠ vs.ownBlock:=Kd.R_ne h.sr h.blk (by decide)
theorem ShInv.step (h : ShInv w W g n c A ve vo vp vs e o p st) (hb : Below W.heap.size W W') : ShInv w W' g n c A ve vo vp vs e o p st :=
 ⟨below_step h.below hb,h.gb,blk_below h.blk hb,Kd.R_below h.er hb,Kd.R_below h.or_ hb,Kd.R_below h.sr hb,Kd.S_below h.pr hb,h.eo,h.es,h.os,h.el,h.ol,h.pl⟩
theorem ShInv.drew (h : ShInv w W g n c A ve vo vp vs e o p st) : ShInv w W.drew g n c A ve vo vp vs e o p st:=h.step (below_drew (Below.refl _ _))
theorem ShInv.drewN (h : ShInv w W g n c A ve vo vp vs e o p st) (m : Nat) : ShInv w (W.drewN m) g n c A ve vo vp vs e o p st:=h.step (pw_below_drewN (Below.refl _ _) m)
/-- The end of a step is written. -/
theorem ShInv.end_ (h : ShInv w W g n c A ve vo vp vs e o p st) (i : Nat) (hi : i < n) (x : Int) : ∃ ge ce,ve = .slice (some ⟨ge,0,none⟩) n ce ∧ W.cell? ⟨ge,i,none⟩ = some (.int .i64 (rd e i)) ∧ W.frozen? ⟨ge,i,none⟩ = false ∧ ShInv w (W.setCell ⟨ge,i,none⟩ (.int .i64 x)) g n c A ve vo vp vs (e.set i x) o p st:=by
 obtain ⟨ge,ce,hv,hb,_,_⟩:=Kd.R_form h.er (by rw [h.el];omega)
 rw [h.el] at hv
 have hE:=h.er
 rw [hv] at hE
 obtain ⟨hc,hf⟩:=Kd.R_celln (0 : Int) hE (i : Int) (by omega) (by omega)
 obtain ⟨hp,hg⟩:=Kd.R_putg hE (i : Int) x
 rw [Int.toNat_natCast] at hc hf hp hg
 have hkb : ∀ k,some k = ve.ownBlock ↔ k = ge:=fun k => by rw [hv];simp [Value.ownBlock]
 have hne : ∀ {v : Value},(∀ k,some k = ve.ownBlock → some k ≠ v.ownBlock) → ∀ k,some k = v.ownBlock → some k ≠ some ge:=fun hq k hk he => by
  injection he with he
  exact hq k ((hkb k).2 he) hk
 refine ⟨ge,ce,hv,hc,hf,⟨h.below.setCell hb _,h.gb,blk_far h.blk (p:=⟨ge,i,none⟩) (fun he => h.ge (by have he2 : g = ge:=he;exact (hkb g).2 he2)) _,?_,?_,?_,?_,h.eo,h.es,h.os,by rw [List.length_set];exact h.el,h.ol,h.pl⟩⟩
 ·rw [hv];exact hp
 ·exact Kd.R_grown h.or_ hg (hne h.eo)
 ·exact Kd.R_grown h.sr hg (hne h.es)
 ·exact Kd.S_grown h.pr hg (fun k hk he => hk (.inr (.inl (by injection he with he;exact (hkb k).2 he))))
theorem ShInv.other (h : ShInv w W g n c A ve vo vp vs e o p st) (i : Nat) (hi : i < n) (x : Int) : ∃ go co,vo = .slice (some ⟨go,0,none⟩) n co ∧ W.cell? ⟨go,i,none⟩ = some (.int .i64 (rd o i)) ∧ W.frozen? ⟨go,i,none⟩ = false ∧ ShInv w (W.setCell ⟨go,i,none⟩ (.int .i64 x)) g n c A ve vo vp vs e (o.set i x) p st:=by
 obtain ⟨ge,ce,hv,hb,_,_⟩:=Kd.R_form h.or_ (by rw [h.ol];omega)
 rw [h.ol] at hv
 have hE:=h.or_
 rw [hv] at hE
 obtain ⟨hc,hf⟩:=Kd.R_celln (0 : Int) hE (i : Int) (by omega) (by omega)
 obtain ⟨hp,hg⟩:=Kd.R_putg hE (i : Int) x
 rw [Int.toNat_natCast] at hc hf hp hg
 have hkb : ∀ k,some k = vo.ownBlock ↔ k = ge:=fun k => by rw [hv];simp [Value.ownBlock]
 have hne : ∀ {v : Value},(∀ k,some k = vo.ownBlock → some k ≠ v.ownBlock) → ∀ k,some k = v.ownBlock → some k ≠ some ge:=fun hq k hk he => by
  injection he with he
  exact hq k ((hkb k).2 he) hk
 refine ⟨ge,ce,hv,hc,hf,⟨h.below.setCell hb _,h.gb,blk_far h.blk (p:=⟨ge,i,none⟩) (fun he => h.go (by have he2 : g = ge:=he;exact (hkb g).2 he2)) _,?_,?_,?_,?_,h.eo,h.es,h.os,h.el,by rw [List.length_set];exact h.ol,h.pl⟩⟩
 ·exact Kd.R_grown h.er hg (fun k hk he => h.eo k hk (by injection he with he;exact (hkb k).2 he))
 ·rw [hv];exact hp
 ·exact Kd.R_grown h.sr hg (hne h.os)
 ·exact Kd.S_grown h.pr hg (fun k hk he => hk (.inr (.inr (.inl (by injection he with he;exact (hkb k).2 he)))))
/-- A row made since is laid into what is open. -/
theorem ShInv.fill {W4 : World} {v0 : Value} {y : List Int} (h : ShInv w W g n c A ve vo vp vs e o p st) (i : Nat) (hi : i < n) (hb : Below W.heap.size W W4) (hr : Kd.R (Kd.int .i64) 3 W4 W.heap.size (fun _ => True) v0 y) :
  ∃ gp cp,vp = .slice (some ⟨gp,0,none⟩) n cp ∧ W4.frozen? ⟨gp,i,none⟩ = false ∧ (∃ u,W4.cell? ⟨gp,i,none⟩ = some u) ∧ ShInv w (W4.setCell ⟨gp,i,none⟩ v0) g n c A ve vo vp vs e o (p.set i y) st:=by
 obtain ⟨gp,cp,hv,hbp,_,_⟩:=Kd.S_form h.pr (by rw [h.pl];omega)
 rw [h.pl] at hv
 have hP:=h.pr
 rw [hv] at hP
 obtain ⟨g',oki,ve',hg',hx,hf,hR,hoki,hPg,hbg,hH⟩:=S_row hP (i : Int) (by omega) (by omega)
 injection hg' with hg'
 injection hg' with hg' _ _
 subst hg'
 rw [Int.toNat_natCast] at hx hf
 have hlt:=World.block_lt_of_cell? W _ hx
 have hF : ∀ k,ShF g ve vo vs k → k < W.heap.size:=fun k hk => by
  rcases hk with rfl | hk | hk | hk
  ·exact blk_lt h.blk
  ·exact Kd.R_lt h.er k hk.symm
  ·exact Kd.R_lt h.or_ k hk.symm
  ·exact Kd.R_lt h.sr k hk.symm
 have hup:=S_upd (F:=ShF g ve vo vs) hH (by omega) (by omega) hPg hF (Kept.of_below hb oki) (Kd.R_mono (Kd.R_lower (Kd.R_bound hr) h.below.size) (fun k hk => .inr hk.2.1))
 rw [Int.toNat_natCast] at hup
 have same : ∀ {v : Value} {xs : List Int},(∀ k,some k = v.ownBlock → ShF g ve vo vs k) → Kd.R (Kd.int .i64) 3 W w.heap.size (fun k => some k = v.ownBlock) v xs → Kd.R (Kd.int .i64) 3 (W4.setCell ⟨gp,i,none⟩ v0) w.heap.size (fun k => some k = v.ownBlock) v xs:=fun hq hr2 => R_same hr2 hq hup.2
 refine ⟨gp,cp,hv,(frozen_below hb hlt).trans hf,⟨_,pw_cell_below hb hx⟩,⟨(below_step h.below hb).setCell hbg _,h.gb,(hup.2 g (.inl rfl)).trans h.blk,same (fun k hk => .inr (.inl hk)) h.er,same (fun k hk => .inr (.inr (.inl hk))) h.or_,same (fun k hk => .inr (.inr (.inr hk))) h.sr,by rw [hv];exact hup.1,h.eo,h.es,h.os,h.el,h.ol,by rw [List.length_set];exact h.pl⟩⟩
/-- The stack has grown. -/
theorem ShInv.push {v1 : Value} {x : Int} (h : ShInv w W g n c A ve vo vp vs e o p st) (hr : Kd.R (Kd.int .i64) 3 W' w.heap.size (fun k => some k = vs.ownBlock ∨ W.heap.size ≤ k) v1 (st ++ [x])) (hb : Below w.heap.size w W') (hg : W.grownBy W' vs.ownBlock) (hat : v1.ownBlock = vs.ownBlock ∨ ∃ b,v1.ownBlock = some b ∧ W.heap.size ≤ b) : ShInv w W' g n c A ve vo vp v1 e o p (st ++ [x]):=by
 have hlt : ∀ k,ShF g ve vo vs k → k < W.heap.size:=fun k hk => by
  rcases hk with rfl | hk | hk | hk
  ·exact blk_lt h.blk
  ·exact Kd.R_lt h.er k hk.symm
  ·exact Kd.R_lt h.or_ k hk.symm
  ·exact Kd.R_lt h.sr k hk.symm
 have hne : ∀ k,k < W.heap.size → some k ≠ vs.ownBlock → some k ≠ v1.ownBlock:=fun k hk hn he => by
  rcases hat with ha | ⟨b,ha,hle⟩
  ·rw [ha] at he;exact hn he
  ·rw [ha] at he;injection he with he;omega
 refine ⟨hb,h.gb,blk_grown h.blk hg h.gs,Kd.R_grown h.er hg h.es,Kd.R_grown h.or_ hg h.os,Kd.R_tight rfl hr,?_,h.eo,fun k hk => hne k (hlt k (.inr (.inl hk))) (h.es k hk),fun k hk => hne k (hlt k (.inr (.inr (.inl hk)))) (h.os k hk),h.el,h.ol,h.pl⟩
 have h2:=Kd.S_grown (Kd.S_bound h.pr) hg (fun k hk he => hk.1 (.inr (.inr (.inr he))))
 refine Kd.S_mono h2 (fun k hk hf => ?_)
 rcases hf with hf | hf | hf | hf
 ·exact hk.1 (.inl hf)
 ·exact hk.1 (.inr (.inl hf))
 ·exact hk.1 (.inr (.inr (.inl hf)))
 ·exact hne k hk.2.2.1 (fun he => hk.1 (.inr (.inr (.inr he)))) hf
/-- The stack's top is taken off. -/
theorem ShInv.pop {As : Option Addr} {cs m : Nat} (h : ShInv w W g n c A ve vo vp (.slice As st.length cs) e o p st) (hm : m ≤ st.length) : ShInv w W g n c A ve vo vp (.slice As m cs) e o p (st.take m):=by
 have hs:=Kd.R_take h.sr hm
 have hq : (Value.slice As m cs).ownBlock = (Value.slice As st.length cs).ownBlock:=by cases As <;> rfl
 have hF : ∀ k,ShF g ve vo (.slice As m cs) k ↔ ShF g ve vo (.slice As st.length cs) k:=fun k => by unfold ShF;rw [hq]
 exact ⟨h.below,h.gb,h.blk,h.er,h.or_,Kd.R_mono hs (fun k hk => by rw [hq];exact hk),Kd.S_mono h.pr (fun k hk hf => hk ((hF k).1 hf)),h.eo,fun k hk => by rw [hq];exact h.es k hk,fun k hk => by rw [hq];exact h.os k hk,h.el,h.ol,h.pl⟩
end
/-- Once round: st is the stack, p what was open. -/
def impl_shapeOf.l0 : Nat → List S56 → List Int → List Int → List (List Int) → List Int → Nat → Option (Option (List Int × List Int × List (List Int)))
 | 0,_,_,_,_,_,_ => none
 | k + 1,l,e,o,p,st,i => if i < l.length then (if st.length < 17592186044416 then ((impl_Step_deepest.f k (rd_T56 l i).f0 (rd_T56 l i).f1 (rd_T56 l i).f2).bind fun d => (if d > (st.length : Int) then some none else ((impl_opens.f (rd_T56 l i).f0).bind fun b => (if b = true then (if st.length + 1 > 8 then some none else impl_shapeOf.l0 k l e o (p.set i st) (st ++ [(i : Int)]) (i + 1))
   else (if (rd_T56 l i).f0 = 18 then (if st.length = 0 then some none else (if 0 ≤ rd st ((st.length - 1 : Nat) : Int) then (if rd st ((st.length - 1 : Nat) : Int) < l.length then (if (rd_T56 l (rd st ((st.length - 1 : Nat) : Int))).f0 = 17 then (if 0 ≤ rd o (rd st ((st.length - 1 : Nat) : Int)) then some none else impl_shapeOf.l0 k l e (o.set (rd st ((st.length - 1 : Nat) : Int)).toNat (i : Int)) (p.set i st) st (i + 1)) else some none) else none) else none))
   else (if (rd_T56 l i).f0 = 19 then (if st.length = 0 then some none else (if 0 ≤ rd st ((st.length - 1 : Nat) : Int) then (if rd st ((st.length - 1 : Nat) : Int) < (i : Int) then (if 0 ≤ rd o (rd st ((st.length - 1 : Nat) : Int)) then (if rd o (rd st ((st.length - 1 : Nat) : Int)) < l.length then impl_shapeOf.l0 k l (((e.set i (rd st ((st.length - 1 : Nat) : Int))).set (rd st ((st.length - 1 : Nat) : Int)).toNat (i : Int)).set (rd o (rd st ((st.length - 1 : Nat) : Int))).toNat (i : Int)) o (p.set i st) (st.take (st.length - 1)) (i + 1) else none) else impl_shapeOf.l0 k l ((e.set i (rd st ((st.length - 1 : Nat) : Int))).set (rd st ((st.length - 1 : Nat) : Int)).toNat (i : Int)) o (p.set i st) (st.take (st.length - 1)) (i + 1)) else none) else none))
   else impl_shapeOf.l0 k l e o (p.set i st) st (i + 1))))))) else none) else (if st.length > 0 then some none else some (some (e,o,p)))
def impl_shapeOf.f (k : Nat) (l : List S56) : Option (Option (List Int × List Int × List (List Int))):=if (l.length : Int) > 60 then some none else ((slices_ContainsFunc_impl_Step__impl_shapeOf_1.f k l).bind fun b => (if b = true then some none else impl_shapeOf.l0 k l (List.replicate l.length (-1)) (List.replicate l.length (-1)) (List.replicate l.length []) [] 0))
theorem impl_shapeOf.mono_l : ∀ k,(∀ y0 y1 y2 y3 y4 y5,LeO (impl_shapeOf.l0 k y0 y1 y2 y3 y4 y5) (impl_shapeOf.l0 (k + 1) y0 y1 y2 y3 y4 y5))
 | 0 => fun _ _ _ _ _ _ r h => by simp [impl_shapeOf.l0] at h
 | k + 1 => by
  have ih0:=impl_shapeOf.mono_l k
  ·intro y0 y1 y2 y3 y4 y5
   unfold impl_shapeOf.l0
   repeat' first
   | (with_reducible exact ih0 _ _ _ _ _ _)
   | (with_reducible exact impl_Step_deepest.mono _ _ _ _)
   | (with_reducible exact slices_ContainsFunc_impl_Step__impl_shapeOf_1.mono _ _)
   | (with_reducible exact LeO.refl _)
   | (with_reducible exact LeO.none _)
   | (with_reducible refine LeO.ite ?_ ?_)
   | (with_reducible refine LeO.bind ?_ (fun _ => ?_))
theorem impl_shapeOf.mono : ∀ a0 k,LeO (impl_shapeOf.f k a0) (impl_shapeOf.f (k + 1) a0):=by
 intro a0 k
 have ih0:=impl_shapeOf.mono_l k
 unfold impl_shapeOf.f
 repeat' first
   | (with_reducible exact ih0 _ _ _ _ _ _)
   | (with_reducible exact impl_Step_deepest.mono _ _ _ _)
   | (with_reducible exact slices_ContainsFunc_impl_Step__impl_shapeOf_1.mono _ _)
   | (with_reducible exact LeO.refl _)
   | (with_reducible exact LeO.none _)
   | (with_reducible refine LeO.ite ?_ ?_)
   | (with_reducible refine LeO.bind ?_ (fun _ => ?_))
/-- A shape, made. -/
structure ShapeAt (W : World) (base g n c : Nat) (A : Option Addr) (e o : List Int) (p : List (List Int)) : Prop where
 gb : base ≤ g
 it : ∃ ve vo vp : Value,W.heap[g]? = some (.cells #[.slice A n c,ve,vo,vp] 63 (0,0)) ∧ Kd.R (Kd.int .i64) 3 W base (fun _ => True) ve e ∧ Kd.R (Kd.int .i64) 3 W base (fun _ => True) vo o ∧ Kd.S (Kd.slice 3 (Kd.int .i64)) 29 W base (fun _ => True) vp p
 el : e.length = n
 ol : o.length = n
 pl : p.length = n
/-- What shapeOf hands back. -/
def ShapeRet (W : World) (base n c : Nat) (A : Option Addr) : Option (List Int × List Int × List (List Int)) → Value → Prop
 | none,v => v = .pointer none
 | some (e,o,p),v => ∃ g,v = .pointer (some ⟨g,0,none⟩) ∧ ShapeAt W base g n c A e o p
theorem ShapeAt.step {W W' : World} {base g n c : Nat} {A : Option Addr} {e o : List Int} {p : List (List Int)} (h : ShapeAt W base g n c A e o p) (hb : Below W.heap.size W W') : ShapeAt W' base g n c A e o p:=by
 obtain ⟨h1,⟨ve,vo,vp,h2,h3,h4,h5⟩,h6,h7,h8⟩:=h
 exact ⟨h1,⟨ve,vo,vp,blk_below h2 hb,Kd.R_below h3 hb,Kd.R_below h4 hb,Kd.S_below h5 hb⟩,h6,h7,h8⟩
theorem ShInv.done {w W : World} {g n c : Nat} {A : Option Addr} {ve vo vp vs : Value} {e o : List Int} {p : List (List Int)} {st : List Int} (h : ShInv w W g n c A ve vo vp vs e o p st) : ShapeAt W w.heap.size g n c A e o p :=
 ⟨h.gb,⟨ve,vo,vp,h.blk,Kd.R_mono h.er (fun _ _ => trivial),Kd.R_mono h.or_ (fun _ _ => trivial),Kd.S_mono h.pr (fun _ _ => trivial)⟩,h.el,h.ol,h.pl⟩
theorem C_lit_blk {W : World} {i : Nat} {t : TypeId} {x : Int} (h : W.heap[i]? = some (.cells #[.int .i64 x] t (0,0))) : Kd.C (Kd.int .i64) W (some ⟨i,0,none⟩) [x].length [x]:=by
 refine Kd.C_of_reads (d:=(0 : Int)) (h1:=fun _ => rfl) ⟨rfl,by simp,fun _ => ⟨_,rfl,fun j hj => ?_⟩⟩
 have hj0 : j = 0:=by simpa using hj
 subst hj0
 rw [add_plain,blk_cell h]
 rfl
theorem blk_new_at {W : World} {o : Obj} {i : Nat} (h : i = W.heap.size) : (W.alloc o).heap[i]? = some o:=by subst h;exact heap_alloc_new W o
/-- A row of nil rows, by its block alone. -/
theorem S_made_blk (d : Kd Int) (e E : Nat) {W : World} {g n base : Nat} (h : W.heap[g]? = some (.cells (madeCells #[.slice none 0 0] n) E (0,0))) (hb : base ≤ g) (hn : n ≤ 60) : Kd.S (Kd.slice e d) E W base (fun k => k = g) (.slice (some ⟨g,0,none⟩) n n) (List.replicate n []):=by
 refine Kd.S_bare ⟨fun k hk => by simpa [Value.ownBlock,eq_comm] using hk,(madeCells #[.slice none 0 0] n).toList,?_,?_⟩
 ·rw [List.length_replicate]
  exact ⟨by simp [size_madeCells,show (Kd.bare (Kd.slice e d)).sz = 1 from rfl],.inr ⟨g,n,_,rfl,hb,h,Nat.le_refl _,by unfold maxLen;omega,by simp [size_madeCells,show (Kd.bare (Kd.slice e d)).sz = 1 from rfl],List.take_of_length_le (by simp [size_madeCells,show (Kd.bare (Kd.slice e d)).sz = 1 from rfl])⟩⟩
 ·have:=Kd.reps_made (R:=(Kd.bare (Kd.slice e d)).M W base (fun k => k = g ∧ some k ≠ (Value.slice (some ⟨g,0,none⟩) n n).ownBlock)) (z:=.slice none 0 0) (size:=1) (z0:=([] : List Int)) rfl (by decide) ⟨_,rfl,Kd.R_nil _ _ _ _ _⟩ n
  rw [Nat.mul_one] at this
  exact this
theorem ShInv.make {w W : World} {g gm n c a1 b1 a2 b2 : Nat} {A : Option Addr} {ve vo : Value} {e o : List Int} (hB : Below w.heap.size w W) (hg : w.heap.size ≤ g) (blk : W.heap[g]? = some (.cells #[.slice A n c,ve,vo,.slice (some ⟨gm,0,none⟩) n n] 63 (0,0)))
  (he : OwnR (Kd.int .i64) 3 w W a1 b1 ve e) (ho : OwnR (Kd.int .i64) 3 w W a2 b2 vo o) (hm : W.heap[gm]? = some (.cells (madeCells #[.slice none 0 0] n) 29 (0,0))) (hgm : w.heap.size ≤ gm) (hn : n ≤ 60) (d1 : b1 ≤ a2) (d2 : gm < a1 ∨ b1 ≤ gm) (d3 : gm < a2 ∨ b2 ≤ gm) (el : e.length = n) (ol : o.length = n) :
  ShInv w W g n c A ve vo (.slice (some ⟨gm,0,none⟩) n n) (.slice none 0 0) e o (List.replicate n []) []:=by
 have h1 : ∀ k,some k = ve.ownBlock → a1 ≤ k ∧ k < b1:=fun k hk => he.1 k hk.symm
 have h2 : ∀ k,some k = vo.ownBlock → a2 ≤ k ∧ k < b2:=fun k hk => ho.1 k hk.symm
 have hgg : gm ≠ g:=fun e_ => by subst e_;rw [blk] at hm;injection hm with hm;injection hm with _ hm;exact absurd hm (by decide)
 refine ⟨hB,hg,blk,Kd.R_tight rfl he,Kd.R_tight rfl ho,Kd.R_nil _ _ _ _ _,Kd.S_mono (S_made_blk (Kd.int .i64) 3 29 hm hgm hn) (fun k hk hf => ?_),fun k hk hk2 => by have:=h1 k hk;have:=h2 k hk2;omega,fun k _ hk2 => by simp [Value.ownBlock] at hk2,fun k _ hk2 => by simp [Value.ownBlock] at hk2,el,ol,by simp⟩
 subst hk
 rcases hf with hf | hf | hf | hf
 ·exact hgg hf
 ·have:=h1 k hf;omega
 ·have:=h2 k hf;omega
 ·simp [Value.ownBlock] at hf
theorem ShInv.lit {w W : World} {g n c : Nat} {A : Option Addr} {ve vo vp : Value} {e o : List Int} {p : List (List Int)} (h : ShInv w W g n c A ve vo vp (.slice none 0 0) e o p []) : ShInv w (W.alloc (.cells #[] 3)) g n c A ve vo vp (.slice (some ⟨W.heap.size,0,none⟩) 0 0) e o p []:=by
 have h2:=h.step (below_alloc (Below.refl _ _) (.cells #[] 3))
 have hlt : ∀ k,ShF g ve vo (.slice none 0 0) k → k < W.heap.size:=fun k hk => by
  rcases hk with rfl | hk | hk | hk
  ·exact blk_lt h.blk
  ·exact Kd.R_lt h.er k hk.symm
  ·exact Kd.R_lt h.or_ k hk.symm
  ·exact Kd.R_lt h.sr k hk.symm
 have hs : ∀ k,some k = (Value.slice (some ⟨W.heap.size,0,none⟩) 0 0).ownBlock → k = W.heap.size:=fun k hk => by simpa [Value.ownBlock] using hk
 refine ⟨h2.below,h2.gb,h2.blk,h2.er,h2.or_,Kd.R_tight rfl (Kd.R_lower (R_lit0n 3 W) h.below.size),Kd.S_mono (Kd.S_below (Kd.S_bound h.pr) (below_alloc (Below.refl _ _) _)) (fun k hk hf => ?_),h.eo,fun k hk hk2 => ?_,fun k hk hk2 => ?_,h.el,h.ol,h.pl⟩
 ·rcases hf with hf | hf | hf | hf
  ·exact hk.1 (.inl hf)
  ·exact hk.1 (.inr (.inl hf))
  ·exact hk.1 (.inr (.inr (.inl hf)))
  ·have:=hs k hf;have:=hk.2.2.1;omega
 ·have:=hs k hk2;have:=hlt k (.inr (.inl hk));omega
 ·have:=hs k hk2;have:=hlt k (.inr (.inr (.inl hk)));omega
theorem ShInv.forms {w W : World} {g n c : Nat} {A : Option Addr} {ve vo vp vs : Value} {e o : List Int} {p : List (List Int)} {st : List Int} (h : ShInv w W g n c A ve vo vp vs e o p st) (hn : 0 < n) : ∃ ge ce go co gp cp,ve = .slice (some ⟨ge,0,none⟩) n ce ∧ vo = .slice (some ⟨go,0,none⟩) n co ∧ vp = .slice (some ⟨gp,0,none⟩) n cp ∧ g ≠ ge ∧ g ≠ go ∧ g ≠ gp:=by
 obtain ⟨ge,ce,h1,_⟩:=Kd.R_form h.er (by rw [h.el];exact hn)
 obtain ⟨go,co,h2,_⟩:=Kd.R_form h.or_ (by rw [h.ol];exact hn)
 obtain ⟨gp,cp,h3,_⟩:=Kd.S_form h.pr (by rw [h.pl];exact hn)
 rw [h.el] at h1
 rw [h.ol] at h2
 rw [h.pl] at h3
 have n1:=h.ge
 have n2:=h.go
 have n3 : ¬ ShF g ve vo vs gp:=(Kd.S_R h.pr).1 gp (by rw [h3];simp [Value.ownBlock])
 rw [h1] at n1
 rw [h2] at n2
 exact ⟨ge,ce,go,co,gp,cp,h1,h2,h3,fun e_ => n1 (by simp [Value.ownBlock,e_]),fun e_ => n2 (by simp [Value.ownBlock,e_]),fun e_ => n3 (.inl e_.symm)⟩
set_option maxHeartbeats 8000000 in
set_option maxRecDepth 100000 in
theorem impl_shapeOf.calls (k : Nat) (A0 : Option Addr) (c0 : Nat) (l0 : List S56) (r : Option (List Int × List Int × List (List Int))) (w : World) (hr0 : Kd.C k56 w A0 l0.length l0) (hc0 : l0.length ≤ c0) (h : impl_shapeOf.f k l0 = some r) :
  Calls Try.prog 50 #[.slice A0 l0.length c0] w fun e w' => ∃ v0_ : Value,e = .returned (v0_) ∧ ShapeRet w' w.heap.size l0.length c0 A0 r v0_ ∧ Below w.heap.size w w':=by
 have hu56:=Try.underlying56
 have hu63:=Try.underlying63
 have HR0:=Aside0.mk hr0
 have HC0:=Aside0.mk hc0
 clear hr0 hc0
 unfold impl_shapeOf.f at h
 by_cases c1 : (l0.length : Int) > 60
 ·rw [if_pos c1] at h
  obtain rfl:=Option.some.inj h
  have c1b : decide ((l0.length : Int) > 60) = true:=decide_eq_true c1
  clear h c1
  go_enter Try.func50,Try.ntmps50
  go_wp2
  go_ret
  exact ⟨_,rfl,rfl,Below.refl _ _⟩
 rw [if_neg c1] at h
 have c1b : decide ((l0.length : Int) > 60) = false:=decide_eq_false c1
 obtain ⟨b,A1,H⟩:=Option.bind_eq_some_iff.mp h
 have A1:=Aside0.mk A1
 have HL:=Aside0.mk (show l0.length ≤ 60 by omega)
 clear h c1
 cases b with
 | true =>
  rw [if_pos rfl] at H
  obtain rfl:=Option.some.inj H
  go_enter Try.func50,Try.ntmps50
  go_wp2_with (first | (go_at_call 76;refine (slices_ContainsFunc_impl_Step__impl_shapeOf_1.calls k _ _ l0 true _ HR0.out HC0.out A1.out).mono ?_;rintro e w2 ⟨rfl,hb⟩;have HB2:=Aside0.mk hb;clear hb))
  go_ret
  exact ⟨_,rfl,rfl,HB2.out⟩
 | false =>
  rw [if_neg (by decide)] at H
  have H':=Aside0.mk H
  clear H
  go_enter Try.func50,Try.ntmps50
  go_upto_region 3 with (first | (go_at_call 76;refine (slices_ContainsFunc_impl_Step__impl_shapeOf_1.calls k _ _ l0 false _ HR0.out HC0.out A1.out).mono ?_;rintro e w2 ⟨rfl,hb⟩;have HB2:=Aside0.mk hb;clear hb))
  have HRP:=Aside0.mk (show slices_Repeat_int_int.f [-1] (l0.length : Int) = some (List.replicate l0.length (-1)) by
   unfold slices_Repeat_int_int.f
   dsimp only
   rw [if_pos ⟨by omega,by have:=HL.out;omega⟩,Int.toNat_natCast])
  have hmk:=fun W => run_make_row' (P:=Try.prog) 61 29 (.slice none 0 0) 24 Try.underlying61 (by kernel_rfl) rfl .i64 .i64 l0.length (by have:=HL.out;omega) (by have:=HL.out;omega) W
  have tok1 : Aside0 True:=⟨trivial⟩
  go_cut [3,27] (fun v3 v27 wc => ∃ (g : Nat) (ve vo vp : Value),v3 = .pointer (some ⟨g,0,none⟩) ∧ v27 = vp ∧ Aside0 (ShInv w wc g l0.length c0 A0 ve vo vp (.slice none 0 0) (List.replicate l0.length (-1)) (List.replicate l0.length (-1)) (List.replicate l0.length []) []))
  case first =>
   go_region_held3 (fun _ => True) (trivial) ((first | (go_at_call 79;have u_:=tok1;clear u_ tok1;refine (slices_Repeat_int_int.calls _ 1 [-1] (l0.length : Int) _ _ (C_lit_blk (by repeat (first | ((with_reducible refine blk_new_at ?_);simp;done) | (with_reducible (first | refine blk_drew ?_ | refine blk_drewN ?_ _ | refine blk_alloc ?_ _ | refine blk_below ?_ (by assumption)))))) (by simp) HRP.out).mono ?_;rintro e we ⟨ve,rfl,hoe,hbe⟩;obtain ⟨Ae,ce,ee⟩:=Kd.R_slice hoe;rw [List.length_replicate] at ee;subst ee) | (go_at_call 79;refine (slices_Repeat_int_int.calls _ 1 [-1] (l0.length : Int) _ _ (C_lit_blk (by repeat (first | ((with_reducible refine blk_new_at ?_);simp;done) | (with_reducible (first | refine blk_drew ?_ | refine blk_drewN ?_ _ | refine blk_alloc ?_ _ | refine blk_below ?_ (by assumption)))))) (by simp) HRP.out).mono ?_;rintro e wo ⟨vo,rfl,hoo,hbo⟩;obtain ⟨Ao,co,eo⟩:=Kd.R_slice hoo;rw [List.length_replicate] at eo;subst eo)))
   all_goals go_wp2
   all_goals go_meet
   all_goals have s0:=HB2.out.size
   all_goals have s1:=hbe.size
   all_goals have s2:=hbo.size
   all_goals (try simp at s1)
   all_goals (try simp at s2)
   all_goals refine ⟨_,_,_,_,rfl,rfl,⟨ShInv.make ?_ ?_ ?_ (OwnR.below (OwnR.make ?_ hbe hoe) ?_) (OwnR.below (OwnR.make ?_ hbo hoo) ?_) ?_ ?_ HL.out ?_ ?_ ?_ (by simp) (by simp)⟩⟩
   all_goals first | ((repeat (with_reducible (first | exact HB2.out | exact Below.refl _ _ | refine below_alloc ?_ _ | refine below_drew ?_ | refine pw_below_drewN ?_ _ | refine below_step ?_ (by assumption))));done) | ((repeat (first | ((with_reducible refine blk_new_at ?_);simp;done) | (with_reducible (first | refine blk_drew ?_ | refine blk_drewN ?_ _ | refine blk_alloc ?_ _ | refine blk_below ?_ (by assumption)))));done) | omega | (simp;done) | (simp;omega)
  case rest =>
   obtain ⟨g,ve,vo,vp,rfl,hv27,HI⟩:=hcut
   clear hv27
   have HI1:=Aside0.mk HI.out.lit
   clear HI
   clear HRP hmk tok1 HB2
   go_wp2
   go_loopg [4,33] k (fun kq v4 v33 w' => ∃ (e o : List Int) (p : List (List Int)) (st : List Int) (i : Nat),v33 = .int .i64 (i : Int) ∧ Aside0 (impl_shapeOf.l0 kq l0 e o p st i = some r) ∧ Aside0 (kq ≤ k) ∧ Aside0 (ShInv w w' g l0.length c0 A0 ve vo vp v4 e o p st))
   case atStart => exact ⟨_,_,_,_,0,rfl,H',⟨Nat.le_refl _⟩,HI1⟩
   case round =>
    clear H' HI1
    obtain ⟨e,o,p,st,i,rfl,HA,HK1,HI⟩:=hrel
    cases gk with
    | zero => exact absurd HA.out (by simp [impl_shapeOf.l0])
    | succ k1 =>
     have H:=HA.out
     clear HA
     simp only [impl_shapeOf.l0] at H
     by_cases c2 : i < l0.length
     rotate_left
     ·rw [if_neg c2] at H
      have c2b : decide (i < l0.length) = false:=decide_eq_false c2
      obtain ⟨As,cs,es⟩:=Kd.R_slice HI.out.sr
      subst es
      by_cases c3 : st.length > 0
      ·rw [if_pos c3] at H
       obtain rfl:=Option.some.inj H
       have c3b : decide (0 < st.length) = true:=decide_eq_true c3
       clear c2 c3
       go_wp2
       go_ret
       exact ⟨_,rfl,rfl,HI.out.below⟩
      ·rw [if_neg c3] at H
       obtain rfl:=Option.some.inj H
       have c3b : decide (0 < st.length) = false:=decide_eq_false c3
       have c3c : decide ((st.length : Int) > 0) = false:=decide_eq_false (by omega)
       clear c2 c3
       go_wp2
       go_ret
       exact ⟨_,rfl,⟨g,rfl,HI.out.done⟩,HI.out.below⟩
     rw [if_pos c2] at H
     have c2b : decide (i < l0.length) = true:=decide_eq_true c2
     by_cases c3 : st.length < 17592186044416
     rotate_left
     ·rw [if_neg c3] at H;exact absurd H (by simp)
     rw [if_pos c3] at H
     obtain ⟨d,A2,H⟩:=Option.bind_eq_some_iff.mp H
     have A2:=Aside0.mk A2
     obtain ⟨ad,AT,cT,eA,hx0,hx1,hx2,hlT,hiT⟩:=at_T56 HR0.out (i : Int) (by omega) (by omega)
     cases eA
     obtain ⟨x,hx⟩ : ∃ x,x = rd_T56 l0 (i : Int):=⟨_,rfl⟩
     rw [← hx] at hx0 hx1 hx2 hlT hiT H A2
     have HX:=Aside0.mk hx
     have HLT:=Aside0.mk hlT
     have HIT:=Aside0.mk hiT
     have hy0:=pw_cell_below HI.out.below hx0
     have hy1:=pw_cell_below HI.out.below hx1
     have hy2:=pw_cell_below HI.out.below hx2
     have HC2:=Aside0.mk c2
     have HC3:=Aside0.mk c3
     have p2 : (0 : Int) ≤ (i : Int):=by omega
     have p3 : (i : Int) < (l0.length : Int):=by omega
     have p4 : (i : Int) ≤ 60:=by have:=HL.out;omega
     have p5 : (st.length : Int) ≤ 17592186044416:=by omega
     rw [Int.toNat_natCast] at hy0 hy1 hy2
     obtain ⟨As,cs,es⟩:=Kd.R_slice HI.out.sr
     subst es
     clear hx0 hx1 hx2 hx hlT hiT c2 c3
     obtain ⟨ge,ce,go,co,gp,cp,rfl,rfl,rfl,ng1,ng2,ng3⟩:=HI.out.forms (by omega)
     have HCL:=Aside0.mk (show slices_Clone_int_int.f st = some st by unfold slices_Clone_int_int.f;rw [if_pos HC3.out])
     have HST:=Aside0.mk (Kd.R_reads' HI.out.sr).2.2
     have HSC:=Aside0.mk (R_cap HI.out.sr)
     have HGPL:=Aside0.mk (Kd.S_lt HI.out.pr gp (by simp [Value.ownBlock]))
     have NG:=Aside0.mk (And.intro ng1 (And.intro ng2 ng3))
     clear ng1 ng2 ng3
     go_upto_region 8 with (fail)
     have HI8:=Aside0.mk ((HI.out.step (below_alloc (Below.refl _ _) (.cells #[.int .i64 x.f0,.int .i64 x.f1,.slice AT x.f2.length cT] 56))).drew)
     have HBX:=Aside0.mk (heap_alloc_new wr (.cells #[.int .i64 x.f0,.int .i64 x.f1,.slice AT x.f2.length cT] 56))
     have hg3 : (World.drew (wr.alloc (.cells #[.int .i64 x.f0,.int .i64 x.f1,.slice AT x.f2.length cT] 56))).cell? ⟨g,3,none⟩ = some (.slice (some ⟨gp,0,none⟩) l0.length cp):=(blk_cell HI8.out.blk 3).trans rfl
     go_cut [6] (fun v6 wd => ∃ gx,v6 = .pointer (some ⟨gx,0,none⟩) ∧ Aside0 (wd.heap[gx]? = some (.cells #[.int .i64 x.f0,.int .i64 x.f1,.slice AT x.f2.length cT] 56 (0,0))) ∧ Aside0 (ShInv w wd g l0.length c0 (some ad) (.slice (some ⟨ge,0,none⟩) l0.length ce) (.slice (some ⟨go,0,none⟩) l0.length co) (.slice (some ⟨gp,0,none⟩) l0.length cp) (.slice As st.length cs) e o (p.set i st) st))
     case first =>
      go_region_held3 (fun w' => w'.cell? ⟨g,3,none⟩ = some (.slice (some ⟨gp,0,none⟩) l0.length cp)) ((first | exact hg3 | assumption | (refine (cell_far ?_ _).trans ?_;exact NG.out.2.2;assumption))) ((go_at_call 80;refine (slices_Clone_int_int.calls As cs st st _ (Kd.C_drew (Kd.C_alloc HST.out _)) HSC.out HCL.out).mono ?_;rintro e w9 ⟨vy,rfl,hoy,hby⟩;obtain ⟨Ay,cy,ey⟩:=Kd.R_slice hoy;subst ey;have hg9 : w9.cell? ⟨g,3,none⟩ = some (.slice (some ⟨gp,0,none⟩) l0.length cp):=pw_cell_below hby hg3;have hfl:=HI8.out.fill i HC2.out hby hoy;obtain ⟨gp',cp',hvp,hfz,⟨u_,hcu⟩,HN⟩:=hfl;injection hvp with hvp;injection hvp with hvp;injection hvp with hvp;subst hvp;have HN:=Aside0.mk HN;have HBN:=Aside0.mk (blk_below (blk_drew HBX.out) hby);clear hoy hby))
      all_goals go_wp2
      all_goals go_meet
      all_goals exact ⟨_,rfl,⟨blk_far HBN.out (p:=⟨gp,i,none⟩) (fun e_ => by have q_:=HGPL.out;have e2_ : wr.heap.size = gp:=e_;omega) _⟩,HN⟩
     case rest =>
      obtain ⟨gx,rfl,HBX2,HI2⟩:=hcut
      have hb0 : wc.cell? ⟨gx,0,none⟩ = some (.int .i64 x.f0):=(blk_cell HBX2.out 0).trans rfl
      have hb1 : wc.cell? ⟨gx,1,none⟩ = some (.int .i64 x.f1):=(blk_cell HBX2.out 1).trans rfl
      have hb2 : wc.cell? ⟨gx,2,none⟩ = some (.slice AT x.f2.length cT):=(blk_cell HBX2.out 2).trans rfl
      clear hy0 hy1 hy2 hg3 HI HI8 HBX HGPL HCL HST
      by_cases c4 : d > (st.length : Int)
      ·rw [if_pos c4] at H
       obtain rfl:=Option.some.inj H
       have c4b : decide (d > (st.length : Int)) = true:=decide_eq_true c4
       clear c4
       go_wp2_with (first | (go_at_call 81;refine (impl_Step_deepest.calls k1 x.f0 x.f1 AT cT x.f2 d _ (Kd.C_below HIT.out HI2.out.below) HLT.out A2.out).mono ?_;rintro e w10 ⟨rfl,hb⟩;have HI3:=Aside0.mk (HI2.out.step hb);have HBX3:=Aside0.mk (blk_below HBX2.out hb);have hb0 : w10.cell? ⟨gx,0,none⟩ = some (.int .i64 x.f0):=(blk_cell HBX3.out 0).trans rfl;clear hb))
       go_ret
       exact ⟨_,rfl,rfl,HI3.out.below⟩
      rw [if_neg c4] at H
      have c4b : decide (d > (st.length : Int)) = false:=decide_eq_false c4
      obtain ⟨b,A3,H⟩:=Option.bind_eq_some_iff.mp H
      have A3:=Aside0.mk A3
      clear c4
      cases b with
      | true =>
       rw [if_pos rfl] at H
       by_cases c5 : st.length + 1 > 8
       ·rw [if_pos c5] at H
        obtain rfl:=Option.some.inj H
        have c5b : decide ((8 : Int) < (st.length : Int) + 1) = true:=decide_eq_true (by omega)
        clear c5
        go_wp2_with (first | (go_at_call 81;refine (impl_Step_deepest.calls k1 x.f0 x.f1 AT cT x.f2 d _ (Kd.C_below HIT.out HI2.out.below) HLT.out A2.out).mono ?_;rintro e w10 ⟨rfl,hb⟩;have HI3:=Aside0.mk (HI2.out.step hb);have HBX3:=Aside0.mk (blk_below HBX2.out hb);have hb0 : w10.cell? ⟨gx,0,none⟩ = some (.int .i64 x.f0):=(blk_cell HBX3.out 0).trans rfl;clear hb) | (go_at_call 82;refine (impl_opens.calls x.f0 true _ A3.out).mono ?_;rintro e w11 ⟨rfl,⟨nd,rfl⟩⟩) | ((with_reducible refine gate_builtin (b:=.append) (xs:=#[.tmp 59,.tmp 61]) rfl ?_);at_builtin;refine Kd.R_append (Kd.int .i64) (w0:=w) w.heap.size rfl (.tmp 59) (.tmp 61) 29 3 (.int .i64 0) 8 rfl Try.underlying29 (by kernel_rfl) rfl (by decide) (by omega) (.slice As st.length cs) st (i : Int) [.int .i64 (i : Int)] (fun k_ => some k_ = (.slice As st.length cs : Value).ownBlock ∨ w10.heap.size ≤ k_) (fun _ => False) rfl rfl ?aP (fun _ hk => hk.elim) ?aF ?aO ?aB ?aS ?aL ?_;(case aP => exact rfl);(case aF => exact fun k_ hk_ => .inr hk_);(case aO => exact Kd.R_mono (Kd.R_drewN HI3.out.sr nd) (fun k_ h_ => .inl h_));(case aB => exact pw_below_drewN HI3.out.below nd);(case aS => exact HI3.out.below.size);(case aL => have:=HC3.out;omega);intro v4 w12 ho12 hb12 hg12 hat12;have HI4:=Aside0.mk ((HI3.out.drewN nd).push ho12 hb12 hg12 hat12);obtain ⟨Av,cv,ev⟩:=Kd.R_slice ho12;rw [List.length_append,List.length_singleton] at ev;subst ev;clear ho12 hb12 hg12 hat12))
        go_ret
        exact ⟨_,rfl,rfl,HI4.out.below⟩
       ·rw [if_neg c5] at H
        have c5b : decide ((8 : Int) < (st.length : Int) + 1) = false:=decide_eq_false (by omega)
        have H':=Aside0.mk H
        clear H c5
        go_wp2_with (first | (go_at_call 81;refine (impl_Step_deepest.calls k1 x.f0 x.f1 AT cT x.f2 d _ (Kd.C_below HIT.out HI2.out.below) HLT.out A2.out).mono ?_;rintro e w10 ⟨rfl,hb⟩;have HI3:=Aside0.mk (HI2.out.step hb);have HBX3:=Aside0.mk (blk_below HBX2.out hb);have hb0 : w10.cell? ⟨gx,0,none⟩ = some (.int .i64 x.f0):=(blk_cell HBX3.out 0).trans rfl;clear hb) | (go_at_call 82;refine (impl_opens.calls x.f0 true _ A3.out).mono ?_;rintro e w11 ⟨rfl,⟨nd,rfl⟩⟩) | ((with_reducible refine gate_builtin (b:=.append) (xs:=#[.tmp 59,.tmp 61]) rfl ?_);at_builtin;refine Kd.R_append (Kd.int .i64) (w0:=w) w.heap.size rfl (.tmp 59) (.tmp 61) 29 3 (.int .i64 0) 8 rfl Try.underlying29 (by kernel_rfl) rfl (by decide) (by omega) (.slice As st.length cs) st (i : Int) [.int .i64 (i : Int)] (fun k_ => some k_ = (.slice As st.length cs : Value).ownBlock ∨ w10.heap.size ≤ k_) (fun _ => False) rfl rfl ?aP (fun _ hk => hk.elim) ?aF ?aO ?aB ?aS ?aL ?_;(case aP => exact rfl);(case aF => exact fun k_ hk_ => .inr hk_);(case aO => exact Kd.R_mono (Kd.R_drewN HI3.out.sr nd) (fun k_ h_ => .inl h_));(case aB => exact pw_below_drewN HI3.out.below nd);(case aS => exact HI3.out.below.size);(case aL => have:=HC3.out;omega);intro v4 w12 ho12 hb12 hg12 hat12;have HI4:=Aside0.mk ((HI3.out.drewN nd).push ho12 hb12 hg12 hat12);obtain ⟨Av,cv,ev⟩:=Kd.R_slice ho12;rw [List.length_append,List.length_singleton] at ev;subst ev;clear ho12 hb12 hg12 hat12))
        go_roundg k1
        case measure => have:=HK1.out;omega
        case rel => exact ⟨_,_,_,_,i + 1,by go_num,H',⟨by have:=HK1.out;omega⟩,HI4⟩
      | false =>
       rw [if_neg (by decide)] at H
       by_cases c5 : x.f0 = 18
       ·rw [if_pos c5] at H
        have f18 : (x.f0 == 18) = true:=by simpa using c5
        clear c5
        by_cases c6 : st.length = 0
        ·rw [if_pos c6] at H
         obtain rfl:=Option.some.inj H
         have c6b : decide ((st.length : Int) - 1 < 0) = true:=decide_eq_true (by omega)
         have c6c : decide ((st.length : Int) < 1) = true:=decide_eq_true (by omega)
         clear c6
         go_upto_region 17 with (first | (go_at_call 81;refine (impl_Step_deepest.calls k1 x.f0 x.f1 AT cT x.f2 d _ (Kd.C_below HIT.out HI2.out.below) HLT.out A2.out).mono ?_;rintro e w10 ⟨rfl,hb⟩;have HI3:=Aside0.mk (HI2.out.step hb);have HBX3:=Aside0.mk (blk_below HBX2.out hb);have hb0 : w10.cell? ⟨gx,0,none⟩ = some (.int .i64 x.f0):=(blk_cell HBX3.out 0).trans rfl;clear hb) | (go_at_call 82;refine (impl_opens.calls x.f0 false _ A3.out).mono ?_;rintro e w11 ⟨rfl,⟨nd,rfl⟩⟩))
         go_quiet (fail)
         go_wp2
         go_ret
         exact ⟨_,rfl,rfl,pw_below_drewN (pw_below_drewN HI3.out.below _) _⟩
        ·rw [if_neg c6] at H
         have hcast : ((st.length - 1 : Nat) : Int) = (st.length : Int) - 1:=by omega
         rw [hcast] at H
         have q0 : (0 : Int) ≤ (st.length : Int) - 1:=by omega
         have q1 : (st.length : Int) - 1 < (st.length : Int):=by omega
         have c6b : decide ((st.length : Int) - 1 < 0) = false:=decide_eq_false (by omega)
         have c6c : decide ((st.length : Int) < 1) = false:=decide_eq_false (by omega)
         have q2 : (1 : Int) ≤ (st.length : Int):=by omega
         by_cases c7 : 0 ≤ rd st ((st.length : Int) - 1)
         rotate_left
         ·rw [if_neg c7] at H;exact absurd H (by simp)
         rw [if_pos c7] at H
         obtain ⟨tn,htn⟩ : ∃ tn : Nat,rd st ((st.length : Int) - 1) = (tn : Int):=⟨(rd st ((st.length : Int) - 1)).toNat,by omega⟩
         rw [htn] at H
         by_cases c8 : (tn : Int) < (l0.length : Int)
         rotate_left
         ·rw [if_neg c8] at H;exact absurd H (by simp)
         rw [if_pos c8] at H
         obtain ⟨ad',AY,cY,eY,hyx,_,_,_,_⟩:=at_T56 HR0.out (tn : Int) (by omega) c8
         injection eY with eY
         subst eY
         obtain ⟨y,hy⟩ : ∃ y,y = (rd_T56 l0 (tn : Int)).f0:=⟨_,rfl⟩
         rw [← hy] at hyx H
         have HY:=Aside0.mk hyx
         have HTN:=Aside0.mk htn
         have c80 : (0 : Int) ≤ (tn : Int):=by omega
         have c8n : tn < l0.length:=by omega
         clear c6 c7 hyx hy hcast htn
         go_upto_region 17 with (first | (go_at_call 81;refine (impl_Step_deepest.calls k1 x.f0 x.f1 AT cT x.f2 d _ (Kd.C_below HIT.out HI2.out.below) HLT.out A2.out).mono ?_;rintro e w10 ⟨rfl,hb⟩;have HI3:=Aside0.mk (HI2.out.step hb);have HBX3:=Aside0.mk (blk_below HBX2.out hb);have hb0 : w10.cell? ⟨gx,0,none⟩ = some (.int .i64 x.f0):=(blk_cell HBX3.out 0).trans rfl;clear hb) | (go_at_call 82;refine (impl_opens.calls x.f0 false _ A3.out).mono ?_;rintro e w11 ⟨rfl,⟨nd,rfl⟩⟩))
         obtain ⟨adS,eS,hsx⟩:=Kd.at_int (Kd.R_reads' HI3.out.sr).2.2 ((st.length : Int) - 1) q0 q1
         cases eS
         rw [HTN.out] at hsx
         have hsy:=hsx
         rw [show ((st.length : Int) - 1).toNat = st.length - 1 by omega] at hsy
         obtain ⟨go',co',eo,hox,hof,_⟩:=HI3.out.other tn c8n 0
         injection eo with eo
         injection eo with eo
         injection eo with eo
         subst eo
         have hg2 : w10.cell? ⟨g,2,none⟩ = some (.slice (some ⟨go,0,none⟩) l0.length co):=(blk_cell HI3.out.blk 2).trans rfl
         have hy10:=pw_cell_below HI3.out.below HY.out
         rw [Int.toNat_natCast] at hy10
         by_cases c9 : y = 17
         rotate_left
         ·rw [if_neg c9] at H
          obtain rfl:=Option.some.inj H
          have f17 : (y != 17) = true:=by simpa using c9
          clear c9 c8n
          go_quiet (fail)
          go_wp2
          go_ret
          exact ⟨_,rfl,rfl,pw_below_drewN HI3.out.below _⟩
         rw [if_pos c9] at H
         have f17 : (y != 17) = false:=by simpa using c9
         clear c9
         by_cases c9 : 0 ≤ rd o (tn : Int)
         ·rw [if_pos c9] at H
          obtain rfl:=Option.some.inj H
          have c9b : decide (0 ≤ rd o (tn : Int)) = true:=decide_eq_true c9
          clear c9 c8n
          go_quiet (fail)
          go_wp2
          go_ret
          exact ⟨_,rfl,rfl,pw_below_drewN HI3.out.below _⟩
         ·rw [if_neg c9] at H
          have c9b : decide (0 ≤ rd o (tn : Int)) = false:=decide_eq_false c9
          rw [Int.toNat_natCast] at H
          have H':=Aside0.mk H
          have C8:=Aside0.mk c8n
          clear c9 c8n H
          go_quiet (fail)
          go_wp2
          have HNS:=Aside0.mk (show ¬ go = adS.block by have:=HI3.out.os go (by simp [Value.ownBlock]);simpa [Value.ownBlock] using this)
          go_region_held3 (fun w' => w'.cell? ⟨g,2,none⟩ = some (.slice (some ⟨go,0,none⟩) l0.length co) ∧ w'.cell? (adS.add (st.length - 1)) = some (.int .i64 (tn : Int))) ((first | exact ⟨hg2,hsy⟩ | (refine ⟨(cell_far ?_ _).trans ?_,(cell_far ?_ _).trans ?_⟩;exact NG.out.2.1;exact hg2;(rw [add_block];exact fun e_ => HNS.out e_.symm);exact hsy))) (fail)
          obtain ⟨go',co',eo,_,_,HN⟩:=(((HI3.out.drewN (nd + nq)).drew).other tn C8.out (i : Int))
          injection eo with eo
          injection eo with eo
          injection eo with eo
          subst eo
          have HN:=Aside0.mk HN
          go_wp2
          go_roundg k1
          case measure => have:=HK1.out;omega
          case rel => exact ⟨_,_,_,_,i + 1,by go_num,H',⟨by have:=HK1.out;omega⟩,HN⟩
       ·rw [if_neg c5] at H
        have f18 : (x.f0 == 18) = false:=by simpa using c5
        clear c5
        by_cases c5 : x.f0 = 19
        ·rw [if_pos c5] at H
         have f19 : (x.f0 == 19) = true:=by simpa using c5
         clear c5
         by_cases c6 : st.length = 0
         ·rw [if_pos c6] at H
          obtain rfl:=Option.some.inj H
          have c6b : decide ((st.length : Int) - 1 < 0) = true:=decide_eq_true (by omega)
          have c6c : decide ((st.length : Int) < 1) = true:=decide_eq_true (by omega)
          clear c6
          go_wp2_with (first | (go_at_call 81;refine (impl_Step_deepest.calls k1 x.f0 x.f1 AT cT x.f2 d _ (Kd.C_below HIT.out HI2.out.below) HLT.out A2.out).mono ?_;rintro e w10 ⟨rfl,hb⟩;have HI3:=Aside0.mk (HI2.out.step hb);have HBX3:=Aside0.mk (blk_below HBX2.out hb);have hb0 : w10.cell? ⟨gx,0,none⟩ = some (.int .i64 x.f0):=(blk_cell HBX3.out 0).trans rfl;clear hb) | (go_at_call 82;refine (impl_opens.calls x.f0 false _ A3.out).mono ?_;rintro e w11 ⟨rfl,⟨nd,rfl⟩⟩))
          go_ret
          exact ⟨_,rfl,rfl,pw_below_drewN HI3.out.below _⟩
         ·rw [if_neg c6] at H
          have hcast : ((st.length - 1 : Nat) : Int) = (st.length : Int) - 1:=by omega
          rw [hcast] at H
          have q0 : (0 : Int) ≤ (st.length : Int) - 1:=by omega
          have q1 : (st.length : Int) - 1 < (st.length : Int):=by omega
          have c6b : decide ((st.length : Int) - 1 < 0) = false:=decide_eq_false (by omega)
          have c6c : decide ((st.length : Int) < 1) = false:=decide_eq_false (by omega)
          have q2 : (1 : Int) ≤ (st.length : Int):=by omega
          by_cases c7 : 0 ≤ rd st ((st.length : Int) - 1)
          rotate_left
          ·rw [if_neg c7] at H;exact absurd H (by simp)
          rw [if_pos c7] at H
          obtain ⟨tn,htn⟩ : ∃ tn : Nat,rd st ((st.length : Int) - 1) = (tn : Int):=⟨(rd st ((st.length : Int) - 1)).toNat,by omega⟩
          rw [htn] at H
          by_cases c8 : (tn : Int) < (i : Int)
          rotate_left
          ·rw [if_neg c8] at H;exact absurd H (by simp)
          rw [if_pos c8] at H
          have HTN:=Aside0.mk htn
          have c80 : (0 : Int) ≤ (tn : Int):=by omega
          have c81 : (tn : Int) < (l0.length : Int):=by omega
          have C8:=Aside0.mk (show tn < i ∧ i < l0.length by omega)
          rw [Int.toNat_natCast] at H
          clear c6 c7 hcast htn c8
          obtain ⟨adS,eS,hsx0⟩:=Kd.at_int (Kd.R_reads' HI2.out.sr).2.2 ((st.length : Int) - 1) q0 q1
          cases eS
          rw [HTN.out] at hsx0
          rw [show ((st.length : Int) - 1).toNat = st.length - 1 by omega] at hsx0
          go_upto_region 24 with (first | (go_at_call 81;refine (impl_Step_deepest.calls k1 x.f0 x.f1 AT cT x.f2 d _ (Kd.C_below HIT.out HI2.out.below) HLT.out A2.out).mono ?_;rintro e w10 ⟨rfl,hb⟩;have HI3:=Aside0.mk (HI2.out.step hb);have HBX3:=Aside0.mk (blk_below HBX2.out hb);have hb0 : w10.cell? ⟨gx,0,none⟩ = some (.int .i64 x.f0):=(blk_cell HBX3.out 0).trans rfl;have hsx1:=pw_cell_below hb hsx0;clear hb) | (go_at_call 82;refine (impl_opens.calls x.f0 false _ A3.out).mono ?_;rintro e w11 ⟨rfl,⟨nd,rfl⟩⟩))
          obtain ⟨ge',ce',eo,hci,hfi,HN1⟩:=HI3.out.end_ i C8.out.2 (tn : Int)
          injection eo with eo
          injection eo with eo
          injection eo with eo
          subst eo
          obtain ⟨ge',ce',eo,hct,hft,HN2⟩:=HN1.end_ tn (by have:=C8.out;omega) (i : Int)
          injection eo with eo
          injection eo with eo
          injection eo with eo
          subst eo
          obtain ⟨ge',ce',eo,hct0,hft0,_⟩:=HI3.out.end_ tn (by have:=C8.out;omega) 0
          injection eo with eo
          injection eo with eo
          injection eo with eo
          subst eo
          have hne1 : (i = tn) = False:=eq_false (by have:=C8.out;omega)
          have hne2 : (tn = i) = False:=eq_false (by have:=C8.out;omega)
          have HN2:=Aside0.mk HN2
          have hg1 : w10.cell? ⟨g,1,none⟩ = some (.slice (some ⟨ge,0,none⟩) l0.length ce):=(blk_cell HI3.out.blk 1).trans rfl
          clear HN1
          go_cut [8] (fun v8 wd => v8 = .int .i64 (tn : Int) ∧ Aside0 (ShInv w wd g l0.length c0 (some ad) (.slice (some ⟨ge,0,none⟩) l0.length ce) (.slice (some ⟨go,0,none⟩) l0.length co) (.slice (some ⟨gp,0,none⟩) l0.length cp) (.slice (some adS) st.length cs) ((e.set i (tn : Int)).set tn (i : Int)) o (p.set i st) st))
          case first =>
           go_region_held3 (fun w' => w'.cell? ⟨g,1,none⟩ = some (.slice (some ⟨ge,0,none⟩) l0.length ce)) ((first | exact hg1 | (refine (cell_far ?_ _).trans ?_;exact NG.out.1;first | exact hg1 | (refine (cell_far ?_ _).trans ?_;exact NG.out.1;exact hg1)))) (fail)
           all_goals go_wp2
           all_goals go_meet
           all_goals exact ⟨rfl,⟨HN2.out.drewN (nd + 1)⟩⟩
          case rest =>
           obtain ⟨rfl,HI5⟩:=hcut
           have C9:=Aside0.mk (show tn < l0.length by have:=C8.out;omega)
           obtain ⟨go',co',eo,hot,hof,_⟩:=HI5.out.other tn C9.out 0
           injection eo with eo
           injection eo with eo
           injection eo with eo
           subst eo
           have hg1 : wc.cell? ⟨g,1,none⟩ = some (.slice (some ⟨ge,0,none⟩) l0.length ce):=(blk_cell HI5.out.blk 1).trans rfl
           have hg2 : wc.cell? ⟨g,2,none⟩ = some (.slice (some ⟨go,0,none⟩) l0.length co):=(blk_cell HI5.out.blk 2).trans rfl
           have q3 : (st.length : Int) - 1 ≤ (cs : Int):=by have:=R_cap HI5.out.sr;omega
           clear HN2 HI2 hsx0
           by_cases c9 : 0 ≤ rd o (tn : Int)
           ·rw [if_pos c9] at H
            by_cases c10 : rd o (tn : Int) < (l0.length : Int)
            rotate_left
            ·rw [if_neg c10] at H;exact absurd H (by simp)
            rw [if_pos c10] at H
            obtain ⟨un,hun⟩ : ∃ un : Nat,rd o (tn : Int) = (un : Int):=⟨(rd o (tn : Int)).toNat,by omega⟩
            rw [hun,Int.toNat_natCast] at H
            rw [hun] at hot c9 c10
            obtain ⟨ge',ce',eo,hcu,hfu,HNE⟩:=HI5.out.end_ un (by omega) (i : Int)
            injection eo with eo
            injection eo with eo
            injection eo with eo
            subst eo
            have HN:=Aside0.mk (HNE.pop (m:=st.length - 1) (by omega))
            have H':=Aside0.mk H
            have HOE:=Aside0.mk (show ¬ ge = go by have:=HI5.out.eo ge (by simp [Value.ownBlock]);simpa [Value.ownBlock] using this)
            clear H hun HNE
            go_upto_region 26 with (fail)
            go_region_held3 (fun w' => w'.cell? ⟨g,1,none⟩ = some (.slice (some ⟨ge,0,none⟩) l0.length ce) ∧ w'.cell? ⟨g,2,none⟩ = some (.slice (some ⟨go,0,none⟩) l0.length co) ∧ w'.cell? ⟨go,tn,none⟩ = some (.int .i64 (un : Int))) ((first | exact ⟨hg1,hg2,hot⟩ | (refine ⟨(cell_far ?_ _).trans ?_,(cell_far ?_ _).trans ?_,(cell_far ?_ _).trans ?_⟩;exact NG.out.1;exact hg1;exact NG.out.1;exact hg2;exact fun e_ => HOE.out e_.symm;exact hot))) (fail)
            go_wp2
            go_roundg k1
            case measure => have:=HK1.out;omega
            case rel => exact ⟨_,_,_,_,i + 1,by go_num,H',⟨by have:=HK1.out;omega⟩,⟨HN.out.drewN 1⟩⟩
           ·rw [if_neg c9] at H
            have c9b : decide (0 ≤ rd o (tn : Int)) = false:=decide_eq_false c9
            have H':=Aside0.mk H
            have HN:=Aside0.mk (HI5.out.pop (m:=st.length - 1) (by omega))
            clear c9 H
            go_wp2
            go_roundg k1
            case measure => have:=HK1.out;omega
            case rel => exact ⟨_,_,_,_,i + 1,by go_num,H',⟨by have:=HK1.out;omega⟩,HN⟩
        ·rw [if_neg c5] at H
         have f19 : (x.f0 == 19) = false:=by simpa using c5
         have H':=Aside0.mk H
         clear H c5
         go_wp2_with (first | (go_at_call 81;refine (impl_Step_deepest.calls k1 x.f0 x.f1 AT cT x.f2 d _ (Kd.C_below HIT.out HI2.out.below) HLT.out A2.out).mono ?_;rintro e w10 ⟨rfl,hb⟩;have HI3:=Aside0.mk (HI2.out.step hb);have HBX3:=Aside0.mk (blk_below HBX2.out hb);have hb0 : w10.cell? ⟨gx,0,none⟩ = some (.int .i64 x.f0):=(blk_cell HBX3.out 0).trans rfl;clear hb) | (go_at_call 82;refine (impl_opens.calls x.f0 false _ A3.out).mono ?_;rintro e w11 ⟨rfl,⟨nd,rfl⟩⟩))
         go_roundg k1
         case measure => have:=HK1.out;omega
         case rel => exact ⟨_,_,_,_,i + 1,by go_num,H',⟨by have:=HK1.out;omega⟩,⟨HI3.out.drewN _⟩⟩

end Go.Proofs.Ytmljikgegclolaa.Q
