-- WRITTEN BY A PROGRAM OF THIS SESSION
import Derived.Test.YtmljikgegclolaaQ0
import Derived.Test.YtmljikgegclolaaQ10
namespace Go.Proofs.Ytmljikgegclolaa.Q
open Go.RowKit Go.Proofs.YtmljikgegclolaaW.PrintWords Go.Proofs.YtmljikgegclolaaW.PrintLast Go.Proofs.YtmljikgegclolaaW.PrintMore
attribute [local go_sem] max2_int min2_int max_two min_two max_three min_three max_four min_four   -- for this text's walks alone
set_option linter.unusedVariables false
set_option linter.unusedSimpArgs false

/-- A state of type 108 at block g of W; what its slices lead to came in by w0. -/
def IsS108 (w0 W : World) (g : Nat) (f0 : Int) (f1 : Bool) (f2 : List (S105)) : Prop:=∃ A2 c2,W.heap[g]? = some (.cells #[.int .i64 f0,.bool f1,.slice A2 f2.length c2] 108 (0,0)) ∧ w0.heap.size ≤ g ∧ Kd.C k105 w0 A2 f2.length f2
theorem IsS108.grown {w0 W : World} {g : Nat} {f0 : Int} {f1 : Bool} {f2 : List (S105)} {W1 : World} {row : Option Nat} (h : IsS108 w0 W g f0 f1 f2) (hw : W.grownBy W1 row) (hne : some g ≠ row) : IsS108 w0 W1 g f0 f1 f2:=by
 obtain ⟨A2,c2,hb,hg,hr2⟩:=h
 exact ⟨A2,c2,blk_grown hb hw hne,hg,hr2⟩
theorem IsS108.own_neN {w0 W : World} {g : Nat} {f0 : Int} {f1 : Bool} {f2 : List (S105)} {α : Type} {d : Kd α} {e : Nat} {base : Nat} {ok : Nat → Prop} {v : Value} {xs : List α} (h : IsS108 w0 W g f0 f1 f2) (ho : Kd.N d e W base ok v xs) (ht : e ≠ 108) : some g ≠ v.ownBlock:=by
 obtain ⟨A2,c2,hb,hg,hr2⟩:=h
 exact Kd.N_ne ho hb ht
theorem IsS108.fresh {w0 W : World} {g : Nat} {f0 : Int} {f1 : Bool} {f2 : List (S105)} (h : IsS108 w0 W g f0 f1 f2) : ∀ k,W.heap.size ≤ k → k ≠ g:=by
 obtain ⟨A2,c2,hb,hg,hr2⟩:=h
 exact Kd.freshB hb
theorem IsS108.kept {w0 W : World} {g : Nat} {f0 : Int} {f1 : Bool} {f2 : List (S105)} {W1 : World} {S : Nat → Prop} (h : IsS108 w0 W g f0 f1 f2) (hk : Kept W W1 S) (hne : ¬ S g) : IsS108 w0 W1 g f0 f1 f2:=by
 obtain ⟨A2,c2,hb,hg,hr2⟩:=h
 exact ⟨A2,c2,blk_kept hb hk hne,hg,hr2⟩
theorem IsS108.below {w0 W : World} {g : Nat} {f0 : Int} {f1 : Bool} {f2 : List (S105)} {W1 : World} (h : IsS108 w0 W g f0 f1 f2) (hw : Below W.heap.size W W1) : IsS108 w0 W1 g f0 f1 f2:=h.grown (grown_of_below hw none) (by simp)
theorem IsS108.alloc {w0 W : World} {g : Nat} {f0 : Int} {f1 : Bool} {f2 : List (S105)} (h : IsS108 w0 W g f0 f1 f2) (o : Obj) : IsS108 w0 (W.alloc o) g f0 f1 f2:=h.below (below_alloc (Below.refl _ _) o)
theorem IsS108.drewN {w0 W : World} {g : Nat} {f0 : Int} {f1 : Bool} {f2 : List (S105)} (h : IsS108 w0 W g f0 f1 f2) (m : Nat) : IsS108 w0 (W.drewN m) g f0 f1 f2:=h
theorem IsS108.drew {w0 W : World} {g : Nat} {f0 : Int} {f1 : Bool} {f2 : List (S105)} (h : IsS108 w0 W g f0 f1 f2) : IsS108 w0 W.drew g f0 f1 f2:=h
theorem IsS108.at_ {w0 W : World} {g : Nat} {f0 : Int} {f1 : Bool} {f2 : List (S105)} {w' : World} {m : Nat} (hq : W.drewN m = w') (h : IsS108 w0 W g f0 f1 f2) : IsS108 w0 w' g f0 f1 f2:=by subst hq;exact IsS108.drewN h m
theorem IsS108.apart {w0 W : World} {g : Nat} {f0 : Int} {f1 : Bool} {f2 : List (S105)} {α : Type} {d : Kd α} {e : Nat} {base : Nat} {ok : Nat → Prop} {v : Value} {xs : List α} (h : IsS108 w0 W g f0 f1 f2) (ho : d.R e W base ok v xs) (ht : ∀ q,q ∈ e :: d.E → q ≠ 108) : d.R e W base (fun k => ok k ∧ k ≠ g) v xs:=by
 obtain ⟨A2,c2,hb,hg,hr2⟩:=h
 exact Kd.R_types ho hb ht
theorem IsS108.own_ne {w0 W : World} {g : Nat} {f0 : Int} {f1 : Bool} {f2 : List (S105)} {α : Type} {d : Kd α} {e : Nat} {base : Nat} {ok : Nat → Prop} {v : Value} {xs : List α} (h : IsS108 w0 W g f0 f1 f2) (ho : d.R e W base ok v xs) (ht : e ≠ 108) : some g ≠ v.ownBlock:=by
 obtain ⟨A2,c2,hb,hg,hr2⟩:=h
 exact Kd.R_ne ho hb ht
theorem IsS108.apartQ {w0 W : World} {g : Nat} {f0 : Int} {f1 : Bool} {f2 : List (S105)} {α : Type} {d : Kd α} {e : Nat} {base : Nat} {ok : Nat → Prop} {v : Value} {xs : List α} (h : IsS108 w0 W g f0 f1 f2) (ho : d.Q e W base ok v xs) (ht : ∀ q,q ∈ e :: d.E → q ≠ 108) : d.Q e W base (fun k => ok k ∧ k ≠ g) v xs:=by
 obtain ⟨A2,c2,hb,hg,hr2⟩:=h
 exact Kd.Q_types ho hb ht
theorem IsS108.own_neQ {w0 W : World} {g : Nat} {f0 : Int} {f1 : Bool} {f2 : List (S105)} {α : Type} {d : Kd α} {e : Nat} {base : Nat} {ok : Nat → Prop} {v : Value} {xs : List α} (h : IsS108 w0 W g f0 f1 f2) (ho : d.Q e W base ok v xs) (ht : e ≠ 108) : some g ≠ v.ownBlock:=by
 obtain ⟨A2,c2,hb,hg,hr2⟩:=h
 exact Kd.Q_ne ho hb ht
theorem IsS108.apartS {w0 W : World} {g : Nat} {f0 : Int} {f1 : Bool} {f2 : List (S105)} {α : Type} {d : Kd α} {e : Nat} {base : Nat} {ok : Nat → Prop} {v : Value} {xs : List α} (h : IsS108 w0 W g f0 f1 f2) (ho : d.S e W base ok v xs) (ht : ∀ q,q ∈ e :: d.E → q ≠ 108) : d.S e W base (fun k => ok k ∧ k ≠ g) v xs:=by
 obtain ⟨A2,c2,hb,hg,hr2⟩:=h
 exact Kd.S_types ho hb ht
theorem IsS108.own_neS {w0 W : World} {g : Nat} {f0 : Int} {f1 : Bool} {f2 : List (S105)} {α : Type} {d : Kd α} {e : Nat} {base : Nat} {ok : Nat → Prop} {v : Value} {xs : List α} (h : IsS108 w0 W g f0 f1 f2) (ho : d.S e W base ok v xs) (ht : e ≠ 108) : some g ≠ v.ownBlock:=by
 obtain ⟨A2,c2,hb,hg,hr2⟩:=h
 exact Kd.S_ne ho hb ht
theorem IsS108.lt {w0 W : World} {g : Nat} {f0 : Int} {f1 : Bool} {f2 : List (S105)} (h : IsS108 w0 W g f0 f1 f2) : g < W.heap.size:=by
 obtain ⟨A2,c2,hb,hg,hr2⟩:=h
 exact blk_lt hb
theorem IsS108.ge {w0 W : World} {g : Nat} {f0 : Int} {f1 : Bool} {f2 : List (S105)} (h : IsS108 w0 W g f0 f1 f2) : w0.heap.size ≤ g:=by
 obtain ⟨A2,c2,hb,hg,hr2⟩:=h
 exact hg
theorem IsS108.ne_blk {w0 W : World} {g : Nat} {f0 : Int} {f1 : Bool} {f2 : List (S105)} {a : Nat} {cs : Array Value} {t : TypeId} {fr : Nat × Nat} (h : IsS108 w0 W g f0 f1 f2) (hb2 : W.heap[a]? = some (.cells cs t fr)) (ht : t ≠ 108) : g ≠ a:=by
 obtain ⟨A2,c2,hb,hg,hr2⟩:=h
 rintro rfl
 rw [hb] at hb2
 injection hb2 with hb2
 injection hb2 with _ ht2
 exact ht ht2.symm
theorem IsS108.far {w0 W : World} {g : Nat} {f0 : Int} {f1 : Bool} {f2 : List (S105)} {p : Addr} (h : IsS108 w0 W g f0 f1 f2) (hne : g ≠ p.block) (u : Value) : IsS108 w0 (W.setCell p u) g f0 f1 f2:=by
 obtain ⟨A2,c2,hb,hg,hr2⟩:=h
 exact ⟨A2,c2,blk_far hb hne u,hg,hr2⟩
theorem cellS108_0 {W : World} {g : Nat} {A2 : Option Addr} {c2 : Nat} {f0 : Int} {f1 : Bool} {f2 : List (S105)} (h : W.heap[g]? = some (.cells #[.int .i64 f0,.bool f1,.slice A2 f2.length c2] 108 (0,0))) : W.cell? ⟨g,0,none⟩ = some (.int .i64 f0):=(blk_cell h 0).trans rfl
theorem IsS108.set_0 {w0 W : World} {g : Nat} {f0 : Int} {f1 : Bool} {f2 : List (S105)} (h : IsS108 w0 W g f0 f1 f2) (x : Int) : IsS108 w0 (W.setCell ⟨g,0,none⟩ (.int .i64 x)) g x f1 f2:=by
 obtain ⟨A2,c2,hb,hg,hr2⟩:=h
 exact ⟨A2,c2,by simpa using blk_set hb 0 (.int .i64 x),hg,hr2⟩
theorem cellS108_1 {W : World} {g : Nat} {A2 : Option Addr} {c2 : Nat} {f0 : Int} {f1 : Bool} {f2 : List (S105)} (h : W.heap[g]? = some (.cells #[.int .i64 f0,.bool f1,.slice A2 f2.length c2] 108 (0,0))) : W.cell? ⟨g,1,none⟩ = some (.bool f1):=(blk_cell h 1).trans rfl
theorem IsS108.set_1 {w0 W : World} {g : Nat} {f0 : Int} {f1 : Bool} {f2 : List (S105)} (h : IsS108 w0 W g f0 f1 f2) (x : Bool) : IsS108 w0 (W.setCell ⟨g,1,none⟩ (.bool x)) g f0 x f2:=by
 obtain ⟨A2,c2,hb,hg,hr2⟩:=h
 exact ⟨A2,c2,by simpa using blk_set hb 1 (.bool x),hg,hr2⟩
theorem cellS108_2 {W : World} {g : Nat} {A2 : Option Addr} {c2 : Nat} {f0 : Int} {f1 : Bool} {f2 : List (S105)} (h : W.heap[g]? = some (.cells #[.int .i64 f0,.bool f1,.slice A2 f2.length c2] 108 (0,0))) : W.cell? ⟨g,2,none⟩ = some (.slice A2 f2.length c2):=(blk_cell h 2).trans rfl
theorem IsS108.new (w0 W : World) (A2 : Option Addr) (c2 : Nat) (f0 : Int) (f1 : Bool) (f2 : List (S105)) (hB : Below w0.heap.size w0 W) (hr2 : Kd.C k105 w0 A2 f2.length f2) : IsS108 w0 (W.alloc (.cells #[.int .i64 f0,.bool f1,.slice A2 f2.length c2] 108)) W.heap.size f0 f1 f2:=⟨A2,c2,by simpa using heap_alloc_new W _,hB.size,hr2⟩
/-! ### impl_walker_base: function 91 (by hand: a row of structs behind a pointer is read) -/
/-- A block that was opened. -/
structure OpS where
 f0 : Int
 f1 : Bool
def zOp : OpS:=⟨0,false⟩
def kOp : Kd OpS:=Kd.iso (Kd.pair (Kd.int .i64) Kd.bool) (fun x : OpS => (x.f0,x.f1))
theorem kOp_open {w : World} {x : OpS} {cs : List Value} (h : kOp.K w x cs) : cs = [.int .i64 x.f0,.bool x.f1]:=by
 obtain ⟨_,_,rfl,rfl,rfl⟩:=h
 exact rfl
theorem kOp_mkM (w : World) (base : Nat) (ok : Nat → Prop) (x : OpS) : kOp.M w base ok x [.int .i64 x.f0,.bool x.f1]:=⟨[.int .i64 x.f0],[.bool x.f1],rfl,rfl,rfl⟩
def rdOp (xs : List OpS) (i : Int) : OpS:=xs.getD i.toNat zOp
theorem at_Op {w : World} {A : Option Addr} {n : Nat} {xs : List OpS} (h : Kd.C kOp w A n xs) (i : Int) (h0 : 0 ≤ i) (h1 : i < n) : ∃ ad,A = some ad ∧ w.cell? (ad.add (i.toNat * 2)) = some (.int .i64 (rdOp xs i).f0) ∧ w.cell? ⟨(ad.add (i.toNat * 2)).block,(ad.add (i.toNat * 2)).off + 1,none⟩ = some (.bool (rdOp xs i).f1):=by
 obtain ⟨ad,c,e,_,hK,hc0⟩:=Kd.C_get h zOp i h0 h1
 have hc : ∀ j u,c[j]? = some u → w.cell? (ad.add (i.toNat * 2 + j)) = some u:=hc0
 obtain rfl:=kOp_open hK
 exact ⟨ad,e,hc 0 _ rfl,by rw [← add_field _ _ 1 (by omega)];exact hc 1 _ rfl⟩
def impl_walker_base.f (op : List OpS) : Option Int:=if 0 < op.length ∧ op.length ≤ 1000 then some (rdOp op ((op.length : Int) - 1)).f0 else none
set_option maxHeartbeats 8000000 in
set_option maxRecDepth 100000 in
theorem impl_walker_base.calls (g : Nat) (h0 : Int) (d0 : Bool) (A : Option Addr) (c : Nat) (op : List OpS) (r : Int) (w : World) (hb : w.heap[g]? = some (.cells #[.int .i64 h0,.bool d0,.slice A op.length c] 108 (0,0))) (hC : Kd.C kOp w A op.length op) (h : impl_walker_base.f op = some r) :
  Calls Try.prog 91 #[.pointer (some ⟨g,0,none⟩)] w fun e w' => e = .returned (.int .i64 r) ∧ Drawn0 w w':=by
 unfold impl_walker_base.f at h
 by_cases c1 : 0 < op.length ∧ op.length ≤ 1000
 rotate_left
 ·rw [if_neg c1] at h;exact absurd h (by simp)
 rw [if_pos c1] at h
 obtain rfl:=Option.some.inj h
 obtain ⟨q0,q1⟩:=c1
 obtain ⟨j,hj⟩ : ∃ j : Int,(op.length : Int) - 1 = j:=⟨_,rfl⟩
 have hjw : IntKind.i64.wrap ((op.length : Int) - 1) = j:=by rw [IntKind.wrap_i64];omega
 have p0 : 0 ≤ j:=by omega
 have p1 : j < (op.length : Int):=by omega
 rw [hj]
 obtain ⟨ad,e,hx,hx1⟩:=at_Op hC j p0 p1
 cases e
 have hg2 : w.cell? ⟨g,2,none⟩ = some (.slice (some ad) op.length c):=(blk_cell hb 2).trans rfl
 obtain ⟨x,hxe⟩ : ∃ x,x = (rdOp op j).f0:=⟨_,rfl⟩
 rw [← hxe] at hx ⊢
 replace p0:=eq_true p0
 replace p1:=eq_true p1
 clear h hb hC hxe hx1 q0 q1 hj
 go_enter Try.func91,Try.ntmps91
 go_wp2
 go_quiet (fail)
 go_wp2
 go_ret
 exact ⟨rfl,⟨_,rfl⟩⟩

/-! ### impl_isTwo: function 105 -/
def impl_isTwo.f (a0 : Int) : Option (Bool):=(impl_within.f a0 4 9).bind fun t303 => (some t303)
set_option maxHeartbeats 8000000 in
set_option maxRecDepth 100000 in
theorem impl_isTwo.calls (a0 : Int) (r : Bool) (w : World) (h : impl_isTwo.f a0 = some r) :
  Calls Try.prog 105 #[.int .i64 a0] w fun e w' => e = .returned (.bool r) ∧ Drawn0 w w':=by
 have H : ((impl_within.f a0 4 9).bind fun t303 => (some t303)) = some r:=h
 clear h
 replace H:=Option.bind_eq_some_iff.mp H
 obtain ⟨t303,A20,H⟩:=H
 replace H : (some t303) = some r:=H
 have A2:=Aside0.mk A20
 clear A20
 obtain rfl:=Option.some.inj H
 go_enter Try.func105,Try.ntmps105
 go_wp2_with (first | ((with_reducible refine gate_callee (f:=54) rfl ?_);refine goesL_ (some 4) rfl rfl Try.func54 (by kernel_rfl) rfl #[.int .i64 a0,.int .i64 4,.int .i64 9] rfl (by (try simp only [List.map_toArray,List.map_cons,List.map_nil]);first | done | rfl | (simp only [List.length_drop,List.length_take];rfl)) ?_;(with_reducible refine (impl_within.calls a0 4 9 t303 _ A2.out).mono ?_);rintro e w' ⟨rfl,⟨nd,rfl⟩⟩;refine ⟨_,rfl,?_⟩))
 go_ret
 exact ⟨by first | rfl | (simp;done) | (simp [*];done),by repeat (first | exact Drawn0.refl _ | apply Drawn0.step)⟩

/-! ### impl_needsOf: function 101 -/
mutual
def impl_needsOf.j0 : Nat → Int → Bool → Option (Int × Int)
 | 0,_,_ => none
 | k + 1,x0,x4 => if x4 = true then (some (0,1)) else (if x0 = 3 then (impl_needsOf.j1 k x0 true) else (if x0 = 12 then (impl_needsOf.j1 k x0 true) else (if x0 = 13 then (impl_needsOf.j1 k x0 true) else (if x0 = 17 then (impl_needsOf.j1 k x0 true) else (if x0 = 21 then (impl_needsOf.j1 k x0 true) else (impl_needsOf.j1 k x0 (x0 == 22)))))))
def impl_needsOf.j1 : Nat → Int → Bool → Option (Int × Int)
 | 0,_,_ => none
 | k + 1,x0,x11 => if x11 = true then (some (1,0)) else ((impl_isTwo.f x0).bind fun t304 => (if t304 = true then (some (2,1)) else (if x0 = 10 then (some (1,1)) else (if x0 = 11 then (some (2,0)) else (some (0,0))))))
end
def impl_needsOf.f (k : Nat) (a0 : Int) : Option (Int × Int):=if a0 = 1 then (impl_needsOf.j0 k a0 true) else (impl_needsOf.j0 k a0 (a0 == 2))
theorem impl_needsOf.mono_l : ∀ k,(∀ y0 y1,LeO (impl_needsOf.j0 k y0 y1) (impl_needsOf.j0 (k + 1) y0 y1)) ∧ (∀ y0 y1,LeO (impl_needsOf.j1 k y0 y1) (impl_needsOf.j1 (k + 1) y0 y1))
 | 0 => ⟨fun _ _ r h => by simp [impl_needsOf.j0] at h,fun _ _ r h => by simp [impl_needsOf.j1] at h⟩
 | k + 1 => by
  obtain ⟨ih0,ih1⟩:=impl_needsOf.mono_l k
  refine ⟨?_,?_⟩
  ·intro y0 y1
   unfold impl_needsOf.j0
   repeat' first
   | (with_reducible exact ih0 _ _)
   | (with_reducible exact ih1 _ _)
   | (with_reducible exact LeO.refl _)
   | (with_reducible exact LeO.none _)
   | (with_reducible refine LeO.ite ?_ ?_)
   | (with_reducible refine LeO.bind ?_ (fun _ => ?_))
   | exact ih0 _ _
   | exact ih1 _ _
   | exact LeO.none _
   | refine LeO.ite ?_ ?_
   | refine LeO.bind ?_ (fun _ => ?_)
  ·intro y0 y1
   unfold impl_needsOf.j1
   repeat' first
   | (with_reducible exact ih0 _ _)
   | (with_reducible exact ih1 _ _)
   | (with_reducible exact LeO.refl _)
   | (with_reducible exact LeO.none _)
   | (with_reducible refine LeO.ite ?_ ?_)
   | (with_reducible refine LeO.bind ?_ (fun _ => ?_))
   | exact ih0 _ _
   | exact ih1 _ _
   | exact LeO.none _
   | refine LeO.ite ?_ ?_
   | refine LeO.bind ?_ (fun _ => ?_)
theorem impl_needsOf.mono : ∀ a0 k,LeO (impl_needsOf.f k a0) (impl_needsOf.f (k + 1) a0):=by
 intro a0 k
 obtain ⟨ih0,ih1⟩:=impl_needsOf.mono_l k
 unfold impl_needsOf.f
 repeat' first
   | (with_reducible exact ih0 _ _)
   | (with_reducible exact ih1 _ _)
   | (with_reducible exact LeO.refl _)
   | (with_reducible exact LeO.none _)
   | (with_reducible refine LeO.ite ?_ ?_)
   | (with_reducible refine LeO.bind ?_ (fun _ => ?_))
   | exact ih0 _ _
   | exact ih1 _ _
   | exact LeO.none _
   | refine LeO.ite ?_ ?_
   | refine LeO.bind ?_ (fun _ => ?_)
set_option maxHeartbeats 8000000 in
set_option maxRecDepth 100000 in
theorem impl_needsOf.calls (k : Nat) (a0 : Int) (r1 : Int) (r2 : Int) (w : World) (h : impl_needsOf.f k a0 = some (r1,r2)) :
  Calls Try.prog 101 #[.int .i64 a0] w fun e w' => e = .returned (.tuple #[.int .i64 r1,.int .i64 r2]) ∧ Drawn0 w w':=by
 have H : (if a0 = 1 then (impl_needsOf.j0 k a0 true) else (impl_needsOf.j0 k a0 (a0 == 2))) = some (r1,r2):=h
 clear h
 have HC2:=Aside0.mk H
 clear H
 go_enter Try.func101,Try.ntmps101
 go_upto_region 1 with (fail)
 go_cut [4] (fun v4 wc => ∃ (kq : Nat) (x4_1 : Bool),v4 = .bool x4_1 ∧ Aside0 (impl_needsOf.j0 kq a0 x4_1 = some (r1,r2)) ∧ Aside0 (kq ≤ k) ∧ Drawn0 w wc)
 case first =>
  have H:=HC2.out
  clear HC2
  by_cases c3 : a0 = 1
  ·rw [if_pos c3] at H
   have c3b0 : (a0 == 1) = true:=beq_iff_eq.mpr c3
   have c3b1 : (a0 != 1) = false:=bne_eq_false_iff_eq.mpr c3
   clear c3
   (first | rw [c3b0] | (simp only [i64_w,i32_w];rw [c3b0]) | skip)
   have H':=Aside0.mk H
   clear H
   go_wp2
   go_meet
   case rel => exact ⟨_,(true),(by first | rfl | (simp;done) | (simp [*];done)),H',⟨by first | omega | exact Nat.le_refl _⟩,by repeat (first | exact Drawn0.refl _ | apply Drawn0.step)⟩
  ·rw [if_neg c3] at H
   have c3b0 : (a0 == 1) = false:=beq_eq_false_iff_ne.mpr c3
   have c3b1 : (a0 != 1) = true:=bne_iff_ne.mpr c3
   (first | rw [c3b0] | (simp only [i64_w,i32_w];rw [c3b0]) | skip)
   have H':=Aside0.mk H
   clear H
   go_wp2
   go_meet
   case rel => exact ⟨_,((a0 == 2)),(by first | rfl | (simp;done) | (simp [*];done)),H',⟨by first | omega | exact Nat.le_refl _⟩,by repeat (first | exact Drawn0.refl _ | apply Drawn0.step)⟩
 case rest =>
  clear HC2
  try clear c1
  try clear p2
  try clear c3
  try clear c3b0
  try clear c3b1
  obtain ⟨kq,x4_1,rfl,HA,HJ1,⟨mc1,rfl⟩⟩:=hcut
  cases kq with
  | zero => exact absurd HA.out (by simp [impl_needsOf.j0])
  | succ kj1 =>
   have H:=HA.out
   clear HA
   simp only [impl_needsOf.j0] at H
   by_cases c4 : x4_1 = true
   ·subst c4
    have H1 : (some (0,1)) = some (r1,r2):=by rw [if_pos rfl] at H;exact H
    clear H
    have H:=H1
    clear H1
    simp only [Option.some.injEq,Prod.mk.injEq] at H
    obtain ⟨rfl,rfl⟩:=H
    go_wp2
    go_ret2
    exact ⟨by first | rfl | (simp;done) | (simp [*];done),by repeat (first | exact Drawn0.refl _ | apply Drawn0.step)⟩
   ·replace c4:=Bool.eq_false_iff.mpr c4
    subst c4
    have H1 : (if a0 = 3 then (impl_needsOf.j1 kj1 a0 true) else (if a0 = 12 then (impl_needsOf.j1 kj1 a0 true) else (if a0 = 13 then (impl_needsOf.j1 kj1 a0 true) else (if a0 = 17 then (impl_needsOf.j1 kj1 a0 true) else (if a0 = 21 then (impl_needsOf.j1 kj1 a0 true) else (impl_needsOf.j1 kj1 a0 (a0 == 22))))))) = some (r1,r2):=by rw [if_neg (show ¬ (false = true) by decide)] at H;exact H
    clear H
    have H:=H1
    clear H1
    have HC5:=Aside0.mk H
    clear H
    go_upto_region 3 with (fail)
    go_cut [11] (fun v11 wc => ∃ (kq : Nat) (x11_4 : Bool),v11 = .bool x11_4 ∧ Aside0 (impl_needsOf.j1 kq a0 x11_4 = some (r1,r2)) ∧ Aside0 (kq ≤ kj1) ∧ Drawn0 w wc)
    case first =>
     have H:=HC5.out
     clear HC5
     by_cases c6 : a0 = 3
     ·rw [if_pos c6] at H
      have c6b0 : (a0 == 3) = true:=beq_iff_eq.mpr c6
      have c6b1 : (a0 != 3) = false:=bne_eq_false_iff_eq.mpr c6
      clear c6
      (first | rw [c6b0] | (simp only [i64_w,i32_w];rw [c6b0]) | skip)
      have H':=Aside0.mk H
      clear H
      go_wp2
      go_meet
      case rel => exact ⟨_,(true),(by first | rfl | (simp;done) | (simp [*];done)),H',⟨by have:=HJ1.out;first | omega | exact Nat.le_refl _⟩,by repeat (first | exact Drawn0.refl _ | apply Drawn0.step)⟩
     ·rw [if_neg c6] at H
      have c6b0 : (a0 == 3) = false:=beq_eq_false_iff_ne.mpr c6
      have c6b1 : (a0 != 3) = true:=bne_iff_ne.mpr c6
      (first | rw [c6b0] | (simp only [i64_w,i32_w];rw [c6b0]) | skip)
      by_cases c7 : a0 = 12
      ·rw [if_pos c7] at H
       have c7b0 : (a0 == 12) = true:=beq_iff_eq.mpr c7
       have c7b1 : (a0 != 12) = false:=bne_eq_false_iff_eq.mpr c7
       clear c7
       have H':=Aside0.mk H
       clear H
       go_wp2
       go_meet
       case rel => exact ⟨_,(true),(by first | rfl | (simp;done) | (simp [*];done)),H',⟨by have:=HJ1.out;first | omega | exact Nat.le_refl _⟩,by repeat (first | exact Drawn0.refl _ | apply Drawn0.step)⟩
      ·rw [if_neg c7] at H
       have c7b0 : (a0 == 12) = false:=beq_eq_false_iff_ne.mpr c7
       have c7b1 : (a0 != 12) = true:=bne_iff_ne.mpr c7
       by_cases c8 : a0 = 13
       ·rw [if_pos c8] at H
        have c8b0 : (a0 == 13) = true:=beq_iff_eq.mpr c8
        have c8b1 : (a0 != 13) = false:=bne_eq_false_iff_eq.mpr c8
        clear c8
        have H':=Aside0.mk H
        clear H
        go_wp2
        go_meet
        case rel => exact ⟨_,(true),(by first | rfl | (simp;done) | (simp [*];done)),H',⟨by have:=HJ1.out;first | omega | exact Nat.le_refl _⟩,by repeat (first | exact Drawn0.refl _ | apply Drawn0.step)⟩
       ·rw [if_neg c8] at H
        have c8b0 : (a0 == 13) = false:=beq_eq_false_iff_ne.mpr c8
        have c8b1 : (a0 != 13) = true:=bne_iff_ne.mpr c8
        by_cases c9 : a0 = 17
        ·rw [if_pos c9] at H
         have c9b0 : (a0 == 17) = true:=beq_iff_eq.mpr c9
         have c9b1 : (a0 != 17) = false:=bne_eq_false_iff_eq.mpr c9
         clear c9
         have H':=Aside0.mk H
         clear H
         go_wp2
         go_meet
         case rel => exact ⟨_,(true),(by first | rfl | (simp;done) | (simp [*];done)),H',⟨by have:=HJ1.out;first | omega | exact Nat.le_refl _⟩,by repeat (first | exact Drawn0.refl _ | apply Drawn0.step)⟩
        ·rw [if_neg c9] at H
         have c9b0 : (a0 == 17) = false:=beq_eq_false_iff_ne.mpr c9
         have c9b1 : (a0 != 17) = true:=bne_iff_ne.mpr c9
         by_cases c10 : a0 = 21
         ·rw [if_pos c10] at H
          have c10b0 : (a0 == 21) = true:=beq_iff_eq.mpr c10
          have c10b1 : (a0 != 21) = false:=bne_eq_false_iff_eq.mpr c10
          clear c10
          have H':=Aside0.mk H
          clear H
          go_wp2
          go_meet
          case rel => exact ⟨_,(true),(by first | rfl | (simp;done) | (simp [*];done)),H',⟨by have:=HJ1.out;first | omega | exact Nat.le_refl _⟩,by repeat (first | exact Drawn0.refl _ | apply Drawn0.step)⟩
         ·rw [if_neg c10] at H
          have c10b0 : (a0 == 21) = false:=beq_eq_false_iff_ne.mpr c10
          have c10b1 : (a0 != 21) = true:=bne_iff_ne.mpr c10
          have H':=Aside0.mk H
          clear H
          go_wp2
          go_meet
          case rel => exact ⟨_,((a0 == 22)),(by first | rfl | (simp;done) | (simp [*];done)),H',⟨by have:=HJ1.out;first | omega | exact Nat.le_refl _⟩,by repeat (first | exact Drawn0.refl _ | apply Drawn0.step)⟩
    case rest =>
     clear HC5
     try clear c1
     try clear p2
     try clear c3
     try clear c3b0
     try clear c3b1
     try clear c4
     try clear c6
     try clear c6b0
     try clear c6b1
     try clear c7
     try clear c7b0
     try clear c7b1
     try clear c8
     try clear c8b0
     try clear c8b1
     try clear c9
     try clear c9b0
     try clear c9b1
     try clear c10
     try clear c10b0
     try clear c10b1
     try clear p2
     obtain ⟨kq,x11_4,rfl,HA,HJ4,⟨mc4,rfl⟩⟩:=hcut
     cases kq with
     | zero => exact absurd HA.out (by simp [impl_needsOf.j1])
     | succ kj4 =>
      have H:=HA.out
      clear HA
      simp only [impl_needsOf.j1] at H
      by_cases c11 : x11_4 = true
      ·subst c11
       have H1 : (some (1,0)) = some (r1,r2):=by rw [if_pos rfl] at H;exact H
       clear H
       have H:=H1
       clear H1
       simp only [Option.some.injEq,Prod.mk.injEq] at H
       obtain ⟨rfl,rfl⟩:=H
       go_wp2
       go_ret2
       exact ⟨by first | rfl | (simp;done) | (simp [*];done),by repeat (first | exact Drawn0.refl _ | apply Drawn0.step)⟩
      ·replace c11:=Bool.eq_false_iff.mpr c11
       subst c11
       have H1 : ((impl_isTwo.f a0).bind fun t304 => (if t304 = true then (some (2,1)) else (if a0 = 10 then (some (1,1)) else (if a0 = 11 then (some (2,0)) else (some (0,0)))))) = some (r1,r2):=by rw [if_neg (show ¬ (false = true) by decide)] at H;exact H
       clear H
       have H:=H1
       clear H1
       replace H:=Option.bind_eq_some_iff.mp H
       obtain ⟨t304,A120,H⟩:=H
       replace H : (if t304 = true then (some (2,1)) else (if a0 = 10 then (some (1,1)) else (if a0 = 11 then (some (2,0)) else (some (0,0))))) = some (r1,r2):=H
       have A12:=Aside0.mk A120
       clear A120
       by_cases c13 : t304 = true
       ·subst c13
        have H1 : (some (2,1)) = some (r1,r2):=by rw [if_pos rfl] at H;exact H
        clear H
        have H:=H1
        clear H1
        simp only [Option.some.injEq,Prod.mk.injEq] at H
        obtain ⟨rfl,rfl⟩:=H
        go_wp2_with (first | ((with_reducible refine gate_callee (f:=105) rfl ?_);refine goesL_ (some 36) rfl rfl Try.func105 (by kernel_rfl) rfl #[.int .i64 a0] rfl (by (try simp only [List.map_toArray,List.map_cons,List.map_nil]);first | done | rfl | (simp only [List.length_drop,List.length_take];rfl)) ?_;(with_reducible refine (impl_isTwo.calls a0 true _ A12.out).mono ?_);rintro e w' ⟨rfl,⟨nd,rfl⟩⟩;refine ⟨_,rfl,?_⟩))
        go_ret2
        exact ⟨by first | rfl | (simp;done) | (simp [*];done),by repeat (first | exact Drawn0.refl _ | apply Drawn0.step)⟩
       ·replace c13:=Bool.eq_false_iff.mpr c13
        subst c13
        have H1 : (if a0 = 10 then (some (1,1)) else (if a0 = 11 then (some (2,0)) else (some (0,0)))) = some (r1,r2):=by rw [if_neg (show ¬ (false = true) by decide)] at H;exact H
        clear H
        have H:=H1
        clear H1
        by_cases c14 : a0 = 10
        ·rw [if_pos c14] at H
         have c14b0 : (a0 == 10) = true:=beq_iff_eq.mpr c14
         have c14b1 : (a0 != 10) = false:=bne_eq_false_iff_eq.mpr c14
         clear c14
         simp only [Option.some.injEq,Prod.mk.injEq] at H
         obtain ⟨rfl,rfl⟩:=H
         go_wp2_with (first | ((with_reducible refine gate_callee (f:=105) rfl ?_);refine goesL_ (some 36) rfl rfl Try.func105 (by kernel_rfl) rfl #[.int .i64 a0] rfl (by (try simp only [List.map_toArray,List.map_cons,List.map_nil]);first | done | rfl | (simp only [List.length_drop,List.length_take];rfl)) ?_;(with_reducible refine (impl_isTwo.calls a0 false _ A12.out).mono ?_);rintro e w' ⟨rfl,⟨nd,rfl⟩⟩;refine ⟨_,rfl,?_⟩))
         go_ret2
         exact ⟨by first | rfl | (simp;done) | (simp [*];done),by repeat (first | exact Drawn0.refl _ | apply Drawn0.step)⟩
        ·rw [if_neg c14] at H
         have c14b0 : (a0 == 10) = false:=beq_eq_false_iff_ne.mpr c14
         have c14b1 : (a0 != 10) = true:=bne_iff_ne.mpr c14
         by_cases c15 : a0 = 11
         ·rw [if_pos c15] at H
          have c15b0 : (a0 == 11) = true:=beq_iff_eq.mpr c15
          have c15b1 : (a0 != 11) = false:=bne_eq_false_iff_eq.mpr c15
          clear c15
          simp only [Option.some.injEq,Prod.mk.injEq] at H
          obtain ⟨rfl,rfl⟩:=H
          go_wp2_with (first | ((with_reducible refine gate_callee (f:=105) rfl ?_);refine goesL_ (some 36) rfl rfl Try.func105 (by kernel_rfl) rfl #[.int .i64 a0] rfl (by (try simp only [List.map_toArray,List.map_cons,List.map_nil]);first | done | rfl | (simp only [List.length_drop,List.length_take];rfl)) ?_;(with_reducible refine (impl_isTwo.calls a0 false _ A12.out).mono ?_);rintro e w' ⟨rfl,⟨nd,rfl⟩⟩;refine ⟨_,rfl,?_⟩))
          go_ret2
          exact ⟨by first | rfl | (simp;done) | (simp [*];done),by repeat (first | exact Drawn0.refl _ | apply Drawn0.step)⟩
         ·rw [if_neg c15] at H
          have c15b0 : (a0 == 11) = false:=beq_eq_false_iff_ne.mpr c15
          have c15b1 : (a0 != 11) = true:=bne_iff_ne.mpr c15
          simp only [Option.some.injEq,Prod.mk.injEq] at H
          obtain ⟨rfl,rfl⟩:=H
          go_wp2_with (first | ((with_reducible refine gate_callee (f:=105) rfl ?_);refine goesL_ (some 36) rfl rfl Try.func105 (by kernel_rfl) rfl #[.int .i64 a0] rfl (by (try simp only [List.map_toArray,List.map_cons,List.map_nil]);first | done | rfl | (simp only [List.length_drop,List.length_take];rfl)) ?_;(with_reducible refine (impl_isTwo.calls a0 false _ A12.out).mono ?_);rintro e w' ⟨rfl,⟨nd,rfl⟩⟩;refine ⟨_,rfl,?_⟩))
          go_ret2
          exact ⟨by first | rfl | (simp;done) | (simp [*];done),by repeat (first | exact Drawn0.refl _ | apply Drawn0.step)⟩

end Go.Proofs.Ytmljikgegclolaa.Q
