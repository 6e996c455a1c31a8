-- WRITTEN BY A PROGRAM OF THIS SESSION
import Derived.Test.YtmljikgegclolaaQ0
import Derived.Test.YtmljikgegclolaaQ12
import Derived.Test.YtmljikgegclolaaQ13
import Derived.Test.YtmljikgegclolaaQ14
namespace Go.Proofs.Ytmljikgegclolaa.Q
open Go.RowKit Go.Proofs.YtmljikgegclolaaW.PrintWords Go.Proofs.YtmljikgegclolaaW.PrintLast Go.Proofs.YtmljikgegclolaaW.PrintMore
attribute [local go_sem] max2_int min2_int max_two min_two max_three min_three max_four min_four   -- for this text's walks alone
set_option linter.unusedVariables false
set_option linter.unusedSimpArgs false

/-! ### impl_walkOf: function 65 (by hand: a struct behind a pointer whose rows grow, beside a walker) -/
structure WoMid (w1 W : World) (gk gw : Nat) (vs xh xd xb vh vd vb vo : Value) (hs : List Int) (ds : List Bool) (bs : List Int) (h : Int) (d : Bool) (op : List OpS) (code place : Int) : Prop where
 below : Below w1.heap.size w1 W
 gb : w1.heap.size ≤ gk
 kb : W.heap[gk]? = some (.cells #[vs,xh,xd,xb,.int .i64 code,.int .i64 place] 84 (0,0))
 wk : WkAt W w1.heap.size gw h d vo op
 rh : Kd.R (Kd.int .i64) 3 W w1.heap.size (fun k => some k = vh.ownBlock) vh hs
 rd : Kd.R Kd.bool 4 W w1.heap.size (fun k => some k = vd.ownBlock) vd ds
 rb : Kd.R (Kd.int .i64) 3 W w1.heap.size (fun k => some k = vb.ownBlock) vb bs
 hb : ∀ k,some k = vh.ownBlock → some k ≠ vb.ownBlock
/-- Two rows of elements of two types lie apart. -/
theorem R_types_ne {α β : Type} {d1 : Kd α} {d2 : Kd β} {e1 e2 b1 b2 : Nat} {W : World} {o1 o2 : Nat → Prop} {v1 v2 : Value} {x1 : List α} {x2 : List β} (h1 : d1.R e1 W b1 o1 v1 x1) (h2 : d2.R e2 W b2 o2 v2 x2) (he : e1 ≠ e2) : ∀ k,some k = v1.ownBlock → some k ≠ v2.ownBlock:=fun k a b => by
 obtain ⟨c1,a1⟩:=Kd.R_typed h1 k a.symm
 obtain ⟨c2,a2⟩:=Kd.R_typed h2 k b.symm
 rw [a1] at a2
 injection a2 with a2
 injection a2 with _ a2 _
 exact he a2
theorem grown_set_ (W : World) (g j : Nat) (u : Value) : W.grownBy (W.setCell ⟨g,j,none⟩ u) (some g) :=
 ⟨rfl,rfl,rfl,by simp [World.setCell],fun k _ hn => Below.heap_setCell W ⟨g,j,none⟩ u k (fun e => hn (by have e2 : k = g:=e;rw [e2]))⟩
section
variable {w1 W W' : World} {gk gw : Nat} {vs xh xd xb vh vd vb vo v1 : Value} {hs : List Int} {ds : List Bool} {bs : List Int} {h x : Int} {d y : Bool} {op : List OpS} {code place : Int}
theorem WoMid.step (H : WoMid w1 W gk gw vs xh xd xb vh vd vb vo hs ds bs h d op code place) (hb : Below W.heap.size W W') : WoMid w1 W' gk gw vs xh xd xb vh vd vb vo hs ds bs h d op code place :=
 ⟨below_step H.below hb,H.gb,blk_below H.kb hb,H.wk.step hb,Kd.R_below H.rh hb,Kd.R_below H.rd hb,Kd.R_below H.rb hb,H.hb⟩
theorem WoMid.pushH (H : WoMid w1 W gk gw vs xh xd xb vh vd vb vo hs ds bs h d op code place) (ho : Kd.R (Kd.int .i64) 3 W' w1.heap.size (fun k => some k = vh.ownBlock ∨ W.heap.size ≤ k) v1 (hs ++ [x])) (hb : Below w1.heap.size w1 W') (hg : W.grownBy W' vh.ownBlock) (hat : v1.ownBlock = vh.ownBlock ∨ ∃ b,v1.ownBlock = some b ∧ W.heap.size ≤ b) : WoMid w1 W' gk gw vs xh xd xb v1 vd vb vo (hs ++ [x]) ds bs h d op code place:=by
 refine ⟨hb,H.gb,blk_grown H.kb hg (Kd.R_ne H.rh H.kb (by decide)),⟨H.wk.gb,blk_grown H.wk.blk hg (Kd.R_ne H.rh H.wk.blk (by decide)),Kd.R_grown H.wk.row hg (R_types_ne H.wk.row H.rh (by decide))⟩,Kd.R_tight rfl ho,Kd.R_grown H.rd hg (R_types_ne H.rd H.rh (by decide)),Kd.R_grown H.rb hg (fun k a b => H.hb k b a),fun k a b => ?_⟩
 rcases hat with e | ⟨q,e,hq⟩
 ·rw [e] at a;exact H.hb k a b
 ·rw [e] at a;injection a with a;have:=Kd.R_lt H.rb k b.symm;omega
theorem WoMid.pushB (H : WoMid w1 W gk gw vs xh xd xb vh vd vb vo hs ds bs h d op code place) (ho : Kd.R (Kd.int .i64) 3 W' w1.heap.size (fun k => some k = vb.ownBlock ∨ W.heap.size ≤ k) v1 (bs ++ [x])) (hb : Below w1.heap.size w1 W') (hg : W.grownBy W' vb.ownBlock) (hat : v1.ownBlock = vb.ownBlock ∨ ∃ b,v1.ownBlock = some b ∧ W.heap.size ≤ b) : WoMid w1 W' gk gw vs xh xd xb vh vd v1 vo hs ds (bs ++ [x]) h d op code place:=by
 refine ⟨hb,H.gb,blk_grown H.kb hg (Kd.R_ne H.rb H.kb (by decide)),⟨H.wk.gb,blk_grown H.wk.blk hg (Kd.R_ne H.rb H.wk.blk (by decide)),Kd.R_grown H.wk.row hg (R_types_ne H.wk.row H.rb (by decide))⟩,Kd.R_grown H.rh hg H.hb,Kd.R_grown H.rd hg (R_types_ne H.rd H.rb (by decide)),Kd.R_tight rfl ho,fun k a b => ?_⟩
 rcases hat with e | ⟨q,e,hq⟩
 ·rw [e] at b;exact H.hb k a b
 ·rw [e] at b;injection b with b;have:=Kd.R_lt H.rh k a.symm;omega
theorem WoMid.pushD (H : WoMid w1 W gk gw vs xh xd xb vh vd vb vo hs ds bs h d op code place) (ho : Kd.R Kd.bool 4 W' w1.heap.size (fun k => some k = vd.ownBlock ∨ W.heap.size ≤ k) v1 (ds ++ [y])) (hb : Below w1.heap.size w1 W') (hg : W.grownBy W' vd.ownBlock) : WoMid w1 W' gk gw vs xh xd xb vh v1 vb vo hs (ds ++ [y]) bs h d op code place :=
 ⟨hb,H.gb,blk_grown H.kb hg (Kd.R_ne H.rd H.kb (by decide)),⟨H.wk.gb,blk_grown H.wk.blk hg (Kd.R_ne H.rd H.wk.blk (by decide)),Kd.R_grown H.wk.row hg (R_types_ne H.wk.row H.rd (by decide))⟩,Kd.R_grown H.rh hg (R_types_ne H.rh H.rd (by decide)),Kd.R_tight rfl ho,Kd.R_grown H.rb hg (R_types_ne H.rb H.rd (by decide)),H.hb⟩
theorem WoMid.ne (H : WoMid w1 W gk gw vs xh xd xb vh vd vb vo hs ds bs h d op code place) : gw ≠ gk:=fun e => by
 have h1:=H.kb
 rw [← e,H.wk.blk] at h1
 injection h1 with h1
 injection h1 with _ h1 _
 exact absurd h1 (by decide)
theorem WoMid.set (H : WoMid w1 W gk gw vs xh xd xb vh vd vb vo hs ds bs h d op code place) (j : Nat) (u : Value) {xh' xd' xb' : Value} {code' place' : Int} (e : (#[vs,xh,xd,xb,.int .i64 code,.int .i64 place] : Array Value).setIfInBounds j u = #[vs,xh',xd',xb',.int .i64 code',.int .i64 place']) : WoMid w1 (W.setCell ⟨gk,j,none⟩ u) gk gw vs xh' xd' xb' vh vd vb vo hs ds bs h d op code' place':=by
 have hg:=grown_set_ W gk j u
 have ne : ∀ {α : Type} {d1 : Kd α} {e1 : Nat} {v : Value} {xs : List α},d1.R e1 W w1.heap.size (fun k => some k = v.ownBlock) v xs → e1 ≠ 84 → ∀ k,some k = v.ownBlock → some k ≠ some gk:=fun hr he k a b => by injection b with b;rw [b] at a;exact Kd.R_ne hr H.kb he a
 exact ⟨H.below.setCell H.gb _,H.gb,blk_put H.kb j u e,⟨H.wk.gb,blk_grown H.wk.blk hg (fun e_ => H.ne (by injection e_)),Kd.R_grown H.wk.row hg (ne H.wk.row (by decide))⟩,Kd.R_grown H.rh hg (ne H.rh (by decide)),Kd.R_grown H.rd hg (ne H.rd (by decide)),Kd.R_grown H.rb hg (ne H.rb (by decide)),H.hb⟩
theorem WoMid.walked {h' : Int} {d' : Bool} {vo' : Value} {op' : List OpS} (H : WoMid w1 W gk gw vs xh xd xb vh vd vb vo hs ds bs h d op code place) (hw : WkAt W' w1.heap.size gw h' d' vo' op') (hb : Below w1.heap.size w1 W') (hk : Kept W W' (fun k => k = gw ∨ some k = vo.ownBlock)) : WoMid w1 W' gk gw vs xh xd xb vh vd vb vo' hs ds bs h' d' op' code place:=by
 have ne : ∀ {α : Type} {d1 : Kd α} {e1 : Nat} {v : Value} {xs : List α},d1.R e1 W w1.heap.size (fun k => some k = v.ownBlock) v xs → e1 ≠ 105 → e1 ≠ 108 → ∀ k,some k = v.ownBlock → ¬ (k = gw ∨ some k = vo.ownBlock):=fun hr he he2 k a b => by
  rcases b with rfl | b
  ·exact Kd.R_ne hr H.wk.blk he2 a
  ·exact R_types_ne hr H.wk.row he k a b
 exact ⟨hb,H.gb,blk_kept H.kb hk (fun b => b.elim (fun e => H.ne e.symm) (fun e => Kd.R_ne H.wk.row H.kb (by decide) e)),hw,Kd.R_kept H.rh hk (ne H.rh (by decide) (by decide)),Kd.R_kept H.rd hk (ne H.rd (by decide) (by decide)),Kd.R_kept H.rb hk (ne H.rb (by decide) (by decide)),H.hb⟩
theorem WkAt.base {base : Nat} {ad : Addr} {c : Nat} {b : Int} (hb : impl_walker_base.f op = some b) (hI : WkAt W base gw h d (.slice (some ad) op.length c) op) : Calls Try.prog 91 #[.pointer (some ⟨gw,0,none⟩)] W fun e w' => e = .returned (.int .i64 b) ∧ ∃ m,w' = W.drewN m :=
 (impl_walker_base.calls gw h d (some ad) c op b _ hI.blk (Kd.R_reads' hI.row).2.2 hb).mono (fun _ _ ⟨h1_,⟨m_,h2_⟩⟩ => ⟨h1_,m_,h2_⟩)
end
theorem C_lit_blkB {W : World} {i : Nat} {t : TypeId} {x : Bool} (h : W.heap[i]? = some (.cells #[.bool x] t (0,0))) : Kd.C Kd.bool W (some ⟨i,0,none⟩) [x].length [x]:=by
 refine Kd.C_of_reads (d:=false) (h1:=fun _ => rfl) ⟨rfl,by simp,fun _ => ⟨_,rfl,fun j hj => ?_⟩⟩
 have hj0 : j = 0:=by simpa using hj
 subst hj0
 rw [add_plain,blk_cell h]
 rfl
theorem R_lit_op {W : World} {i base : Nat} (hb : base ≤ i) (h : W.heap[i]? = some (.cells #[.int .i64 0,.bool false] 105 (0,0))) : Kd.R kOp 105 W base (fun k => some k = (Value.slice (some ⟨i,0,none⟩) 1 1).ownBlock) (.slice (some ⟨i,0,none⟩) 1 1) [zOp]:=by
 refine ⟨fun k hk => hk.symm,[.int .i64 0,.bool false],⟨rfl,.inr ⟨i,1,_,rfl,hb,h,Nat.le_refl _,by unfold maxLen;omega,rfl,rfl⟩⟩,⟨rfl,fun j p hj => ?_⟩⟩
 match j,hj with
 | 0,hj =>
  obtain rfl:=Option.some.inj hj
  exact kOp_mkM _ _ _ _
 | j + 1,hj => simp at hj
theorem blk_ty_ne {W : World} {a b t1 t2 : Nat} {c1 c2 : Array Value} {z1 z2 : Nat × Nat} (h1 : W.heap[a]? = some (.cells c1 t1 z1)) (h2 : W.heap[b]? = some (.cells c2 t2 z2)) (ht : t1 ≠ t2) : a ≠ b:=fun e => by
 rw [e,h2] at h1
 injection h1 with h1
 injection h1 with _ h1 _
 exact ht h1.symm
theorem WoMid.make (w1 : World) (vs : Value) : WoMid w1 (((w1.alloc (.cells #[vs,.slice none 0 0,.slice none 0 0,.slice none 0 0,.int .i64 0,.int .i64 0] 84)).alloc (.cells #[.int .i64 0,.bool false] 105)).alloc (.cells #[.int .i64 0,.bool false,.slice (some ⟨w1.heap.size + 1,0,none⟩) 1 1] 108)) w1.heap.size (w1.heap.size + 2) vs (.slice none 0 0) (.slice none 0 0) (.slice none 0 0) (.slice none 0 0) (.slice none 0 0) (.slice none 0 0) (.slice (some ⟨w1.heap.size + 1,0,none⟩) 1 1) [] [] [] 0 false [zOp] 0 0:=by
 refine ⟨below_alloc (below_alloc (below_alloc (Below.refl _ _) _) _) _,Nat.le_refl _,blk_alloc (blk_alloc (heap_alloc_new _ _) _) _,⟨by omega,?_,?_⟩,Kd.R_nil _ _ _ _ _,Kd.R_nil _ _ _ _ _,Kd.R_nil _ _ _ _ _,fun k a => by simp [Value.ownBlock] at a⟩
 ·exact blk_new_at (by simp)
 ·exact R_lit_op (by omega) (blk_alloc (blk_new_at (by simp)) _)
/-- What walkOf leaves. -/
structure WRes where
 e : List Int
 o : List Int
 p : List (List Int)
 hs : List Int
 ds : List Bool
 bs : List Int
 code : Int
 place : Int
structure WalkAt (W : World) (base gk n c : Nat) (A : Option Addr) (x : WRes) : Prop where
 gb : base ≤ gk
 it : ∃ (gs : Nat) (vh vd vb : Value),W.heap[gk]? = some (.cells #[.pointer (some ⟨gs,0,none⟩),vh,vd,vb,.int .i64 x.code,.int .i64 x.place] 84 (0,0)) ∧ ShapeAt W base gs n c A x.e x.o x.p ∧ Kd.R (Kd.int .i64) 3 W base (fun _ => True) vh x.hs ∧ Kd.R Kd.bool 4 W base (fun _ => True) vd x.ds ∧ Kd.R (Kd.int .i64) 3 W base (fun _ => True) vb x.bs
def WalkRet (W : World) (base n c : Nat) (A : Option Addr) : Option WRes → Value → Prop
 | none,v => v = .pointer none
 | some x,v => ∃ g,v = .pointer (some ⟨g,0,none⟩) ∧ WalkAt W base g n c A x
theorem WoMid.done {w w1 W : World} {gk gw gs n c : Nat} {A : Option Addr} {e o : List Int} {p : List (List Int)} {vh vd vb vo : Value} {hs : List Int} {ds : List Bool} {bs : List Int} {h : Int} {d : Bool} {op : List OpS} {code place : Int} (H : WoMid w1 W gk gw (.pointer (some ⟨gs,0,none⟩)) vh vd vb vh vd vb vo hs ds bs h d op code place) (hb : Below w.heap.size w w1) (hs_ : ShapeAt w1 w.heap.size gs n c A e o p) : WalkAt W w.heap.size gk n c A ⟨e,o,p,hs,ds,bs,code,place⟩ :=
 ⟨Nat.le_trans hb.size H.gb,⟨gs,vh,vd,vb,H.kb,hs_.step H.below,Kd.R_lower (Kd.R_mono H.rh (fun _ _ => trivial)) hb.size,Kd.R_lower (Kd.R_mono H.rd (fun _ _ => trivial)) hb.size,Kd.R_lower (Kd.R_mono H.rb (fun _ _ => trivial)) hb.size⟩⟩
def impl_walkOf.l0 : Nat → List S56 → List Int → List Bool → List Int → Int → Bool → List OpS → Nat → Option (List Int × List Bool × List Int × Int × Int)
 | 0,_,_,_,_,_,_,_,_ => none
 | k + 1,l,hs,ds,bs,h,d,op,i => if hs.length < 1000 ∧ ds.length < 1000 ∧ bs.length < 1000 then (if i < l.length then ((impl_walker_base.f op).bind fun b => ((impl_walker_step.f k (rd_T56 l i).f0 h d op).bind fun t => (if t.1 = 0 then impl_walkOf.l0 k l (hs ++ [h]) (ds ++ [d]) (bs ++ [b]) t.2.1 t.2.2.1 t.2.2.2 (i + 1) else some (hs ++ [h],ds ++ [d],bs ++ [b],t.1,(i : Int))))) else (if h > 0 then some (hs ++ [h],ds ++ [d],bs,3,(l.length : Int)) else some (hs ++ [h],ds ++ [d],bs,0,0))) else none
def impl_walkOf.g (k : Nat) (l : List S56) (x : List Int × List Int × List (List Int)) : Option (Option WRes):=if l.length ≤ 60 then (impl_walkOf.l0 k l [] [] [] 0 false [zOp] 0).bind fun r => some (some ⟨x.1,x.2.1,x.2.2,r.1,r.2.1,r.2.2.1,r.2.2.2.1,r.2.2.2.2⟩) else none
def impl_walkOf.f (k : Nat) (l : List S56) : Option (Option WRes):=(impl_shapeOf.f k l).bind fun r => (match r with
 | none => some none
 | some x => impl_walkOf.g k l x)
theorem impl_walkOf.mono_l : ∀ k,∀ y0 y1 y2 y3 y4 y5 y6 y7,LeO (impl_walkOf.l0 k y0 y1 y2 y3 y4 y5 y6 y7) (impl_walkOf.l0 (k + 1) y0 y1 y2 y3 y4 y5 y6 y7)
 | 0 => fun _ _ _ _ _ _ _ _ r h => by simp [impl_walkOf.l0] at h
 | k + 1 => by
  have ih0:=impl_walkOf.mono_l k
  intro y0 y1 y2 y3 y4 y5 y6 y7
  unfold impl_walkOf.l0
  repeat' first
   | (with_reducible exact ih0 _ _ _ _ _ _ _ _)
   | (with_reducible exact impl_walker_step.mono _ _ _ _ _)
   | (with_reducible exact LeO.refl _)
   | (with_reducible exact LeO.none _)
   | (with_reducible refine LeO.ite ?_ ?_)
   | (with_reducible refine LeO.bind ?_ (fun _ => ?_))
theorem impl_walkOf.mono : ∀ a0 k,LeO (impl_walkOf.f k a0) (impl_walkOf.f (k + 1) a0):=fun _ k => LeO.bind (impl_shapeOf.mono _ _) (fun r => by
 match r with
 | none => exact LeO.refl _
 | some x =>
  show LeO (impl_walkOf.g k _ x) (impl_walkOf.g (k + 1) _ x)
  unfold impl_walkOf.g
  refine LeO.ite (LeO.bind (impl_walkOf.mono_l k _ _ _ _ _ _ _ _) (fun _ => LeO.refl _)) (LeO.none _))
set_option maxHeartbeats 8000000 in
set_option maxRecDepth 100000 in
theorem impl_walkOf.calls (k : Nat) (A0 : Option Addr) (c0 : Nat) (l0 : List S56) (r : Option WRes) (w : World) (hr0 : Kd.C k56 w A0 l0.length l0) (hc0 : l0.length ≤ c0) (h : impl_walkOf.f k l0 = some r) :
  Calls Try.prog 65 #[.slice A0 l0.length c0] w fun e w' => ∃ v0_ : Value,e = .returned (v0_) ∧ WalkRet w' w.heap.size l0.length c0 A0 r v0_ ∧ Below w.heap.size w w':=by
 have hu56:=Try.underlying56
 have hu84:=Try.underlying84
 have hu105:=Try.underlying105
 have hu108:=Try.underlying108
 have HR0:=Aside0.mk hr0
 have HC0:=Aside0.mk hc0
 clear hr0 hc0
 unfold impl_walkOf.f at h
 obtain ⟨s,AS,H⟩:=Option.bind_eq_some_iff.mp h
 have AS:=Aside0.mk AS
 clear h
 cases s with
 | none =>
  obtain rfl:=Option.some.inj H
  go_enter Try.func65,Try.ntmps65
  go_wp2_with (first | (go_at_call 50;refine (impl_shapeOf.calls k _ _ l0 none _ HR0.out HC0.out AS.out).mono ?_;rintro e w1 ⟨v_,rfl,hsr,hb⟩;have HB1:=Aside0.mk hb;obtain rfl : v_ = .pointer none:=hsr;clear hb))
  go_ret
  exact ⟨_,rfl,rfl,HB1.out⟩
 | some x =>
 obtain ⟨xe,xo,xp⟩:=x
 replace H : impl_walkOf.g k l0 (xe,xo,xp) = some r:=H
 unfold impl_walkOf.g at H
 by_cases cl : l0.length ≤ 60
 rotate_left
 ·rw [if_neg cl] at H;exact absurd H (by simp)
 rw [if_pos cl] at H
 obtain ⟨q,AQ,H⟩:=Option.bind_eq_some_iff.mp H
 have H':=Aside0.mk AQ
 have HQ:=Aside0.mk (Option.some.inj H)
 have HL:=Aside0.mk cl
 clear H AQ cl
 go_enter Try.func65,Try.ntmps65
 go_upto_region 4 with (go_at_call 50;refine (impl_shapeOf.calls k _ _ l0 (some (xe,xo,xp)) _ HR0.out HC0.out AS.out).mono ?_;rintro e w1 ⟨v_,rfl,hsr,hb⟩;have HB1:=Aside0.mk hb;obtain ⟨gs,rfl,hsa⟩ : ∃ gs,v_ = .pointer (some ⟨gs,0,none⟩) ∧ ShapeAt w1 w.heap.size gs l0.length c0 A0 xe xo xp:=hsr;have HSA:=Aside0.mk hsa;clear hb hsa)
 go_cut [4,5] (fun v4 v5 wc => ∃ bk bw,v4 = .pointer (some ⟨bk,0,none⟩) ∧ v5 = .pointer (some ⟨bw,0,none⟩) ∧ Aside0 (WoMid w1 wc bk bw (.pointer (some ⟨gs,0,none⟩)) (.slice none 0 0) (.slice none 0 0) (.slice none 0 0) (.slice none 0 0) (.slice none 0 0) (.slice none 0 0) (.slice (some ⟨w1.heap.size + 1,0,none⟩) 1 1) [] [] [] 0 false [zOp] 0 0))
 case first =>
  go_wp2
  go_meet
  exact ⟨_,_,rfl,rfl,⟨WoMid.make w1 _⟩⟩
 case rest =>
 obtain ⟨bk,bw,rfl,rfl,HM0⟩:=hcut
 go_wp2
 go_loopg [21] k (fun kq v21 w' => ∃ (i : Nat) (hs : List Int) (ds : List Bool) (bs : List Int) (h : Int) (d : Bool) (op : List OpS) (vh vd vb vo : Value),v21 = .int .i64 (i : Int) ∧ Aside0 (impl_walkOf.l0 kq l0 hs ds bs h d op i = some q) ∧ Aside0 (kq ≤ k) ∧ Aside0 (WoMid w1 w' bk bw (.pointer (some ⟨gs,0,none⟩)) vh vd vb vh vd vb vo hs ds bs h d op 0 0))
 case atStart => exact ⟨0,_,_,_,_,_,_,_,_,_,_,rfl,H',⟨Nat.le_refl _⟩,HM0⟩
 case round =>
  clear H' HM0
  obtain ⟨i,hs,ds,bs,h,d,op,vh,vd,vb,vo,rfl,HA,HK1,HI⟩:=hrel
  cases gk with
  | zero => exact absurd HA.out (by simp [impl_walkOf.l0])
  | succ k1 =>
   have H:=HA.out
   clear HA
   simp only [impl_walkOf.l0] at H
   by_cases cn : hs.length < 1000 ∧ ds.length < 1000 ∧ bs.length < 1000
   rotate_left
   ·rw [if_neg cn] at H;exact absurd H (by simp)
   rw [if_pos cn] at H
   have HN:=Aside0.mk cn
   clear cn
   obtain ⟨Ah,ch,eh⟩:=Kd.R_slice HI.out.rh
   subst eh
   obtain ⟨Ad,cd,ed⟩:=Kd.R_slice HI.out.rd
   subst ed
   obtain ⟨Ab,cb,eb⟩:=Kd.R_slice HI.out.rb
   subst eb
   by_cases c2 : i < l0.length
   rotate_left
   ·rw [if_neg c2] at H
    have c2b : decide (i < l0.length) = false:=decide_eq_false c2
    clear c2
    go_upto_region 14 with (fail)
    have HM0:=Aside0.mk (HI.out.step (below_drew (Below.refl _ _)))
    go_cut [72] (fun v72 wd => ∃ vh2 vd2,Aside0 (WoMid w1 wd bk bw (.pointer (some ⟨gs,0,none⟩)) vh2 vd2 (.slice Ab bs.length cb) vh2 vd2 (.slice Ab bs.length cb) vo (hs ++ [h]) (ds ++ [d]) bs h d op 0 0))
    case first =>
     have HN1:=HN
     refine start_ (n:=24) (S:=fun w' => w'.cell? ⟨bk,1,none⟩ = some (.slice Ah hs.length ch) ∧ w'.cell? ⟨bk,2,none⟩ = some (.slice Ad ds.length cd) ∧ w'.cell? ⟨bw,0,none⟩ = some (.int .i64 h) ∧ w'.cell? ⟨bw,1,none⟩ = some (.bool d)) (ds:=[20,23]) #[false,false,false,false,false,false,false,false,false,false,false,false,false,false,false,false,false,false,false,false,false,false,false,false] (by kernel_rfl) rfl rfl ?_ (fun hHeld => ?_)
     ·exact ⟨(blk_cell HM0.out.kb 1).trans rfl,(blk_cell HM0.out.kb 2).trans rfl,(blk_cell HM0.out.wk.blk 0).trans rfl,(blk_cell HM0.out.wk.blk 1).trans rfl⟩
     generalize hw8 : World.drew wr = w8 at HM0 hHeld ⊢
     clear hw8
     refine pure_ (i:=0) (N:=some 72) (v:=?_) (a':=?_) #[true,false,false,false,false,false,false,false,false,false,false,false,false,false,false,false,false,false,false,false,false,false,false,false] rfl rfl (by kernel_rfl) (fun _ _ _ h => h) (Or.inl ⟨by rfl,?_⟩) ?_ ?_
     rotate_left
     ·intro w'
      go_simp
      with_reducible rfl
     rotate_left
     ·simp only [Act.put,List.setIfInBounds_toArray,List.set_cons_zero,List.set_cons_succ,i64_w,i32_w]
      rfl
     refine pure_ (i:=1) (N:=some 73) (v:=?_) (a':=?_) #[true,true,false,false,false,false,false,false,false,false,false,false,false,false,false,false,false,false,false,false,false,false,false,false] rfl rfl (by kernel_rfl) (fun _ _ _ h => h) (Or.inl ⟨by rfl,?_⟩) ?_ ?_
     rotate_left
     ·intro w'
      go_simp
      with_reducible rfl
     rotate_left
     ·simp only [Act.put,List.setIfInBounds_toArray,List.set_cons_zero,List.set_cons_succ,i64_w,i32_w]
      rfl
     refine pure_ (i:=2) (N:=some 74) (v:=?_) (a':=?_) #[true,true,true,false,false,false,false,false,false,false,false,false,false,false,false,false,false,false,false,false,false,false,false,false] rfl rfl (by kernel_rfl) (fun _ _ _ h => h) (Or.inl ⟨by rfl,?_⟩) ?_ ?_
     rotate_left
     ·intro w'
      go_simp
      with_reducible rfl
     rotate_left
     ·simp only [Act.put,List.setIfInBounds_toArray,List.set_cons_zero,List.set_cons_succ,i64_w,i32_w]
      rfl
     refine pure_ (i:=3) (N:=some 75) (v:=?_) (a':=?_) #[true,true,true,true,false,false,false,false,false,false,false,false,false,false,false,false,false,false,false,false,false,false,false,false] rfl rfl (by kernel_rfl) (fun _ _ _ h => h) (Or.inl ⟨by rfl,?_⟩) ?_ ?_
     rotate_left
     ·intro w'
      go_simp
      with_reducible rfl
     rotate_left
     ·simp only [Act.put,List.setIfInBounds_toArray,List.set_cons_zero,List.set_cons_succ,i64_w,i32_w]
      rfl
     refine pure_ (i:=4) (N:=some 76) (v:=?_) (a':=?_) #[true,true,true,true,true,false,false,false,false,false,false,false,false,false,false,false,false,false,false,false,false,false,false,false] rfl rfl (by kernel_rfl) (fun _ _ _ h => h) (Or.inl ⟨by rfl,?_⟩) ?_ ?_
     rotate_left
     ·intro w'
      go_simp
      with_reducible rfl
     rotate_left
     ·simp only [Act.put,List.setIfInBounds_toArray,List.set_cons_zero,List.set_cons_succ,i64_w,i32_w]
      rfl
     refine pure_ (i:=6) (N:=some 78) (v:=?_) (a':=?_) #[true,true,true,true,true,false,true,false,false,false,false,false,false,false,false,false,false,false,false,false,false,false,false,false] rfl rfl (by kernel_rfl) (fun _ _ _ h => h) (Or.inl ⟨by rfl,?_⟩) ?_ ?_
     rotate_left
     ·intro w'
      go_simp
      with_reducible rfl
     rotate_left
     ·simp only [Act.put,List.setIfInBounds_toArray,List.set_cons_zero,List.set_cons_succ,i64_w,i32_w]
      rfl
     refine pure_ (i:=10) (N:=some 82) (v:=?_) (a':=?_) #[true,true,true,true,true,false,true,false,false,false,true,false,false,false,false,false,false,false,false,false,false,false,false,false] rfl rfl (by kernel_rfl) (fun _ _ _ h => h) (Or.inl ⟨by rfl,?_⟩) ?_ ?_
     rotate_left
     ·intro w'
      go_simp
      with_reducible rfl
     rotate_left
     ·simp only [Act.put,List.setIfInBounds_toArray,List.set_cons_zero,List.set_cons_succ,i64_w,i32_w]
      rfl
     refine pure_ (i:=11) (N:=some 83) (v:=?_) (a':=?_) #[true,true,true,true,true,false,true,false,false,false,true,true,false,false,false,false,false,false,false,false,false,false,false,false] rfl rfl (by kernel_rfl) (fun _ _ _ h => h) (Or.inl ⟨by rfl,?_⟩) ?_ ?_
     rotate_left
     ·intro w'
      go_simp
      with_reducible rfl
     rotate_left
     ·simp only [Act.put,List.setIfInBounds_toArray,List.set_cons_zero,List.set_cons_succ,i64_w,i32_w]
      rfl
     refine pure_ (i:=12) (N:=some 84) (v:=?_) (a':=?_) #[true,true,true,true,true,false,true,false,false,false,true,true,true,false,false,false,false,false,false,false,false,false,false,false] rfl rfl (by kernel_rfl) (fun _ _ _ h => h) (Or.inl ⟨by rfl,?_⟩) ?_ ?_
     rotate_left
     ·intro w'
      go_simp
      with_reducible rfl
     rotate_left
     ·simp only [Act.put,List.setIfInBounds_toArray,List.set_cons_zero,List.set_cons_succ,i64_w,i32_w]
      rfl
     refine pure_ (i:=14) (N:=some 86) (v:=?_) (a':=?_) #[true,true,true,true,true,false,true,false,false,false,true,true,true,false,true,false,false,false,false,false,false,false,false,false] rfl rfl (by kernel_rfl) (fun _ _ _ h => h) (Or.inl ⟨by rfl,?_⟩) ?_ ?_
     rotate_left
     ·intro w'
      go_simp
      with_reducible rfl
     rotate_left
     ·simp only [Act.put,List.setIfInBounds_toArray,List.set_cons_zero,List.set_cons_succ,i64_w,i32_w]
      rfl
     refine take_ (i:=5) (N:=some 77) (v:=?_) (a':=?_) #[true,true,true,true,true,true,true,false,false,false,true,true,true,false,true,false,false,false,false,false,false,false,false,false] rfl rfl (by kernel_rfl) (fun _ _ _ h => h) (Or.inl ⟨by rfl,?_⟩) hHeld ?_ ?_
     rotate_left
     ·rintro w' ⟨s0,s1,s2,s3⟩
      go_simp
      with_reducible rfl
     rotate_left
     ·simp only [Act.put,List.setIfInBounds_toArray,List.set_cons_zero,List.set_cons_succ,i64_w,i32_w]
      rfl
     refine take_ (i:=7) (N:=some 79) (v:=?_) (a':=?_) #[true,true,true,true,true,true,true,true,false,false,true,true,true,false,true,false,false,false,false,false,false,false,false,false] rfl rfl (by kernel_rfl) (fun _ _ _ h => h) (Or.inl ⟨by rfl,?_⟩) hHeld ?_ ?_
     rotate_left
     ·rintro w' ⟨s0,s1,s2,s3⟩
      go_simp
      with_reducible rfl
     rotate_left
     ·simp only [Act.put,List.setIfInBounds_toArray,List.set_cons_zero,List.set_cons_succ,i64_w,i32_w]
      rfl
     refine take_ (i:=13) (N:=some 85) (v:=?_) (a':=?_) #[true,true,true,true,true,true,true,true,false,false,true,true,true,true,true,false,false,false,false,false,false,false,false,false] rfl rfl (by kernel_rfl) (fun _ _ _ h => h) (Or.inl ⟨by rfl,?_⟩) hHeld ?_ ?_
     rotate_left
     ·rintro w' ⟨s0,s1,s2,s3⟩
      go_simp
      with_reducible rfl
     rotate_left
     ·simp only [Act.put,List.setIfInBounds_toArray,List.set_cons_zero,List.set_cons_succ,i64_w,i32_w]
      rfl
     refine take_ (i:=15) (N:=some 87) (v:=?_) (a':=?_) #[true,true,true,true,true,true,true,true,false,false,true,true,true,true,true,true,false,false,false,false,false,false,false,false] rfl rfl (by kernel_rfl) (fun _ _ _ h => h) (Or.inl ⟨by rfl,?_⟩) hHeld ?_ ?_
     rotate_left
     ·rintro w' ⟨s0,s1,s2,s3⟩
      go_simp
      with_reducible rfl
     rotate_left
     ·simp only [Act.put,List.setIfInBounds_toArray,List.set_cons_zero,List.set_cons_succ,i64_w,i32_w]
      rfl
     refine two_ (i:=8) (j:=16) (Ni:=some 80) (Nj:=some 88) #[true,true,true,true,true,true,true,true,true,false,true,true,true,true,true,true,false,false,false,false,false,false,false,false] #[true,true,true,true,true,true,true,true,false,false,true,true,true,true,true,true,true,false,false,false,false,false,false,false] rfl rfl rfl rfl (by kernel_rfl) (by decide) (by decide) (fun K hK => ?_) (fun K hK => ?_)
     ·skip
      refine value_ (w1:=?_) (v:=?_) (by rfl) rfl ?_ ?_
      rotate_left 2
      ·go_simp
       constructor
       ·rfl
       ·rfl
      obtain ⟨wv1,hwv⟩ : ∃ w_,w_ = w8.alloc (.cells #[.int .i64 h] 3):=⟨_,rfl⟩
      rw [← hwv]
      have HM1:=Aside0.mk (show WoMid w1 wv1 bk bw (.pointer (some ⟨gs,0,none⟩)) (.slice Ah hs.length ch) (.slice Ad ds.length cd) (.slice Ab bs.length cb) (.slice Ah hs.length ch) (.slice Ad ds.length cd) (.slice Ab bs.length cb) vo hs ds bs h d op 0 0 by rw [hwv];exact HM0.out.step (below_alloc (Below.refl _ _) _))
      have HL1_1:=Aside0.mk (show wv1.heap[w8.heap.size]? = some (.cells #[.int .i64 h] 3 (0,0)) by rw [hwv];exact heap_alloc_new _ _)
      clear hwv
      refine hK.out _ _ ?_ (fun hHeld => ?_)
      ·exact ⟨(blk_cell HM1.out.kb 1).trans rfl,(blk_cell HM1.out.kb 2).trans rfl,(blk_cell HM1.out.wk.blk 0).trans rfl,(blk_cell HM1.out.wk.blk 1).trans rfl⟩
      clear hK K
      refine norm_ (a':=?_) ?_ ?_
      rotate_left
      ·show Act.put _ (some 80) _ = _
       simp only [Act.put,List.setIfInBounds_toArray,List.set_cons_zero,List.set_cons_succ,i64_w,i32_w]
       rfl
      refine two_ (i:=9) (j:=16) (Ni:=some 81) (Nj:=some 88) #[true,true,true,true,true,true,true,true,true,true,true,true,true,true,true,true,false,false,false,false,false,false,false,false] #[true,true,true,true,true,true,true,true,true,false,true,true,true,true,true,true,true,false,false,false,false,false,false,false] rfl rfl rfl rfl (by kernel_rfl) (by decide) (by decide) (fun K hK => ?_) (fun K hK => ?_)
      ·skip
       refine Kd.R_append_rows_step (Kd.int .i64) (Rr:=fun x_ cs => cs = [Value.int .i64 x_]) (w0:=w1) w1.heap.size (by rfl) (.tmp 77) (.tmp 80) 29 3 (.int .i64 0) 8 rfl Try.underlying29 (by kernel_rfl) rfl (by decide) (by omega) (.slice Ah hs.length ch) hs [h] _ _ _ (fun k_ => some k_ = (.slice Ah hs.length ch : Value).ownBlock ∨ wv1.heap.size ≤ k_) (fun _ => False) rfl rfl ?aO ?aR (fun _ _ h_ => h_) (fun _ hk => hk.elim) ?aF ?aB ?aS ?aL ?_
       case aR => exact C_lit_blk HL1_1.out
       case aF => exact fun k_ hk_ => .inr hk_
       case aO => exact Kd.R_mono HM1.out.rh (fun k_ h_ => .inl h_)
       case aB => exact HM1.out.below
       case aS => exact HM1.out.below.size
       case aL => have:=HN.out;omega
       intro v1 wv2 ho hb hg hat
       obtain ⟨Ah2,ch2,e9⟩:=Kd.R_slice ho
       rw [List.length_append,List.length_singleton] at e9
       subst e9
       have HM2:=Aside0.mk (show WoMid w1 wv2 bk bw (.pointer (some ⟨gs,0,none⟩)) (.slice Ah hs.length ch) (.slice Ad ds.length cd) (.slice Ab bs.length cb) (.slice Ah2 (hs.length + 1) ch2) (.slice Ad ds.length cd) (.slice Ab bs.length cb) vo (hs ++ [h]) ds bs h d op 0 0 from HM1.out.pushH ho hb hg hat)
       clear ho hb hg hat
       refine hK.out _ _ ?_ (fun hHeld => ?_)
       ·exact ⟨(blk_cell HM2.out.kb 1).trans rfl,(blk_cell HM2.out.kb 2).trans rfl,(blk_cell HM2.out.wk.blk 0).trans rfl,(blk_cell HM2.out.wk.blk 1).trans rfl⟩
       clear hK K
       refine norm_ (a':=?_) ?_ ?_
       rotate_left
       ·show Act.put _ (some 81) _ = _
        simp only [Act.put,List.setIfInBounds_toArray,List.set_cons_zero,List.set_cons_succ,i64_w,i32_w]
        rfl
       refine one_ (i:=16) (N:=some 88) #[true,true,true,true,true,true,true,true,true,true,true,true,true,true,true,true,true,false,false,false,false,false,false,false] rfl rfl (by kernel_rfl) (by decide) (fun K hK => ?_)
       refine value_ (w1:=?_) (v:=?_) (by rfl) rfl ?_ ?_
       rotate_left 2
       ·go_simp
        constructor
        ·rfl
        ·rfl
       obtain ⟨wv3,hwv⟩ : ∃ w_,w_ = wv2.alloc (.cells #[.bool d] 4):=⟨_,rfl⟩
       rw [← hwv]
       have HM3:=Aside0.mk (show WoMid w1 wv3 bk bw (.pointer (some ⟨gs,0,none⟩)) (.slice Ah hs.length ch) (.slice Ad ds.length cd) (.slice Ab bs.length cb) (.slice Ah2 (hs.length + 1) ch2) (.slice Ad ds.length cd) (.slice Ab bs.length cb) vo (hs ++ [h]) ds bs h d op 0 0 by rw [hwv];exact HM2.out.step (below_alloc (Below.refl _ _) _))
       have HL2_3:=Aside0.mk (show wv3.heap[wv2.heap.size]? = some (.cells #[.bool d] 4 (0,0)) by rw [hwv];exact heap_alloc_new _ _)
       clear hwv
       refine hK.out _ _ ?_ (fun hHeld => ?_)
       ·exact ⟨(blk_cell HM3.out.kb 1).trans rfl,(blk_cell HM3.out.kb 2).trans rfl,(blk_cell HM3.out.wk.blk 0).trans rfl,(blk_cell HM3.out.wk.blk 1).trans rfl⟩
       clear hK K
       refine norm_ (a':=?_) ?_ ?_
       rotate_left
       ·show Act.put _ (some 88) _ = _
        simp only [Act.put,List.setIfInBounds_toArray,List.set_cons_zero,List.set_cons_succ,i64_w,i32_w]
        rfl
       refine one_ (i:=17) (N:=some 89) #[true,true,true,true,true,true,true,true,true,true,true,true,true,true,true,true,true,true,false,false,false,false,false,false] rfl rfl (by kernel_rfl) (by decide) (fun K hK => ?_)
       refine Kd.R_append_rows_step Kd.bool (Rr:=fun x_ cs => cs = [Value.bool x_]) (w0:=w1) w1.heap.size (by rfl) (.tmp 85) (.tmp 88) 46 4 (.bool false) 1 rfl Try.underlying46 (by kernel_rfl) rfl (by decide) (by omega) (.slice Ad ds.length cd) ds [d] _ _ _ (fun k_ => some k_ = (.slice Ad ds.length cd : Value).ownBlock ∨ wv3.heap.size ≤ k_) (fun _ => False) rfl rfl ?aO ?aR (fun _ _ h_ => h_) (fun _ hk => hk.elim) ?aF ?aB ?aS ?aL ?_
       case aR => exact C_lit_blkB HL2_3.out
       case aF => exact fun k_ hk_ => .inr hk_
       case aO => exact Kd.R_mono HM3.out.rd (fun k_ h_ => .inl h_)
       case aB => exact HM3.out.below
       case aS => exact HM3.out.below.size
       case aL => have:=HN.out;omega
       intro v1 wv4 ho hb hg hat
       obtain ⟨Ad4,cd4,e9⟩:=Kd.R_slice ho
       rw [List.length_append,List.length_singleton] at e9
       subst e9
       have HM4:=Aside0.mk (show WoMid w1 wv4 bk bw (.pointer (some ⟨gs,0,none⟩)) (.slice Ah hs.length ch) (.slice Ad ds.length cd) (.slice Ab bs.length cb) (.slice Ah2 (hs.length + 1) ch2) (.slice Ad4 (ds.length + 1) cd4) (.slice Ab bs.length cb) vo (hs ++ [h]) (ds ++ [d]) bs h d op 0 0 from HM3.out.pushD ho hb hg)
       clear ho hb hg hat
       refine hK.out _ _ ?_ (fun hHeld => ?_)
       ·exact ⟨(blk_cell HM4.out.kb 1).trans rfl,(blk_cell HM4.out.kb 2).trans rfl,(blk_cell HM4.out.wk.blk 0).trans rfl,(blk_cell HM4.out.wk.blk 1).trans rfl⟩
       clear hK K
       refine norm_ (a':=?_) ?_ ?_
       rotate_left
       ·show Act.put _ (some 89) _ = _
        simp only [Act.put,List.setIfInBounds_toArray,List.set_cons_zero,List.set_cons_succ,i64_w,i32_w]
        rfl
       refine pure_ (i:=18) (N:=some 90) (v:=?_) (a':=?_) #[true,true,true,true,true,true,true,true,true,true,true,true,true,true,true,true,true,true,true,false,false,false,false,false] rfl rfl (by kernel_rfl) (fun _ _ _ h => h) (Or.inl ⟨by rfl,?_⟩) ?_ ?_
       rotate_left
       ·intro w'
        go_simp
        with_reducible rfl
       rotate_left
       ·simp only [Act.put,List.setIfInBounds_toArray,List.set_cons_zero,List.set_cons_succ,i64_w,i32_w]
        rfl
       refine pure_ (i:=19) (N:=some 91) (v:=?_) (a':=?_) #[true,true,true,true,true,true,true,true,true,true,true,true,true,true,true,true,true,true,true,true,false,false,false,false] rfl rfl (by kernel_rfl) (fun _ _ _ h => h) (Or.inl ⟨by rfl,?_⟩) ?_ ?_
       rotate_left
       ·intro w'
        go_simp
        with_reducible rfl
       rotate_left
       ·simp only [Act.put,List.setIfInBounds_toArray,List.set_cons_zero,List.set_cons_succ,i64_w,i32_w]
        rfl
       refine last_ (i:=20) (N:=none) #[true,true,true,true,true,true,true,true,true,true,true,true,true,true,true,true,true,true,true,true,true,false,false,false] rfl rfl (by kernel_rfl) (by decide) (fun K hK => ?_)
       have hcs:=((blk_cell HM4.out.kb 1).trans rfl : wv4.cell? ⟨bk,1,none⟩ = some (.slice Ah hs.length ch))
       have hfs:=blk_frozen HM4.out.kb 1
       refine skip_ (w1:=?_) (by rfl) rfl ?_ ?_
       rotate_left
       ·go_simp
        rfl
       obtain ⟨wv5,hwv⟩ : ∃ w_,w_ = wv4.setCell ⟨bk,1,none⟩ (.slice Ah2 (hs.length + 1) ch2):=⟨_,rfl⟩
       rw [← hwv]
       have HM5:=Aside0.mk (show WoMid w1 wv5 bk bw (.pointer (some ⟨gs,0,none⟩)) (.slice Ah2 (hs.length + 1) ch2) (.slice Ad ds.length cd) (.slice Ab bs.length cb) (.slice Ah2 (hs.length + 1) ch2) (.slice Ad4 (ds.length + 1) cd4) (.slice Ab bs.length cb) vo (hs ++ [h]) (ds ++ [d]) bs h d op 0 0 by rw [hwv];exact HM4.out.set 1 _ rfl)
       clear hwv hcs hfs
       refine hK.out _ _ ?_
       clear hK K
       refine pure_ (i:=21) (N:=some 92) (v:=?_) (a':=?_) #[true,true,true,true,true,true,true,true,true,true,true,true,true,true,true,true,true,true,true,true,true,true,false,false] rfl rfl (by kernel_rfl) (fun _ _ _ h => h) (Or.inl ⟨by rfl,?_⟩) ?_ ?_
       rotate_left
       ·intro w'
        go_simp
        with_reducible rfl
       rotate_left
       ·simp only [Act.put,List.setIfInBounds_toArray,List.set_cons_zero,List.set_cons_succ,i64_w,i32_w]
        rfl
       refine pure_ (i:=22) (N:=some 93) (v:=?_) (a':=?_) #[true,true,true,true,true,true,true,true,true,true,true,true,true,true,true,true,true,true,true,true,true,true,true,false] rfl rfl (by kernel_rfl) (fun _ _ _ h => h) (Or.inl ⟨by rfl,?_⟩) ?_ ?_
       rotate_left
       ·intro w'
        go_simp
        with_reducible rfl
       rotate_left
       ·simp only [Act.put,List.setIfInBounds_toArray,List.set_cons_zero,List.set_cons_succ,i64_w,i32_w]
        rfl
       refine last_ (i:=23) (N:=none) #[true,true,true,true,true,true,true,true,true,true,true,true,true,true,true,true,true,true,true,true,true,true,true,true] rfl rfl (by kernel_rfl) (by decide) (fun K hK => ?_)
       have hcs:=((blk_cell HM5.out.kb 2).trans rfl : wv5.cell? ⟨bk,2,none⟩ = some (.slice Ad ds.length cd))
       have hfs:=blk_frozen HM5.out.kb 2
       refine skip_ (w1:=?_) (by rfl) rfl ?_ ?_
       rotate_left
       ·go_simp
        rfl
       obtain ⟨wv6,hwv⟩ : ∃ w_,w_ = wv5.setCell ⟨bk,2,none⟩ (.slice Ad4 (ds.length + 1) cd4):=⟨_,rfl⟩
       rw [← hwv]
       have HM6:=Aside0.mk (show WoMid w1 wv6 bk bw (.pointer (some ⟨gs,0,none⟩)) (.slice Ah2 (hs.length + 1) ch2) (.slice Ad4 (ds.length + 1) cd4) (.slice Ab bs.length cb) (.slice Ah2 (hs.length + 1) ch2) (.slice Ad4 (ds.length + 1) cd4) (.slice Ab bs.length cb) vo (hs ++ [h]) (ds ++ [d]) bs h d op 0 0 by rw [hwv];exact HM5.out.set 2 _ rfl)
       clear hwv hcs hfs
       refine hK.out _ _ ?_
       clear hK K
       refine done_ (by kernel_rfl) ?_
       go_wp2
       go_meet
       exact ⟨_,_,HM6⟩
      ·skip
       refine value_ (w1:=?_) (v:=?_) (by rfl) rfl ?_ ?_
       rotate_left 2
       ·go_simp
        constructor
        ·rfl
        ·rfl
       obtain ⟨wv2,hwv⟩ : ∃ w_,w_ = wv1.alloc (.cells #[.bool d] 4):=⟨_,rfl⟩
       rw [← hwv]
       have HM2:=Aside0.mk (show WoMid w1 wv2 bk bw (.pointer (some ⟨gs,0,none⟩)) (.slice Ah hs.length ch) (.slice Ad ds.length cd) (.slice Ab bs.length cb) (.slice Ah hs.length ch) (.slice Ad ds.length cd) (.slice Ab bs.length cb) vo hs ds bs h d op 0 0 by rw [hwv];exact HM1.out.step (below_alloc (Below.refl _ _) _))
       have HL2_2:=Aside0.mk (show wv2.heap[wv1.heap.size]? = some (.cells #[.bool d] 4 (0,0)) by rw [hwv];exact heap_alloc_new _ _)
       have HL1_2:=Aside0.mk (show wv2.heap[w8.heap.size]? = some (.cells #[.int .i64 h] 3 (0,0)) by rw [hwv];exact blk_alloc HL1_1.out _)
       clear hwv
       refine hK.out _ _ ?_ (fun hHeld => ?_)
       ·exact ⟨(blk_cell HM2.out.kb 1).trans rfl,(blk_cell HM2.out.kb 2).trans rfl,(blk_cell HM2.out.wk.blk 0).trans rfl,(blk_cell HM2.out.wk.blk 1).trans rfl⟩
       clear hK K
       refine norm_ (a':=?_) ?_ ?_
       rotate_left
       ·show Act.put _ (some 88) _ = _
        simp only [Act.put,List.setIfInBounds_toArray,List.set_cons_zero,List.set_cons_succ,i64_w,i32_w]
        rfl
       refine one_ (i:=9) (N:=some 81) #[true,true,true,true,true,true,true,true,true,true,true,true,true,true,true,true,true,false,false,false,false,false,false,false] rfl rfl (by kernel_rfl) (by decide) (fun K hK => ?_)
       refine Kd.R_append_rows_step (Kd.int .i64) (Rr:=fun x_ cs => cs = [Value.int .i64 x_]) (w0:=w1) w1.heap.size (by rfl) (.tmp 77) (.tmp 80) 29 3 (.int .i64 0) 8 rfl Try.underlying29 (by kernel_rfl) rfl (by decide) (by omega) (.slice Ah hs.length ch) hs [h] _ _ _ (fun k_ => some k_ = (.slice Ah hs.length ch : Value).ownBlock ∨ wv2.heap.size ≤ k_) (fun _ => False) rfl rfl ?aO ?aR (fun _ _ h_ => h_) (fun _ hk => hk.elim) ?aF ?aB ?aS ?aL ?_
       case aR => exact C_lit_blk HL1_2.out
       case aF => exact fun k_ hk_ => .inr hk_
       case aO => exact Kd.R_mono HM2.out.rh (fun k_ h_ => .inl h_)
       case aB => exact HM2.out.below
       case aS => exact HM2.out.below.size
       case aL => have:=HN.out;omega
       intro v1 wv3 ho hb hg hat
       obtain ⟨Ah3,ch3,e9⟩:=Kd.R_slice ho
       rw [List.length_append,List.length_singleton] at e9
       subst e9
       have HM3:=Aside0.mk (show WoMid w1 wv3 bk bw (.pointer (some ⟨gs,0,none⟩)) (.slice Ah hs.length ch) (.slice Ad ds.length cd) (.slice Ab bs.length cb) (.slice Ah3 (hs.length + 1) ch3) (.slice Ad ds.length cd) (.slice Ab bs.length cb) vo (hs ++ [h]) ds bs h d op 0 0 from HM2.out.pushH ho hb hg hat)
       have HL2_3:=Aside0.mk (show wv3.heap[wv1.heap.size]? = some (.cells #[.bool d] 4 (0,0)) by exact blk_grown HL2_2.out hg (Kd.R_ne HM2.out.rh HL2_2.out (by decide)))
       clear ho hb hg hat
       refine hK.out _ _ ?_ (fun hHeld => ?_)
       ·exact ⟨(blk_cell HM3.out.kb 1).trans rfl,(blk_cell HM3.out.kb 2).trans rfl,(blk_cell HM3.out.wk.blk 0).trans rfl,(blk_cell HM3.out.wk.blk 1).trans rfl⟩
       clear hK K
       refine norm_ (a':=?_) ?_ ?_
       rotate_left
       ·show Act.put _ (some 81) _ = _
        simp only [Act.put,List.setIfInBounds_toArray,List.set_cons_zero,List.set_cons_succ,i64_w,i32_w]
        rfl
       refine one_ (i:=17) (N:=some 89) #[true,true,true,true,true,true,true,true,true,true,true,true,true,true,true,true,true,true,false,false,false,false,false,false] rfl rfl (by kernel_rfl) (by decide) (fun K hK => ?_)
       refine Kd.R_append_rows_step Kd.bool (Rr:=fun x_ cs => cs = [Value.bool x_]) (w0:=w1) w1.heap.size (by rfl) (.tmp 85) (.tmp 88) 46 4 (.bool false) 1 rfl Try.underlying46 (by kernel_rfl) rfl (by decide) (by omega) (.slice Ad ds.length cd) ds [d] _ _ _ (fun k_ => some k_ = (.slice Ad ds.length cd : Value).ownBlock ∨ wv3.heap.size ≤ k_) (fun _ => False) rfl rfl ?aO ?aR (fun _ _ h_ => h_) (fun _ hk => hk.elim) ?aF ?aB ?aS ?aL ?_
       case aR => exact C_lit_blkB HL2_3.out
       case aF => exact fun k_ hk_ => .inr hk_
       case aO => exact Kd.R_mono HM3.out.rd (fun k_ h_ => .inl h_)
       case aB => exact HM3.out.below
       case aS => exact HM3.out.below.size
       case aL => have:=HN.out;omega
       intro v1 wv4 ho hb hg hat
       obtain ⟨Ad4,cd4,e9⟩:=Kd.R_slice ho
       rw [List.length_append,List.length_singleton] at e9
       subst e9
       have HM4:=Aside0.mk (show WoMid w1 wv4 bk bw (.pointer (some ⟨gs,0,none⟩)) (.slice Ah hs.length ch) (.slice Ad ds.length cd) (.slice Ab bs.length cb) (.slice Ah3 (hs.length + 1) ch3) (.slice Ad4 (ds.length + 1) cd4) (.slice Ab bs.length cb) vo (hs ++ [h]) (ds ++ [d]) bs h d op 0 0 from HM3.out.pushD ho hb hg)
       clear ho hb hg hat
       refine hK.out _ _ ?_ (fun hHeld => ?_)
       ·exact ⟨(blk_cell HM4.out.kb 1).trans rfl,(blk_cell HM4.out.kb 2).trans rfl,(blk_cell HM4.out.wk.blk 0).trans rfl,(blk_cell HM4.out.wk.blk 1).trans rfl⟩
       clear hK K
       refine norm_ (a':=?_) ?_ ?_
       rotate_left
       ·show Act.put _ (some 89) _ = _
        simp only [Act.put,List.setIfInBounds_toArray,List.set_cons_zero,List.set_cons_succ,i64_w,i32_w]
        rfl
       refine pure_ (i:=18) (N:=some 90) (v:=?_) (a':=?_) #[true,true,true,true,true,true,true,true,true,true,true,true,true,true,true,true,true,true,true,false,false,false,false,false] rfl rfl (by kernel_rfl) (fun _ _ _ h => h) (Or.inl ⟨by rfl,?_⟩) ?_ ?_
       rotate_left
       ·intro w'
        go_simp
        with_reducible rfl
       rotate_left
       ·simp only [Act.put,List.setIfInBounds_toArray,List.set_cons_zero,List.set_cons_succ,i64_w,i32_w]
        rfl
       refine pure_ (i:=19) (N:=some 91) (v:=?_) (a':=?_) #[true,true,true,true,true,true,true,true,true,true,true,true,true,true,true,true,true,true,true,true,false,false,false,false] rfl rfl (by kernel_rfl) (fun _ _ _ h => h) (Or.inl ⟨by rfl,?_⟩) ?_ ?_
       rotate_left
       ·intro w'
        go_simp
        with_reducible rfl
       rotate_left
       ·simp only [Act.put,List.setIfInBounds_toArray,List.set_cons_zero,List.set_cons_succ,i64_w,i32_w]
        rfl
       refine last_ (i:=20) (N:=none) #[true,true,true,true,true,true,true,true,true,true,true,true,true,true,true,true,true,true,true,true,true,false,false,false] rfl rfl (by kernel_rfl) (by decide) (fun K hK => ?_)
       have hcs:=((blk_cell HM4.out.kb 1).trans rfl : wv4.cell? ⟨bk,1,none⟩ = some (.slice Ah hs.length ch))
       have hfs:=blk_frozen HM4.out.kb 1
       refine skip_ (w1:=?_) (by rfl) rfl ?_ ?_
       rotate_left
       ·go_simp
        rfl
       obtain ⟨wv5,hwv⟩ : ∃ w_,w_ = wv4.setCell ⟨bk,1,none⟩ (.slice Ah3 (hs.length + 1) ch3):=⟨_,rfl⟩
       rw [← hwv]
       have HM5:=Aside0.mk (show WoMid w1 wv5 bk bw (.pointer (some ⟨gs,0,none⟩)) (.slice Ah3 (hs.length + 1) ch3) (.slice Ad ds.length cd) (.slice Ab bs.length cb) (.slice Ah3 (hs.length + 1) ch3) (.slice Ad4 (ds.length + 1) cd4) (.slice Ab bs.length cb) vo (hs ++ [h]) (ds ++ [d]) bs h d op 0 0 by rw [hwv];exact HM4.out.set 1 _ rfl)
       clear hwv hcs hfs
       refine hK.out _ _ ?_
       clear hK K
       refine pure_ (i:=21) (N:=some 92) (v:=?_) (a':=?_) #[true,true,true,true,true,true,true,true,true,true,true,true,true,true,true,true,true,true,true,true,true,true,false,false] rfl rfl (by kernel_rfl) (fun _ _ _ h => h) (Or.inl ⟨by rfl,?_⟩) ?_ ?_
       rotate_left
       ·intro w'
        go_simp
        with_reducible rfl
       rotate_left
       ·simp only [Act.put,List.setIfInBounds_toArray,List.set_cons_zero,List.set_cons_succ,i64_w,i32_w]
        rfl
       refine pure_ (i:=22) (N:=some 93) (v:=?_) (a':=?_) #[true,true,true,true,true,true,true,true,true,true,true,true,true,true,true,true,true,true,true,true,true,true,true,false] rfl rfl (by kernel_rfl) (fun _ _ _ h => h) (Or.inl ⟨by rfl,?_⟩) ?_ ?_
       rotate_left
       ·intro w'
        go_simp
        with_reducible rfl
       rotate_left
       ·simp only [Act.put,List.setIfInBounds_toArray,List.set_cons_zero,List.set_cons_succ,i64_w,i32_w]
        rfl
       refine last_ (i:=23) (N:=none) #[true,true,true,true,true,true,true,true,true,true,true,true,true,true,true,true,true,true,true,true,true,true,true,true] rfl rfl (by kernel_rfl) (by decide) (fun K hK => ?_)
       have hcs:=((blk_cell HM5.out.kb 2).trans rfl : wv5.cell? ⟨bk,2,none⟩ = some (.slice Ad ds.length cd))
       have hfs:=blk_frozen HM5.out.kb 2
       refine skip_ (w1:=?_) (by rfl) rfl ?_ ?_
       rotate_left
       ·go_simp
        rfl
       obtain ⟨wv6,hwv⟩ : ∃ w_,w_ = wv5.setCell ⟨bk,2,none⟩ (.slice Ad4 (ds.length + 1) cd4):=⟨_,rfl⟩
       rw [← hwv]
       have HM6:=Aside0.mk (show WoMid w1 wv6 bk bw (.pointer (some ⟨gs,0,none⟩)) (.slice Ah3 (hs.length + 1) ch3) (.slice Ad4 (ds.length + 1) cd4) (.slice Ab bs.length cb) (.slice Ah3 (hs.length + 1) ch3) (.slice Ad4 (ds.length + 1) cd4) (.slice Ab bs.length cb) vo (hs ++ [h]) (ds ++ [d]) bs h d op 0 0 by rw [hwv];exact HM5.out.set 2 _ rfl)
       clear hwv hcs hfs
       refine hK.out _ _ ?_
       clear hK K
       refine done_ (by kernel_rfl) ?_
       go_wp2
       go_meet
       exact ⟨_,_,HM6⟩
     ·skip
      refine value_ (w1:=?_) (v:=?_) (by rfl) rfl ?_ ?_
      rotate_left 2
      ·go_simp
       constructor
       ·rfl
       ·rfl
      obtain ⟨wv1,hwv⟩ : ∃ w_,w_ = w8.alloc (.cells #[.bool d] 4):=⟨_,rfl⟩
      rw [← hwv]
      have HM1:=Aside0.mk (show WoMid w1 wv1 bk bw (.pointer (some ⟨gs,0,none⟩)) (.slice Ah hs.length ch) (.slice Ad ds.length cd) (.slice Ab bs.length cb) (.slice Ah hs.length ch) (.slice Ad ds.length cd) (.slice Ab bs.length cb) vo hs ds bs h d op 0 0 by rw [hwv];exact HM0.out.step (below_alloc (Below.refl _ _) _))
      have HL2_1:=Aside0.mk (show wv1.heap[w8.heap.size]? = some (.cells #[.bool d] 4 (0,0)) by rw [hwv];exact heap_alloc_new _ _)
      clear hwv
      refine hK.out _ _ ?_ (fun hHeld => ?_)
      ·exact ⟨(blk_cell HM1.out.kb 1).trans rfl,(blk_cell HM1.out.kb 2).trans rfl,(blk_cell HM1.out.wk.blk 0).trans rfl,(blk_cell HM1.out.wk.blk 1).trans rfl⟩
      clear hK K
      refine norm_ (a':=?_) ?_ ?_
      rotate_left
      ·show Act.put _ (some 88) _ = _
       simp only [Act.put,List.setIfInBounds_toArray,List.set_cons_zero,List.set_cons_succ,i64_w,i32_w]
       rfl
      refine one_ (i:=8) (N:=some 80) #[true,true,true,true,true,true,true,true,true,false,true,true,true,true,true,true,true,false,false,false,false,false,false,false] rfl rfl (by kernel_rfl) (by decide) (fun K hK => ?_)
      refine value_ (w1:=?_) (v:=?_) (by rfl) rfl ?_ ?_
      rotate_left 2
      ·go_simp
       constructor
       ·rfl
       ·rfl
      obtain ⟨wv2,hwv⟩ : ∃ w_,w_ = wv1.alloc (.cells #[.int .i64 h] 3):=⟨_,rfl⟩
      rw [← hwv]
      have HM2:=Aside0.mk (show WoMid w1 wv2 bk bw (.pointer (some ⟨gs,0,none⟩)) (.slice Ah hs.length ch) (.slice Ad ds.length cd) (.slice Ab bs.length cb) (.slice Ah hs.length ch) (.slice Ad ds.length cd) (.slice Ab bs.length cb) vo hs ds bs h d op 0 0 by rw [hwv];exact HM1.out.step (below_alloc (Below.refl _ _) _))
      have HL1_2:=Aside0.mk (show wv2.heap[wv1.heap.size]? = some (.cells #[.int .i64 h] 3 (0,0)) by rw [hwv];exact heap_alloc_new _ _)
      have HL2_2:=Aside0.mk (show wv2.heap[w8.heap.size]? = some (.cells #[.bool d] 4 (0,0)) by rw [hwv];exact blk_alloc HL2_1.out _)
      clear hwv
      refine hK.out _ _ ?_ (fun hHeld => ?_)
      ·exact ⟨(blk_cell HM2.out.kb 1).trans rfl,(blk_cell HM2.out.kb 2).trans rfl,(blk_cell HM2.out.wk.blk 0).trans rfl,(blk_cell HM2.out.wk.blk 1).trans rfl⟩
      clear hK K
      refine norm_ (a':=?_) ?_ ?_
      rotate_left
      ·show Act.put _ (some 80) _ = _
       simp only [Act.put,List.setIfInBounds_toArray,List.set_cons_zero,List.set_cons_succ,i64_w,i32_w]
       rfl
      refine one_ (i:=9) (N:=some 81) #[true,true,true,true,true,true,true,true,true,true,true,true,true,true,true,true,true,false,false,false,false,false,false,false] rfl rfl (by kernel_rfl) (by decide) (fun K hK => ?_)
      refine Kd.R_append_rows_step (Kd.int .i64) (Rr:=fun x_ cs => cs = [Value.int .i64 x_]) (w0:=w1) w1.heap.size (by rfl) (.tmp 77) (.tmp 80) 29 3 (.int .i64 0) 8 rfl Try.underlying29 (by kernel_rfl) rfl (by decide) (by omega) (.slice Ah hs.length ch) hs [h] _ _ _ (fun k_ => some k_ = (.slice Ah hs.length ch : Value).ownBlock ∨ wv2.heap.size ≤ k_) (fun _ => False) rfl rfl ?aO ?aR (fun _ _ h_ => h_) (fun _ hk => hk.elim) ?aF ?aB ?aS ?aL ?_
      case aR => exact C_lit_blk HL1_2.out
      case aF => exact fun k_ hk_ => .inr hk_
      case aO => exact Kd.R_mono HM2.out.rh (fun k_ h_ => .inl h_)
      case aB => exact HM2.out.below
      case aS => exact HM2.out.below.size
      case aL => have:=HN.out;omega
      intro v1 wv3 ho hb hg hat
      obtain ⟨Ah3,ch3,e9⟩:=Kd.R_slice ho
      rw [List.length_append,List.length_singleton] at e9
      subst e9
      have HM3:=Aside0.mk (show WoMid w1 wv3 bk bw (.pointer (some ⟨gs,0,none⟩)) (.slice Ah hs.length ch) (.slice Ad ds.length cd) (.slice Ab bs.length cb) (.slice Ah3 (hs.length + 1) ch3) (.slice Ad ds.length cd) (.slice Ab bs.length cb) vo (hs ++ [h]) ds bs h d op 0 0 from HM2.out.pushH ho hb hg hat)
      have HL2_3:=Aside0.mk (show wv3.heap[w8.heap.size]? = some (.cells #[.bool d] 4 (0,0)) by exact blk_grown HL2_2.out hg (Kd.R_ne HM2.out.rh HL2_2.out (by decide)))
      clear ho hb hg hat
      refine hK.out _ _ ?_ (fun hHeld => ?_)
      ·exact ⟨(blk_cell HM3.out.kb 1).trans rfl,(blk_cell HM3.out.kb 2).trans rfl,(blk_cell HM3.out.wk.blk 0).trans rfl,(blk_cell HM3.out.wk.blk 1).trans rfl⟩
      clear hK K
      refine norm_ (a':=?_) ?_ ?_
      rotate_left
      ·show Act.put _ (some 81) _ = _
       simp only [Act.put,List.setIfInBounds_toArray,List.set_cons_zero,List.set_cons_succ,i64_w,i32_w]
       rfl
      refine one_ (i:=17) (N:=some 89) #[true,true,true,true,true,true,true,true,true,true,true,true,true,true,true,true,true,true,false,false,false,false,false,false] rfl rfl (by kernel_rfl) (by decide) (fun K hK => ?_)
      refine Kd.R_append_rows_step Kd.bool (Rr:=fun x_ cs => cs = [Value.bool x_]) (w0:=w1) w1.heap.size (by rfl) (.tmp 85) (.tmp 88) 46 4 (.bool false) 1 rfl Try.underlying46 (by kernel_rfl) rfl (by decide) (by omega) (.slice Ad ds.length cd) ds [d] _ _ _ (fun k_ => some k_ = (.slice Ad ds.length cd : Value).ownBlock ∨ wv3.heap.size ≤ k_) (fun _ => False) rfl rfl ?aO ?aR (fun _ _ h_ => h_) (fun _ hk => hk.elim) ?aF ?aB ?aS ?aL ?_
      case aR => exact C_lit_blkB HL2_3.out
      case aF => exact fun k_ hk_ => .inr hk_
      case aO => exact Kd.R_mono HM3.out.rd (fun k_ h_ => .inl h_)
      case aB => exact HM3.out.below
      case aS => exact HM3.out.below.size
      case aL => have:=HN.out;omega
      intro v1 wv4 ho hb hg hat
      obtain ⟨Ad4,cd4,e9⟩:=Kd.R_slice ho
      rw [List.length_append,List.length_singleton] at e9
      subst e9
      have HM4:=Aside0.mk (show WoMid w1 wv4 bk bw (.pointer (some ⟨gs,0,none⟩)) (.slice Ah hs.length ch) (.slice Ad ds.length cd) (.slice Ab bs.length cb) (.slice Ah3 (hs.length + 1) ch3) (.slice Ad4 (ds.length + 1) cd4) (.slice Ab bs.length cb) vo (hs ++ [h]) (ds ++ [d]) bs h d op 0 0 from HM3.out.pushD ho hb hg)
      clear ho hb hg hat
      refine hK.out _ _ ?_ (fun hHeld => ?_)
      ·exact ⟨(blk_cell HM4.out.kb 1).trans rfl,(blk_cell HM4.out.kb 2).trans rfl,(blk_cell HM4.out.wk.blk 0).trans rfl,(blk_cell HM4.out.wk.blk 1).trans rfl⟩
      clear hK K
      refine norm_ (a':=?_) ?_ ?_
      rotate_left
      ·show Act.put _ (some 89) _ = _
       simp only [Act.put,List.setIfInBounds_toArray,List.set_cons_zero,List.set_cons_succ,i64_w,i32_w]
       rfl
      refine pure_ (i:=18) (N:=some 90) (v:=?_) (a':=?_) #[true,true,true,true,true,true,true,true,true,true,true,true,true,true,true,true,true,true,true,false,false,false,false,false] rfl rfl (by kernel_rfl) (fun _ _ _ h => h) (Or.inl ⟨by rfl,?_⟩) ?_ ?_
      rotate_left
      ·intro w'
       go_simp
       with_reducible rfl
      rotate_left
      ·simp only [Act.put,List.setIfInBounds_toArray,List.set_cons_zero,List.set_cons_succ,i64_w,i32_w]
       rfl
      refine pure_ (i:=19) (N:=some 91) (v:=?_) (a':=?_) #[true,true,true,true,true,true,true,true,true,true,true,true,true,true,true,true,true,true,true,true,false,false,false,false] rfl rfl (by kernel_rfl) (fun _ _ _ h => h) (Or.inl ⟨by rfl,?_⟩) ?_ ?_
      rotate_left
      ·intro w'
       go_simp
       with_reducible rfl
      rotate_left
      ·simp only [Act.put,List.setIfInBounds_toArray,List.set_cons_zero,List.set_cons_succ,i64_w,i32_w]
       rfl
      refine last_ (i:=20) (N:=none) #[true,true,true,true,true,true,true,true,true,true,true,true,true,true,true,true,true,true,true,true,true,false,false,false] rfl rfl (by kernel_rfl) (by decide) (fun K hK => ?_)
      have hcs:=((blk_cell HM4.out.kb 1).trans rfl : wv4.cell? ⟨bk,1,none⟩ = some (.slice Ah hs.length ch))
      have hfs:=blk_frozen HM4.out.kb 1
      refine skip_ (w1:=?_) (by rfl) rfl ?_ ?_
      rotate_left
      ·go_simp
       rfl
      obtain ⟨wv5,hwv⟩ : ∃ w_,w_ = wv4.setCell ⟨bk,1,none⟩ (.slice Ah3 (hs.length + 1) ch3):=⟨_,rfl⟩
      rw [← hwv]
      have HM5:=Aside0.mk (show WoMid w1 wv5 bk bw (.pointer (some ⟨gs,0,none⟩)) (.slice Ah3 (hs.length + 1) ch3) (.slice Ad ds.length cd) (.slice Ab bs.length cb) (.slice Ah3 (hs.length + 1) ch3) (.slice Ad4 (ds.length + 1) cd4) (.slice Ab bs.length cb) vo (hs ++ [h]) (ds ++ [d]) bs h d op 0 0 by rw [hwv];exact HM4.out.set 1 _ rfl)
      clear hwv hcs hfs
      refine hK.out _ _ ?_
      clear hK K
      refine pure_ (i:=21) (N:=some 92) (v:=?_) (a':=?_) #[true,true,true,true,true,true,true,true,true,true,true,true,true,true,true,true,true,true,true,true,true,true,false,false] rfl rfl (by kernel_rfl) (fun _ _ _ h => h) (Or.inl ⟨by rfl,?_⟩) ?_ ?_
      rotate_left
      ·intro w'
       go_simp
       with_reducible rfl
      rotate_left
      ·simp only [Act.put,List.setIfInBounds_toArray,List.set_cons_zero,List.set_cons_succ,i64_w,i32_w]
       rfl
      refine pure_ (i:=22) (N:=some 93) (v:=?_) (a':=?_) #[true,true,true,true,true,true,true,true,true,true,true,true,true,true,true,true,true,true,true,true,true,true,true,false] rfl rfl (by kernel_rfl) (fun _ _ _ h => h) (Or.inl ⟨by rfl,?_⟩) ?_ ?_
      rotate_left
      ·intro w'
       go_simp
       with_reducible rfl
      rotate_left
      ·simp only [Act.put,List.setIfInBounds_toArray,List.set_cons_zero,List.set_cons_succ,i64_w,i32_w]
       rfl
      refine last_ (i:=23) (N:=none) #[true,true,true,true,true,true,true,true,true,true,true,true,true,true,true,true,true,true,true,true,true,true,true,true] rfl rfl (by kernel_rfl) (by decide) (fun K hK => ?_)
      have hcs:=((blk_cell HM5.out.kb 2).trans rfl : wv5.cell? ⟨bk,2,none⟩ = some (.slice Ad ds.length cd))
      have hfs:=blk_frozen HM5.out.kb 2
      refine skip_ (w1:=?_) (by rfl) rfl ?_ ?_
      rotate_left
      ·go_simp
       rfl
      obtain ⟨wv6,hwv⟩ : ∃ w_,w_ = wv5.setCell ⟨bk,2,none⟩ (.slice Ad4 (ds.length + 1) cd4):=⟨_,rfl⟩
      rw [← hwv]
      have HM6:=Aside0.mk (show WoMid w1 wv6 bk bw (.pointer (some ⟨gs,0,none⟩)) (.slice Ah3 (hs.length + 1) ch3) (.slice Ad4 (ds.length + 1) cd4) (.slice Ab bs.length cb) (.slice Ah3 (hs.length + 1) ch3) (.slice Ad4 (ds.length + 1) cd4) (.slice Ab bs.length cb) vo (hs ++ [h]) (ds ++ [d]) bs h d op 0 0 by rw [hwv];exact HM5.out.set 2 _ rfl)
      clear hwv hcs hfs
      refine hK.out _ _ ?_
      clear hK K
      refine done_ (by kernel_rfl) ?_
      go_wp2
      go_meet
      exact ⟨_,_,HM6⟩
    case rest =>
    obtain ⟨vh2,vd2,HM1⟩:=hcut
    clear HM0 HI
    have hcw0:=((blk_cell HM1.out.wk.blk 0).trans rfl : wc.cell? ⟨bw,0,none⟩ = some (.int .i64 h))
    have hk4:=((blk_cell HM1.out.kb 4).trans rfl : wc.cell? ⟨bk,4,none⟩ = some (.int .i64 0))
    have hk5:=((blk_cell HM1.out.kb 5).trans rfl : wc.cell? ⟨bk,5,none⟩ = some (.int .i64 0))
    have hf4:=blk_frozen HM1.out.kb 4
    have hf5:=blk_frozen HM1.out.kb 5
    by_cases c3 : h > 0
    ·rw [if_pos c3] at H
     obtain rfl:=Option.some.inj H
     have c3b : decide (h > 0) = true:=decide_eq_true c3
     have c3c : decide (0 < h) = true:=decide_eq_true c3
     clear c3 H
     go_wp2_with (first | ((with_reducible refine gate_store (t:=3) (p:=102) rfl ?_);refine store_event (t:=3) (p:=102) (v:=?vowa1_) (w1:=(wc.setCell ⟨bk,4,none⟩ (.int .i64 3))) ?hg ?ho ?hn ?hr ?_;(case ho => rfl);(case hg => rfl);(case hn => rfl);(case hr => first | (go_simp;done) | (go_simp;rfl));intro wa hw;have HM2:=Aside0.mk (show WoMid w1 wa bk bw (.pointer (some ⟨gs,0,none⟩)) vh2 vd2 (.slice Ab bs.length cb) vh2 vd2 (.slice Ab bs.length cb) vo (hs ++ [h]) (ds ++ [d]) bs h d op 3 0 by rw [hw];exact HM1.out.set 4 _ rfl);have hk5a:=((blk_cell HM2.out.kb 5).trans rfl : wa.cell? ⟨bk,5,none⟩ = some (.int .i64 0));have hf5a:=blk_frozen HM2.out.kb 5;clear hw) | ((with_reducible refine gate_store (t:=3) (p:=104) rfl ?_);refine store_event (t:=3) (p:=104) (v:=?vowb2_) (w1:=(wa.setCell ⟨bk,5,none⟩ (.int .i64 (l0.length : Int)))) ?hg ?ho ?hn ?hr ?_;(case ho => rfl);(case hg => rfl);(case hn => rfl);(case hr => first | (go_simp;done) | (go_simp;rfl));intro wb hw;have HM3:=Aside0.mk (show WoMid w1 wb bk bw (.pointer (some ⟨gs,0,none⟩)) vh2 vd2 (.slice Ab bs.length cb) vh2 vd2 (.slice Ab bs.length cb) vo (hs ++ [h]) (ds ++ [d]) bs h d op 3 (l0.length : Int) by rw [hw];exact HM2.out.set 5 _ rfl);clear hw))
     go_ret
     rw [← HQ.out]
     exact ⟨_,rfl,⟨bk,rfl,HM3.out.done HB1.out HSA.out⟩,below_step HB1.out HM3.out.below⟩
    ·rw [if_neg c3] at H
     obtain rfl:=Option.some.inj H
     have c3b : decide (h > 0) = false:=decide_eq_false c3
     have c3c : decide (0 < h) = false:=decide_eq_false c3
     clear c3 H
     go_wp2
     go_ret
     rw [← HQ.out]
     exact ⟨_,rfl,⟨bk,rfl,HM1.out.done HB1.out HSA.out⟩,below_step HB1.out HM1.out.below⟩
   rw [if_pos c2] at H
   obtain ⟨b,AB,H⟩:=Option.bind_eq_some_iff.mp H
   obtain ⟨⟨t1,t2,t3,t4⟩,AS2,H⟩:=Option.bind_eq_some_iff.mp H
   dsimp only at H
   have AB:=Aside0.mk AB
   have AS2:=Aside0.mk AS2
   have hop : 0 < op.length:=by
    have h_:=AB.out
    unfold impl_walker_base.f at h_
    by_cases c_ : 0 < op.length ∧ op.length ≤ 1000
    ·exact c_.1
    ·rw [if_neg c_] at h_;exact absurd h_ (by simp)
   obtain ⟨go,co,eo,_⟩:=Kd.R_form HI.out.wk.row hop
   obtain ⟨ad,had⟩ : ∃ ad : Addr,ad = ⟨go,0,none⟩:=⟨_,rfl⟩
   rw [← had] at eo
   subst eo
   clear had hop
   obtain ⟨adl,AT,cT,eA,hx0,hx1,hx2,hlT,hiT⟩:=at_T56 HR0.out (i : Int) (by omega) (by omega)
   cases eA
   obtain ⟨x,hx⟩ : ∃ x,x = rd_T56 l0 (i : Int):=⟨_,rfl⟩
   rw [← hx] at hx0 hx1 hx2 AS2
   have HBW:=Aside0.mk (below_step HB1.out HI.out.below)
   have hy0:=pw_cell_below HBW.out hx0
   have hy1:=pw_cell_below HBW.out hx1
   have hy2:=pw_cell_below HBW.out hx2
   have c2b : decide (i < l0.length) = true:=decide_eq_true c2
   have p2 : (0 : Int) ≤ (i : Int):=by omega
   have p3 : (i : Int) < (l0.length : Int):=by omega
   have p4 : (i : Int) ≤ 60:=by have:=HL.out;omega
   rw [Int.toNat_natCast] at hy0 hy1 hy2
   clear hx0 hx1 hx2 hx hlT hiT c2
   go_upto_region 8 with (fail)
   have HM0:=Aside0.mk (show WoMid w1 (World.drew (wr.alloc (.cells #[.int .i64 x.f0,.int .i64 x.f1,.slice AT x.f2.length cT] 56))) bk bw (.pointer (some ⟨gs,0,none⟩)) (.slice Ah hs.length ch) (.slice Ad ds.length cd) (.slice Ab bs.length cb) (.slice Ah hs.length ch) (.slice Ad ds.length cd) (.slice Ab bs.length cb) (.slice (some ad) op.length co) hs ds bs h d op 0 0 from HI.out.step (below_drew (below_alloc (Below.refl _ _) _)))
   have HX0:=Aside0.mk (show (World.drew (wr.alloc (.cells #[.int .i64 x.f0,.int .i64 x.f1,.slice AT x.f2.length cT] 56))).heap[wr.heap.size]? = some (.cells #[.int .i64 x.f0,.int .i64 x.f1,.slice AT x.f2.length cT] 56 (0,0)) from blk_drew (heap_alloc_new wr _))
   clear hy0 hy1 hy2 HI
   go_cut [7] (fun v7 wd => ∃ gx vh2 vd2 vb2,v7 = .pointer (some ⟨gx,0,none⟩) ∧ Aside0 (wd.heap[gx]? = some (.cells #[.int .i64 x.f0,.int .i64 x.f1,.slice AT x.f2.length cT] 56 (0,0))) ∧ Aside0 (WoMid w1 wd bk bw (.pointer (some ⟨gs,0,none⟩)) vh2 vd2 vb2 vh2 vd2 vb2 (.slice (some ad) op.length co) (hs ++ [h]) (ds ++ [d]) (bs ++ [b]) h d op 0 0))
   case first =>
    refine start_ (n:=35) (S:=fun w' => w'.cell? ⟨bk,1,none⟩ = some (.slice Ah hs.length ch) ∧ w'.cell? ⟨bk,2,none⟩ = some (.slice Ad ds.length cd) ∧ w'.cell? ⟨bk,3,none⟩ = some (.slice Ab bs.length cb) ∧ w'.cell? ⟨bw,0,none⟩ = some (.int .i64 h) ∧ w'.cell? ⟨bw,1,none⟩ = some (.bool d)) (ds:=[28,31,34]) #[false,false,false,false,false,false,false,false,false,false,false,false,false,false,false,false,false,false,false,false,false,false,false,false,false,false,false,false,false,false,false,false,false,false,false] (by kernel_rfl) rfl rfl ?_ (fun hHeld => ?_)
    ·exact ⟨(blk_cell HM0.out.kb 1).trans rfl,(blk_cell HM0.out.kb 2).trans rfl,(blk_cell HM0.out.kb 3).trans rfl,(blk_cell HM0.out.wk.blk 0).trans rfl,(blk_cell HM0.out.wk.blk 1).trans rfl⟩
    obtain ⟨gx,hgx⟩ : ∃ gx,gx = wr.heap.size:=⟨_,rfl⟩
    rw [← hgx] at HX0
    try rw [← hgx]
    generalize hw8 : World.drew (World.alloc wr (Obj.cells #[Value.int IntKind.i64 x.f0,Value.int IntKind.i64 x.f1,Value.slice AT x.f2.length cT] 56)) = w8 at HM0 HX0 hHeld ⊢
    clear hw8 hgx
    refine pure_ (i:=0) (N:=some 26) (v:=?_) (a':=?_) #[true,false,false,false,false,false,false,false,false,false,false,false,false,false,false,false,false,false,false,false,false,false,false,false,false,false,false,false,false,false,false,false,false,false,false] rfl rfl (by kernel_rfl) (fun _ _ _ h => h) (Or.inl ⟨by rfl,?_⟩) ?_ ?_
    rotate_left
    ·intro w'
     go_simp
     with_reducible rfl
    rotate_left
    ·simp only [Act.put,List.setIfInBounds_toArray,List.set_cons_zero,List.set_cons_succ,i64_w,i32_w]
     rfl
    refine pure_ (i:=1) (N:=some 27) (v:=?_) (a':=?_) #[true,true,false,false,false,false,false,false,false,false,false,false,false,false,false,false,false,false,false,false,false,false,false,false,false,false,false,false,false,false,false,false,false,false,false] rfl rfl (by kernel_rfl) (fun _ _ _ h => h) (Or.inl ⟨by rfl,?_⟩) ?_ ?_
    rotate_left
    ·intro w'
     go_simp
     with_reducible rfl
    rotate_left
    ·simp only [Act.put,List.setIfInBounds_toArray,List.set_cons_zero,List.set_cons_succ,i64_w,i32_w]
     rfl
    refine pure_ (i:=2) (N:=some 28) (v:=?_) (a':=?_) #[true,true,true,false,false,false,false,false,false,false,false,false,false,false,false,false,false,false,false,false,false,false,false,false,false,false,false,false,false,false,false,false,false,false,false] rfl rfl (by kernel_rfl) (fun _ _ _ h => h) (Or.inl ⟨by rfl,?_⟩) ?_ ?_
    rotate_left
    ·intro w'
     go_simp
     with_reducible rfl
    rotate_left
    ·simp only [Act.put,List.setIfInBounds_toArray,List.set_cons_zero,List.set_cons_succ,i64_w,i32_w]
     rfl
    refine pure_ (i:=3) (N:=some 29) (v:=?_) (a':=?_) #[true,true,true,true,false,false,false,false,false,false,false,false,false,false,false,false,false,false,false,false,false,false,false,false,false,false,false,false,false,false,false,false,false,false,false] rfl rfl (by kernel_rfl) (fun _ _ _ h => h) (Or.inl ⟨by rfl,?_⟩) ?_ ?_
    rotate_left
    ·intro w'
     go_simp
     with_reducible rfl
    rotate_left
    ·simp only [Act.put,List.setIfInBounds_toArray,List.set_cons_zero,List.set_cons_succ,i64_w,i32_w]
     rfl
    refine pure_ (i:=4) (N:=some 30) (v:=?_) (a':=?_) #[true,true,true,true,true,false,false,false,false,false,false,false,false,false,false,false,false,false,false,false,false,false,false,false,false,false,false,false,false,false,false,false,false,false,false] rfl rfl (by kernel_rfl) (fun _ _ _ h => h) (Or.inl ⟨by rfl,?_⟩) ?_ ?_
    rotate_left
    ·intro w'
     go_simp
     with_reducible rfl
    rotate_left
    ·simp only [Act.put,List.setIfInBounds_toArray,List.set_cons_zero,List.set_cons_succ,i64_w,i32_w]
     rfl
    refine pure_ (i:=5) (N:=some 31) (v:=?_) (a':=?_) #[true,true,true,true,true,true,false,false,false,false,false,false,false,false,false,false,false,false,false,false,false,false,false,false,false,false,false,false,false,false,false,false,false,false,false] rfl rfl (by kernel_rfl) (fun _ _ _ h => h) (Or.inl ⟨by rfl,?_⟩) ?_ ?_
    rotate_left
    ·intro w'
     go_simp
     with_reducible rfl
    rotate_left
    ·simp only [Act.put,List.setIfInBounds_toArray,List.set_cons_zero,List.set_cons_succ,i64_w,i32_w]
     rfl
    refine pure_ (i:=7) (N:=some 33) (v:=?_) (a':=?_) #[true,true,true,true,true,true,false,true,false,false,false,false,false,false,false,false,false,false,false,false,false,false,false,false,false,false,false,false,false,false,false,false,false,false,false] rfl rfl (by kernel_rfl) (fun _ _ _ h => h) (Or.inl ⟨by rfl,?_⟩) ?_ ?_
    rotate_left
    ·intro w'
     go_simp
     with_reducible rfl
    rotate_left
    ·simp only [Act.put,List.setIfInBounds_toArray,List.set_cons_zero,List.set_cons_succ,i64_w,i32_w]
     rfl
    refine pure_ (i:=11) (N:=some 37) (v:=?_) (a':=?_) #[true,true,true,true,true,true,false,true,false,false,false,true,false,false,false,false,false,false,false,false,false,false,false,false,false,false,false,false,false,false,false,false,false,false,false] rfl rfl (by kernel_rfl) (fun _ _ _ h => h) (Or.inl ⟨by rfl,?_⟩) ?_ ?_
    rotate_left
    ·intro w'
     go_simp
     with_reducible rfl
    rotate_left
    ·simp only [Act.put,List.setIfInBounds_toArray,List.set_cons_zero,List.set_cons_succ,i64_w,i32_w]
     rfl
    refine pure_ (i:=12) (N:=some 38) (v:=?_) (a':=?_) #[true,true,true,true,true,true,false,true,false,false,false,true,true,false,false,false,false,false,false,false,false,false,false,false,false,false,false,false,false,false,false,false,false,false,false] rfl rfl (by kernel_rfl) (fun _ _ _ h => h) (Or.inl ⟨by rfl,?_⟩) ?_ ?_
    rotate_left
    ·intro w'
     go_simp
     with_reducible rfl
    rotate_left
    ·simp only [Act.put,List.setIfInBounds_toArray,List.set_cons_zero,List.set_cons_succ,i64_w,i32_w]
     rfl
    refine pure_ (i:=13) (N:=some 39) (v:=?_) (a':=?_) #[true,true,true,true,true,true,false,true,false,false,false,true,true,true,false,false,false,false,false,false,false,false,false,false,false,false,false,false,false,false,false,false,false,false,false] rfl rfl (by kernel_rfl) (fun _ _ _ h => h) (Or.inl ⟨by rfl,?_⟩) ?_ ?_
    rotate_left
    ·intro w'
     go_simp
     with_reducible rfl
    rotate_left
    ·simp only [Act.put,List.setIfInBounds_toArray,List.set_cons_zero,List.set_cons_succ,i64_w,i32_w]
     rfl
    refine pure_ (i:=15) (N:=some 41) (v:=?_) (a':=?_) #[true,true,true,true,true,true,false,true,false,false,false,true,true,true,false,true,false,false,false,false,false,false,false,false,false,false,false,false,false,false,false,false,false,false,false] rfl rfl (by kernel_rfl) (fun _ _ _ h => h) (Or.inl ⟨by rfl,?_⟩) ?_ ?_
    rotate_left
    ·intro w'
     go_simp
     with_reducible rfl
    rotate_left
    ·simp only [Act.put,List.setIfInBounds_toArray,List.set_cons_zero,List.set_cons_succ,i64_w,i32_w]
     rfl
    refine pure_ (i:=19) (N:=some 45) (v:=?_) (a':=?_) #[true,true,true,true,true,true,false,true,false,false,false,true,true,true,false,true,false,false,false,true,false,false,false,false,false,false,false,false,false,false,false,false,false,false,false] rfl rfl (by kernel_rfl) (fun _ _ _ h => h) (Or.inl ⟨by rfl,?_⟩) ?_ ?_
    rotate_left
    ·intro w'
     go_simp
     with_reducible rfl
    rotate_left
    ·simp only [Act.put,List.setIfInBounds_toArray,List.set_cons_zero,List.set_cons_succ,i64_w,i32_w]
     rfl
    refine pure_ (i:=20) (N:=some 46) (v:=?_) (a':=?_) #[true,true,true,true,true,true,false,true,false,false,false,true,true,true,false,true,false,false,false,true,true,false,false,false,false,false,false,false,false,false,false,false,false,false,false] rfl rfl (by kernel_rfl) (fun _ _ _ h => h) (Or.inl ⟨by rfl,?_⟩) ?_ ?_
    rotate_left
    ·intro w'
     go_simp
     with_reducible rfl
    rotate_left
    ·simp only [Act.put,List.setIfInBounds_toArray,List.set_cons_zero,List.set_cons_succ,i64_w,i32_w]
     rfl
    refine pure_ (i:=21) (N:=some 47) (v:=?_) (a':=?_) #[true,true,true,true,true,true,false,true,false,false,false,true,true,true,false,true,false,false,false,true,true,true,false,false,false,false,false,false,false,false,false,false,false,false,false] rfl rfl (by kernel_rfl) (fun _ _ _ h => h) (Or.inl ⟨by rfl,?_⟩) ?_ ?_
    rotate_left
    ·intro w'
     go_simp
     with_reducible rfl
    rotate_left
    ·simp only [Act.put,List.setIfInBounds_toArray,List.set_cons_zero,List.set_cons_succ,i64_w,i32_w]
     rfl
    refine take_ (i:=6) (N:=some 32) (v:=?_) (a':=?_) #[true,true,true,true,true,true,true,true,false,false,false,true,true,true,false,true,false,false,false,true,true,true,false,false,false,false,false,false,false,false,false,false,false,false,false] rfl rfl (by kernel_rfl) (fun _ _ _ h => h) (Or.inl ⟨by rfl,?_⟩) hHeld ?_ ?_
    rotate_left
    ·rintro w' ⟨s0,s1,s2,s3,s4⟩
     go_simp
     with_reducible rfl
    rotate_left
    ·simp only [Act.put,List.setIfInBounds_toArray,List.set_cons_zero,List.set_cons_succ,i64_w,i32_w]
     rfl
    refine take_ (i:=8) (N:=some 34) (v:=?_) (a':=?_) #[true,true,true,true,true,true,true,true,true,false,false,true,true,true,false,true,false,false,false,true,true,true,false,false,false,false,false,false,false,false,false,false,false,false,false] rfl rfl (by kernel_rfl) (fun _ _ _ h => h) (Or.inl ⟨by rfl,?_⟩) hHeld ?_ ?_
    rotate_left
    ·rintro w' ⟨s0,s1,s2,s3,s4⟩
     go_simp
     with_reducible rfl
    rotate_left
    ·simp only [Act.put,List.setIfInBounds_toArray,List.set_cons_zero,List.set_cons_succ,i64_w,i32_w]
     rfl
    refine take_ (i:=14) (N:=some 40) (v:=?_) (a':=?_) #[true,true,true,true,true,true,true,true,true,false,false,true,true,true,true,true,false,false,false,true,true,true,false,false,false,false,false,false,false,false,false,false,false,false,false] rfl rfl (by kernel_rfl) (fun _ _ _ h => h) (Or.inl ⟨by rfl,?_⟩) hHeld ?_ ?_
    rotate_left
    ·rintro w' ⟨s0,s1,s2,s3,s4⟩
     go_simp
     with_reducible rfl
    rotate_left
    ·simp only [Act.put,List.setIfInBounds_toArray,List.set_cons_zero,List.set_cons_succ,i64_w,i32_w]
     rfl
    refine take_ (i:=16) (N:=some 42) (v:=?_) (a':=?_) #[true,true,true,true,true,true,true,true,true,false,false,true,true,true,true,true,true,false,false,true,true,true,false,false,false,false,false,false,false,false,false,false,false,false,false] rfl rfl (by kernel_rfl) (fun _ _ _ h => h) (Or.inl ⟨by rfl,?_⟩) hHeld ?_ ?_
    rotate_left
    ·rintro w' ⟨s0,s1,s2,s3,s4⟩
     go_simp
     with_reducible rfl
    rotate_left
    ·simp only [Act.put,List.setIfInBounds_toArray,List.set_cons_zero,List.set_cons_succ,i64_w,i32_w]
     rfl
    refine take_ (i:=22) (N:=some 48) (v:=?_) (a':=?_) #[true,true,true,true,true,true,true,true,true,false,false,true,true,true,true,true,true,false,false,true,true,true,true,false,false,false,false,false,false,false,false,false,false,false,false] rfl rfl (by kernel_rfl) (fun _ _ _ h => h) (Or.inl ⟨by rfl,?_⟩) hHeld ?_ ?_
    rotate_left
    ·rintro w' ⟨s0,s1,s2,s3,s4⟩
     go_simp
     with_reducible rfl
    rotate_left
    ·simp only [Act.put,List.setIfInBounds_toArray,List.set_cons_zero,List.set_cons_succ,i64_w,i32_w]
     rfl
    refine two_ (i:=9) (j:=17) (Ni:=some 35) (Nj:=some 43) #[true,true,true,true,true,true,true,true,true,true,false,true,true,true,true,true,true,false,false,true,true,true,true,false,false,false,false,false,false,false,false,false,false,false,false] #[true,true,true,true,true,true,true,true,true,false,false,true,true,true,true,true,true,true,false,true,true,true,true,false,false,false,false,false,false,false,false,false,false,false,false] rfl rfl rfl rfl (by kernel_rfl) (by decide) (by decide) (fun K hK => ?_) (fun K hK => ?_)
    ·skip
     refine value_ (w1:=?_) (v:=?_) (by rfl) rfl ?_ ?_
     rotate_left 2
     ·go_simp
      constructor
      ·rfl
      ·rfl
     obtain ⟨wv1,hwv⟩ : ∃ w_,w_ = w8.alloc (.cells #[.int .i64 h] 3):=⟨_,rfl⟩
     rw [← hwv]
     have HM1:=Aside0.mk (show WoMid w1 wv1 bk bw (.pointer (some ⟨gs,0,none⟩)) (.slice Ah hs.length ch) (.slice Ad ds.length cd) (.slice Ab bs.length cb) (.slice Ah hs.length ch) (.slice Ad ds.length cd) (.slice Ab bs.length cb) (.slice (some ad) op.length co) hs ds bs h d op 0 0 by rw [hwv];exact HM0.out.step (below_alloc (Below.refl _ _) _))
     have HL1_1:=Aside0.mk (show wv1.heap[w8.heap.size]? = some (.cells #[.int .i64 h] 3 (0,0)) by rw [hwv];exact heap_alloc_new _ _)
     have HX1:=Aside0.mk (show wv1.heap[gx]? = some (.cells #[.int .i64 x.f0,.int .i64 x.f1,.slice AT x.f2.length cT] 56 (0,0)) by rw [hwv];exact blk_alloc HX0.out _)
     clear hwv
     refine hK.out _ _ ?_ (fun hHeld => ?_)
     ·exact ⟨(blk_cell HM1.out.kb 1).trans rfl,(blk_cell HM1.out.kb 2).trans rfl,(blk_cell HM1.out.kb 3).trans rfl,(blk_cell HM1.out.wk.blk 0).trans rfl,(blk_cell HM1.out.wk.blk 1).trans rfl⟩
     clear hK K
     refine norm_ (a':=?_) ?_ ?_
     rotate_left
     ·show Act.put _ (some 35) _ = _
      simp only [Act.put,List.setIfInBounds_toArray,List.set_cons_zero,List.set_cons_succ,i64_w,i32_w]
      rfl
     refine two_ (i:=10) (j:=17) (Ni:=some 36) (Nj:=some 43) #[true,true,true,true,true,true,true,true,true,true,true,true,true,true,true,true,true,false,false,true,true,true,true,false,false,false,false,false,false,false,false,false,false,false,false] #[true,true,true,true,true,true,true,true,true,true,false,true,true,true,true,true,true,true,false,true,true,true,true,false,false,false,false,false,false,false,false,false,false,false,false] rfl rfl rfl rfl (by kernel_rfl) (by decide) (by decide) (fun K hK => ?_) (fun K hK => ?_)
     ·skip
      refine Kd.R_append_rows_step (Kd.int .i64) (Rr:=fun x_ cs => cs = [Value.int .i64 x_]) (w0:=w1) w1.heap.size (by rfl) (.tmp 32) (.tmp 35) 29 3 (.int .i64 0) 8 rfl Try.underlying29 (by kernel_rfl) rfl (by decide) (by omega) (.slice Ah hs.length ch) hs [h] _ _ _ (fun k_ => some k_ = (.slice Ah hs.length ch : Value).ownBlock ∨ wv1.heap.size ≤ k_) (fun _ => False) rfl rfl ?aO ?aR (fun _ _ h_ => h_) (fun _ hk => hk.elim) ?aF ?aB ?aS ?aL ?_
      case aR => exact C_lit_blk HL1_1.out
      case aF => exact fun k_ hk_ => .inr hk_
      case aO => exact Kd.R_mono HM1.out.rh (fun k_ h_ => .inl h_)
      case aB => exact HM1.out.below
      case aS => exact HM1.out.below.size
      case aL => have:=HN.out;omega
      intro v1 wv2 ho hb hg hat
      obtain ⟨Ah2,ch2,e9⟩:=Kd.R_slice ho
      rw [List.length_append,List.length_singleton] at e9
      subst e9
      have HM2:=Aside0.mk (show WoMid w1 wv2 bk bw (.pointer (some ⟨gs,0,none⟩)) (.slice Ah hs.length ch) (.slice Ad ds.length cd) (.slice Ab bs.length cb) (.slice Ah2 (hs.length + 1) ch2) (.slice Ad ds.length cd) (.slice Ab bs.length cb) (.slice (some ad) op.length co) (hs ++ [h]) ds bs h d op 0 0 from HM1.out.pushH ho hb hg hat)
      have HX2:=Aside0.mk (show wv2.heap[gx]? = some (.cells #[.int .i64 x.f0,.int .i64 x.f1,.slice AT x.f2.length cT] 56 (0,0)) by exact blk_grown HX1.out hg (Kd.R_ne HM1.out.rh HX1.out (by decide)))
      clear ho hb hg hat
      refine hK.out _ _ ?_ (fun hHeld => ?_)
      ·exact ⟨(blk_cell HM2.out.kb 1).trans rfl,(blk_cell HM2.out.kb 2).trans rfl,(blk_cell HM2.out.kb 3).trans rfl,(blk_cell HM2.out.wk.blk 0).trans rfl,(blk_cell HM2.out.wk.blk 1).trans rfl⟩
      clear hK K
      refine norm_ (a':=?_) ?_ ?_
      rotate_left
      ·show Act.put _ (some 36) _ = _
       simp only [Act.put,List.setIfInBounds_toArray,List.set_cons_zero,List.set_cons_succ,i64_w,i32_w]
       rfl
      refine one_ (i:=17) (N:=some 43) #[true,true,true,true,true,true,true,true,true,true,true,true,true,true,true,true,true,true,false,true,true,true,true,false,false,false,false,false,false,false,false,false,false,false,false] rfl rfl (by kernel_rfl) (by decide) (fun K hK => ?_)
      refine value_ (w1:=?_) (v:=?_) (by rfl) rfl ?_ ?_
      rotate_left 2
      ·go_simp
       constructor
       ·rfl
       ·rfl
      obtain ⟨wv3,hwv⟩ : ∃ w_,w_ = wv2.alloc (.cells #[.bool d] 4):=⟨_,rfl⟩
      rw [← hwv]
      have HM3:=Aside0.mk (show WoMid w1 wv3 bk bw (.pointer (some ⟨gs,0,none⟩)) (.slice Ah hs.length ch) (.slice Ad ds.length cd) (.slice Ab bs.length cb) (.slice Ah2 (hs.length + 1) ch2) (.slice Ad ds.length cd) (.slice Ab bs.length cb) (.slice (some ad) op.length co) (hs ++ [h]) ds bs h d op 0 0 by rw [hwv];exact HM2.out.step (below_alloc (Below.refl _ _) _))
      have HL2_3:=Aside0.mk (show wv3.heap[wv2.heap.size]? = some (.cells #[.bool d] 4 (0,0)) by rw [hwv];exact heap_alloc_new _ _)
      have HX3:=Aside0.mk (show wv3.heap[gx]? = some (.cells #[.int .i64 x.f0,.int .i64 x.f1,.slice AT x.f2.length cT] 56 (0,0)) by rw [hwv];exact blk_alloc HX2.out _)
      clear hwv
      refine hK.out _ _ ?_ (fun hHeld => ?_)
      ·exact ⟨(blk_cell HM3.out.kb 1).trans rfl,(blk_cell HM3.out.kb 2).trans rfl,(blk_cell HM3.out.kb 3).trans rfl,(blk_cell HM3.out.wk.blk 0).trans rfl,(blk_cell HM3.out.wk.blk 1).trans rfl⟩
      clear hK K
      refine norm_ (a':=?_) ?_ ?_
      rotate_left
      ·show Act.put _ (some 43) _ = _
       simp only [Act.put,List.setIfInBounds_toArray,List.set_cons_zero,List.set_cons_succ,i64_w,i32_w]
       rfl
      refine one_ (i:=18) (N:=some 44) #[true,true,true,true,true,true,true,true,true,true,true,true,true,true,true,true,true,true,true,true,true,true,true,false,false,false,false,false,false,false,false,false,false,false,false] rfl rfl (by kernel_rfl) (by decide) (fun K hK => ?_)
      refine Kd.R_append_rows_step Kd.bool (Rr:=fun x_ cs => cs = [Value.bool x_]) (w0:=w1) w1.heap.size (by rfl) (.tmp 40) (.tmp 43) 46 4 (.bool false) 1 rfl Try.underlying46 (by kernel_rfl) rfl (by decide) (by omega) (.slice Ad ds.length cd) ds [d] _ _ _ (fun k_ => some k_ = (.slice Ad ds.length cd : Value).ownBlock ∨ wv3.heap.size ≤ k_) (fun _ => False) rfl rfl ?aO ?aR (fun _ _ h_ => h_) (fun _ hk => hk.elim) ?aF ?aB ?aS ?aL ?_
      case aR => exact C_lit_blkB HL2_3.out
      case aF => exact fun k_ hk_ => .inr hk_
      case aO => exact Kd.R_mono HM3.out.rd (fun k_ h_ => .inl h_)
      case aB => exact HM3.out.below
      case aS => exact HM3.out.below.size
      case aL => have:=HN.out;omega
      intro v1 wv4 ho hb hg hat
      obtain ⟨Ad4,cd4,e9⟩:=Kd.R_slice ho
      rw [List.length_append,List.length_singleton] at e9
      subst e9
      have HM4:=Aside0.mk (show WoMid w1 wv4 bk bw (.pointer (some ⟨gs,0,none⟩)) (.slice Ah hs.length ch) (.slice Ad ds.length cd) (.slice Ab bs.length cb) (.slice Ah2 (hs.length + 1) ch2) (.slice Ad4 (ds.length + 1) cd4) (.slice Ab bs.length cb) (.slice (some ad) op.length co) (hs ++ [h]) (ds ++ [d]) bs h d op 0 0 from HM3.out.pushD ho hb hg)
      have HX4:=Aside0.mk (show wv4.heap[gx]? = some (.cells #[.int .i64 x.f0,.int .i64 x.f1,.slice AT x.f2.length cT] 56 (0,0)) by exact blk_grown HX3.out hg (Kd.R_ne HM3.out.rd HX3.out (by decide)))
      clear ho hb hg hat
      refine hK.out _ _ ?_ (fun hHeld => ?_)
      ·exact ⟨(blk_cell HM4.out.kb 1).trans rfl,(blk_cell HM4.out.kb 2).trans rfl,(blk_cell HM4.out.kb 3).trans rfl,(blk_cell HM4.out.wk.blk 0).trans rfl,(blk_cell HM4.out.wk.blk 1).trans rfl⟩
      clear hK K
      refine norm_ (a':=?_) ?_ ?_
      rotate_left
      ·show Act.put _ (some 44) _ = _
       simp only [Act.put,List.setIfInBounds_toArray,List.set_cons_zero,List.set_cons_succ,i64_w,i32_w]
       rfl
      refine one_ (i:=23) (N:=some 49) #[true,true,true,true,true,true,true,true,true,true,true,true,true,true,true,true,true,true,true,true,true,true,true,true,false,false,false,false,false,false,false,false,false,false,false] rfl rfl (by kernel_rfl) (by decide) (fun K hK => ?_)
      refine goes_ Try.func91 (by kernel_rfl) rfl #[.pointer (some ⟨bw,0,none⟩)] (by rfl) rfl rfl (by simp only [List.map_toArray,List.map_cons,List.map_nil];rfl) ?_
      refine (WkAt.base AB.out HM4.out.wk).mono ?_
      rintro e wv5 ⟨rfl,⟨m_,hm⟩⟩
      refine ⟨_,rfl,?_⟩
      have HM5:=Aside0.mk (show WoMid w1 wv5 bk bw (.pointer (some ⟨gs,0,none⟩)) (.slice Ah hs.length ch) (.slice Ad ds.length cd) (.slice Ab bs.length cb) (.slice Ah2 (hs.length + 1) ch2) (.slice Ad4 (ds.length + 1) cd4) (.slice Ab bs.length cb) (.slice (some ad) op.length co) (hs ++ [h]) (ds ++ [d]) bs h d op 0 0 by rw [hm];exact HM4.out.step (pw_below_drewN (Below.refl _ _) m_))
      have HX5:=Aside0.mk (show wv5.heap[gx]? = some (.cells #[.int .i64 x.f0,.int .i64 x.f1,.slice AT x.f2.length cT] 56 (0,0)) by rw [hm];exact blk_drewN HX4.out m_)
      clear hm
      refine hK.out _ _ ?_ (fun hHeld => ?_)
      ·exact ⟨(blk_cell HM5.out.kb 1).trans rfl,(blk_cell HM5.out.kb 2).trans rfl,(blk_cell HM5.out.kb 3).trans rfl,(blk_cell HM5.out.wk.blk 0).trans rfl,(blk_cell HM5.out.wk.blk 1).trans rfl⟩
      clear hK K
      refine norm_ (a':=?_) ?_ ?_
      rotate_left
      ·show Act.put _ (some 49) _ = _
       simp only [Act.put,List.setIfInBounds_toArray,List.set_cons_zero,List.set_cons_succ,i64_w,i32_w]
       rfl
      refine one_ (i:=24) (N:=some 50) #[true,true,true,true,true,true,true,true,true,true,true,true,true,true,true,true,true,true,true,true,true,true,true,true,true,false,false,false,false,false,false,false,false,false,false] rfl rfl (by kernel_rfl) (by decide) (fun K hK => ?_)
      refine value_ (w1:=?_) (v:=?_) (by rfl) rfl ?_ ?_
      rotate_left 2
      ·go_simp
       constructor
       ·rfl
       ·rfl
      obtain ⟨wv6,hwv⟩ : ∃ w_,w_ = wv5.alloc (.cells #[.int .i64 b] 3):=⟨_,rfl⟩
      rw [← hwv]
      have HM6:=Aside0.mk (show WoMid w1 wv6 bk bw (.pointer (some ⟨gs,0,none⟩)) (.slice Ah hs.length ch) (.slice Ad ds.length cd) (.slice Ab bs.length cb) (.slice Ah2 (hs.length + 1) ch2) (.slice Ad4 (ds.length + 1) cd4) (.slice Ab bs.length cb) (.slice (some ad) op.length co) (hs ++ [h]) (ds ++ [d]) bs h d op 0 0 by rw [hwv];exact HM5.out.step (below_alloc (Below.refl _ _) _))
      have HL3_6:=Aside0.mk (show wv6.heap[wv5.heap.size]? = some (.cells #[.int .i64 b] 3 (0,0)) by rw [hwv];exact heap_alloc_new _ _)
      have HX6:=Aside0.mk (show wv6.heap[gx]? = some (.cells #[.int .i64 x.f0,.int .i64 x.f1,.slice AT x.f2.length cT] 56 (0,0)) by rw [hwv];exact blk_alloc HX5.out _)
      clear hwv
      refine hK.out _ _ ?_ (fun hHeld => ?_)
      ·exact ⟨(blk_cell HM6.out.kb 1).trans rfl,(blk_cell HM6.out.kb 2).trans rfl,(blk_cell HM6.out.kb 3).trans rfl,(blk_cell HM6.out.wk.blk 0).trans rfl,(blk_cell HM6.out.wk.blk 1).trans rfl⟩
      clear hK K
      refine norm_ (a':=?_) ?_ ?_
      rotate_left
      ·show Act.put _ (some 50) _ = _
       simp only [Act.put,List.setIfInBounds_toArray,List.set_cons_zero,List.set_cons_succ,i64_w,i32_w]
       rfl
      refine one_ (i:=25) (N:=some 51) #[true,true,true,true,true,true,true,true,true,true,true,true,true,true,true,true,true,true,true,true,true,true,true,true,true,true,false,false,false,false,false,false,false,false,false] rfl rfl (by kernel_rfl) (by decide) (fun K hK => ?_)
      refine Kd.R_append_rows_step (Kd.int .i64) (Rr:=fun x_ cs => cs = [Value.int .i64 x_]) (w0:=w1) w1.heap.size (by rfl) (.tmp 48) (.tmp 50) 29 3 (.int .i64 0) 8 rfl Try.underlying29 (by kernel_rfl) rfl (by decide) (by omega) (.slice Ab bs.length cb) bs [b] _ _ _ (fun k_ => some k_ = (.slice Ab bs.length cb : Value).ownBlock ∨ wv6.heap.size ≤ k_) (fun _ => False) rfl rfl ?aO ?aR (fun _ _ h_ => h_) (fun _ hk => hk.elim) ?aF ?aB ?aS ?aL ?_
      case aR => exact C_lit_blk HL3_6.out
      case aF => exact fun k_ hk_ => .inr hk_
      case aO => exact Kd.R_mono HM6.out.rb (fun k_ h_ => .inl h_)
      case aB => exact HM6.out.below
      case aS => exact HM6.out.below.size
      case aL => have:=HN.out;omega
      intro v1 wv7 ho hb hg hat
      obtain ⟨Ab7,cb7,e9⟩:=Kd.R_slice ho
      rw [List.length_append,List.length_singleton] at e9
      subst e9
      have HM7:=Aside0.mk (show WoMid w1 wv7 bk bw (.pointer (some ⟨gs,0,none⟩)) (.slice Ah hs.length ch) (.slice Ad ds.length cd) (.slice Ab bs.length cb) (.slice Ah2 (hs.length + 1) ch2) (.slice Ad4 (ds.length + 1) cd4) (.slice Ab7 (bs.length + 1) cb7) (.slice (some ad) op.length co) (hs ++ [h]) (ds ++ [d]) (bs ++ [b]) h d op 0 0 from HM6.out.pushB ho hb hg hat)
      have HX7:=Aside0.mk (show wv7.heap[gx]? = some (.cells #[.int .i64 x.f0,.int .i64 x.f1,.slice AT x.f2.length cT] 56 (0,0)) by exact blk_grown HX6.out hg (Kd.R_ne HM6.out.rb HX6.out (by decide)))
      clear ho hb hg hat
      refine hK.out _ _ ?_ (fun hHeld => ?_)
      ·exact ⟨(blk_cell HM7.out.kb 1).trans rfl,(blk_cell HM7.out.kb 2).trans rfl,(blk_cell HM7.out.kb 3).trans rfl,(blk_cell HM7.out.wk.blk 0).trans rfl,(blk_cell HM7.out.wk.blk 1).trans rfl⟩
      clear hK K
      refine norm_ (a':=?_) ?_ ?_
      rotate_left
      ·show Act.put _ (some 51) _ = _
       simp only [Act.put,List.setIfInBounds_toArray,List.set_cons_zero,List.set_cons_succ,i64_w,i32_w]
       rfl
      refine pure_ (i:=26) (N:=some 52) (v:=?_) (a':=?_) #[true,true,true,true,true,true,true,true,true,true,true,true,true,true,true,true,true,true,true,true,true,true,true,true,true,true,true,false,false,false,false,false,false,false,false] rfl rfl (by kernel_rfl) (fun _ _ _ h => h) (Or.inl ⟨by rfl,?_⟩) ?_ ?_
      rotate_left
      ·intro w'
       go_simp
       with_reducible rfl
      rotate_left
      ·simp only [Act.put,List.setIfInBounds_toArray,List.set_cons_zero,List.set_cons_succ,i64_w,i32_w]
       rfl
      refine pure_ (i:=27) (N:=some 53) (v:=?_) (a':=?_) #[true,true,true,true,true,true,true,true,true,true,true,true,true,true,true,true,true,true,true,true,true,true,true,true,true,true,true,true,false,false,false,false,false,false,false] rfl rfl (by kernel_rfl) (fun _ _ _ h => h) (Or.inl ⟨by rfl,?_⟩) ?_ ?_
      rotate_left
      ·intro w'
       go_simp
       with_reducible rfl
      rotate_left
      ·simp only [Act.put,List.setIfInBounds_toArray,List.set_cons_zero,List.set_cons_succ,i64_w,i32_w]
       rfl
      refine last_ (i:=28) (N:=none) #[true,true,true,true,true,true,true,true,true,true,true,true,true,true,true,true,true,true,true,true,true,true,true,true,true,true,true,true,true,false,false,false,false,false,false] rfl rfl (by kernel_rfl) (by decide) (fun K hK => ?_)
      have hcs:=((blk_cell HM7.out.kb 1).trans rfl : wv7.cell? ⟨bk,1,none⟩ = some (.slice Ah hs.length ch))
      have hfs:=blk_frozen HM7.out.kb 1
      refine skip_ (w1:=?_) (by rfl) rfl ?_ ?_
      rotate_left
      ·go_simp
       rfl
      obtain ⟨wv8,hwv⟩ : ∃ w_,w_ = wv7.setCell ⟨bk,1,none⟩ (.slice Ah2 (hs.length + 1) ch2):=⟨_,rfl⟩
      rw [← hwv]
      have HM8:=Aside0.mk (show WoMid w1 wv8 bk bw (.pointer (some ⟨gs,0,none⟩)) (.slice Ah2 (hs.length + 1) ch2) (.slice Ad ds.length cd) (.slice Ab bs.length cb) (.slice Ah2 (hs.length + 1) ch2) (.slice Ad4 (ds.length + 1) cd4) (.slice Ab7 (bs.length + 1) cb7) (.slice (some ad) op.length co) (hs ++ [h]) (ds ++ [d]) (bs ++ [b]) h d op 0 0 by rw [hwv];exact HM7.out.set 1 _ rfl)
      have HX8:=Aside0.mk (show wv8.heap[gx]? = some (.cells #[.int .i64 x.f0,.int .i64 x.f1,.slice AT x.f2.length cT] 56 (0,0)) by rw [hwv];exact blk_far HX7.out (p:=⟨bk,1,none⟩) (blk_ty_ne HX7.out HM7.out.kb (by decide)) _)
      clear hwv hcs hfs
      refine hK.out _ _ ?_
      clear hK K
      refine pure_ (i:=29) (N:=some 54) (v:=?_) (a':=?_) #[true,true,true,true,true,true,true,true,true,true,true,true,true,true,true,true,true,true,true,true,true,true,true,true,true,true,true,true,true,true,false,false,false,false,false] rfl rfl (by kernel_rfl) (fun _ _ _ h => h) (Or.inl ⟨by rfl,?_⟩) ?_ ?_
      rotate_left
      ·intro w'
       go_simp
       with_reducible rfl
      rotate_left
      ·simp only [Act.put,List.setIfInBounds_toArray,List.set_cons_zero,List.set_cons_succ,i64_w,i32_w]
       rfl
      refine pure_ (i:=30) (N:=some 55) (v:=?_) (a':=?_) #[true,true,true,true,true,true,true,true,true,true,true,true,true,true,true,true,true,true,true,true,true,true,true,true,true,true,true,true,true,true,true,false,false,false,false] rfl rfl (by kernel_rfl) (fun _ _ _ h => h) (Or.inl ⟨by rfl,?_⟩) ?_ ?_
      rotate_left
      ·intro w'
       go_simp
       with_reducible rfl
      rotate_left
      ·simp only [Act.put,List.setIfInBounds_toArray,List.set_cons_zero,List.set_cons_succ,i64_w,i32_w]
       rfl
      refine last_ (i:=31) (N:=none) #[true,true,true,true,true,true,true,true,true,true,true,true,true,true,true,true,true,true,true,true,true,true,true,true,true,true,true,true,true,true,true,true,false,false,false] rfl rfl (by kernel_rfl) (by decide) (fun K hK => ?_)
      have hcs:=((blk_cell HM8.out.kb 2).trans rfl : wv8.cell? ⟨bk,2,none⟩ = some (.slice Ad ds.length cd))
      have hfs:=blk_frozen HM8.out.kb 2
      refine skip_ (w1:=?_) (by rfl) rfl ?_ ?_
      rotate_left
      ·go_simp
       rfl
      obtain ⟨wv9,hwv⟩ : ∃ w_,w_ = wv8.setCell ⟨bk,2,none⟩ (.slice Ad4 (ds.length + 1) cd4):=⟨_,rfl⟩
      rw [← hwv]
      have HM9:=Aside0.mk (show WoMid w1 wv9 bk bw (.pointer (some ⟨gs,0,none⟩)) (.slice Ah2 (hs.length + 1) ch2) (.slice Ad4 (ds.length + 1) cd4) (.slice Ab bs.length cb) (.slice Ah2 (hs.length + 1) ch2) (.slice Ad4 (ds.length + 1) cd4) (.slice Ab7 (bs.length + 1) cb7) (.slice (some ad) op.length co) (hs ++ [h]) (ds ++ [d]) (bs ++ [b]) h d op 0 0 by rw [hwv];exact HM8.out.set 2 _ rfl)
      have HX9:=Aside0.mk (show wv9.heap[gx]? = some (.cells #[.int .i64 x.f0,.int .i64 x.f1,.slice AT x.f2.length cT] 56 (0,0)) by rw [hwv];exact blk_far HX8.out (p:=⟨bk,2,none⟩) (blk_ty_ne HX8.out HM8.out.kb (by decide)) _)
      clear hwv hcs hfs
      refine hK.out _ _ ?_
      clear hK K
      refine pure_ (i:=32) (N:=some 56) (v:=?_) (a':=?_) #[true,true,true,true,true,true,true,true,true,true,true,true,true,true,true,true,true,true,true,true,true,true,true,true,true,true,true,true,true,true,true,true,true,false,false] rfl rfl (by kernel_rfl) (fun _ _ _ h => h) (Or.inl ⟨by rfl,?_⟩) ?_ ?_
      rotate_left
      ·intro w'
       go_simp
       with_reducible rfl
      rotate_left
      ·simp only [Act.put,List.setIfInBounds_toArray,List.set_cons_zero,List.set_cons_succ,i64_w,i32_w]
       rfl
      refine pure_ (i:=33) (N:=some 57) (v:=?_) (a':=?_) #[true,true,true,true,true,true,true,true,true,true,true,true,true,true,true,true,true,true,true,true,true,true,true,true,true,true,true,true,true,true,true,true,true,true,false] rfl rfl (by kernel_rfl) (fun _ _ _ h => h) (Or.inl ⟨by rfl,?_⟩) ?_ ?_
      rotate_left
      ·intro w'
       go_simp
       with_reducible rfl
      rotate_left
      ·simp only [Act.put,List.setIfInBounds_toArray,List.set_cons_zero,List.set_cons_succ,i64_w,i32_w]
       rfl
      refine last_ (i:=34) (N:=none) #[true,true,true,true,true,true,true,true,true,true,true,true,true,true,true,true,true,true,true,true,true,true,true,true,true,true,true,true,true,true,true,true,true,true,true] rfl rfl (by kernel_rfl) (by decide) (fun K hK => ?_)
      have hcs:=((blk_cell HM9.out.kb 3).trans rfl : wv9.cell? ⟨bk,3,none⟩ = some (.slice Ab bs.length cb))
      have hfs:=blk_frozen HM9.out.kb 3
      refine skip_ (w1:=?_) (by rfl) rfl ?_ ?_
      rotate_left
      ·go_simp
       rfl
      obtain ⟨wv10,hwv⟩ : ∃ w_,w_ = wv9.setCell ⟨bk,3,none⟩ (.slice Ab7 (bs.length + 1) cb7):=⟨_,rfl⟩
      rw [← hwv]
      have HM10:=Aside0.mk (show WoMid w1 wv10 bk bw (.pointer (some ⟨gs,0,none⟩)) (.slice Ah2 (hs.length + 1) ch2) (.slice Ad4 (ds.length + 1) cd4) (.slice Ab7 (bs.length + 1) cb7) (.slice Ah2 (hs.length + 1) ch2) (.slice Ad4 (ds.length + 1) cd4) (.slice Ab7 (bs.length + 1) cb7) (.slice (some ad) op.length co) (hs ++ [h]) (ds ++ [d]) (bs ++ [b]) h d op 0 0 by rw [hwv];exact HM9.out.set 3 _ rfl)
      have HX10:=Aside0.mk (show wv10.heap[gx]? = some (.cells #[.int .i64 x.f0,.int .i64 x.f1,.slice AT x.f2.length cT] 56 (0,0)) by rw [hwv];exact blk_far HX9.out (p:=⟨bk,3,none⟩) (blk_ty_ne HX9.out HM9.out.kb (by decide)) _)
      clear hwv hcs hfs
      refine hK.out _ _ ?_
      clear hK K
      refine done_ (by kernel_rfl) ?_
      go_wp2
      go_meet
      exact ⟨_,_,_,_,rfl,HX10,HM10⟩
     ·skip
      refine value_ (w1:=?_) (v:=?_) (by rfl) rfl ?_ ?_
      rotate_left 2
      ·go_simp
       constructor
       ·rfl
       ·rfl
      obtain ⟨wv2,hwv⟩ : ∃ w_,w_ = wv1.alloc (.cells #[.bool d] 4):=⟨_,rfl⟩
      rw [← hwv]
      have HM2:=Aside0.mk (show WoMid w1 wv2 bk bw (.pointer (some ⟨gs,0,none⟩)) (.slice Ah hs.length ch) (.slice Ad ds.length cd) (.slice Ab bs.length cb) (.slice Ah hs.length ch) (.slice Ad ds.length cd) (.slice Ab bs.length cb) (.slice (some ad) op.length co) hs ds bs h d op 0 0 by rw [hwv];exact HM1.out.step (below_alloc (Below.refl _ _) _))
      have HL2_2:=Aside0.mk (show wv2.heap[wv1.heap.size]? = some (.cells #[.bool d] 4 (0,0)) by rw [hwv];exact heap_alloc_new _ _)
      have HL1_2:=Aside0.mk (show wv2.heap[w8.heap.size]? = some (.cells #[.int .i64 h] 3 (0,0)) by rw [hwv];exact blk_alloc HL1_1.out _)
      have HX2:=Aside0.mk (show wv2.heap[gx]? = some (.cells #[.int .i64 x.f0,.int .i64 x.f1,.slice AT x.f2.length cT] 56 (0,0)) by rw [hwv];exact blk_alloc HX1.out _)
      clear hwv
      refine hK.out _ _ ?_ (fun hHeld => ?_)
      ·exact ⟨(blk_cell HM2.out.kb 1).trans rfl,(blk_cell HM2.out.kb 2).trans rfl,(blk_cell HM2.out.kb 3).trans rfl,(blk_cell HM2.out.wk.blk 0).trans rfl,(blk_cell HM2.out.wk.blk 1).trans rfl⟩
      clear hK K
      refine norm_ (a':=?_) ?_ ?_
      rotate_left
      ·show Act.put _ (some 43) _ = _
       simp only [Act.put,List.setIfInBounds_toArray,List.set_cons_zero,List.set_cons_succ,i64_w,i32_w]
       rfl
      refine one_ (i:=10) (N:=some 36) #[true,true,true,true,true,true,true,true,true,true,true,true,true,true,true,true,true,true,false,true,true,true,true,false,false,false,false,false,false,false,false,false,false,false,false] rfl rfl (by kernel_rfl) (by decide) (fun K hK => ?_)
      refine Kd.R_append_rows_step (Kd.int .i64) (Rr:=fun x_ cs => cs = [Value.int .i64 x_]) (w0:=w1) w1.heap.size (by rfl) (.tmp 32) (.tmp 35) 29 3 (.int .i64 0) 8 rfl Try.underlying29 (by kernel_rfl) rfl (by decide) (by omega) (.slice Ah hs.length ch) hs [h] _ _ _ (fun k_ => some k_ = (.slice Ah hs.length ch : Value).ownBlock ∨ wv2.heap.size ≤ k_) (fun _ => False) rfl rfl ?aO ?aR (fun _ _ h_ => h_) (fun _ hk => hk.elim) ?aF ?aB ?aS ?aL ?_
      case aR => exact C_lit_blk HL1_2.out
      case aF => exact fun k_ hk_ => .inr hk_
      case aO => exact Kd.R_mono HM2.out.rh (fun k_ h_ => .inl h_)
      case aB => exact HM2.out.below
      case aS => exact HM2.out.below.size
      case aL => have:=HN.out;omega
      intro v1 wv3 ho hb hg hat
      obtain ⟨Ah3,ch3,e9⟩:=Kd.R_slice ho
      rw [List.length_append,List.length_singleton] at e9
      subst e9
      have HM3:=Aside0.mk (show WoMid w1 wv3 bk bw (.pointer (some ⟨gs,0,none⟩)) (.slice Ah hs.length ch) (.slice Ad ds.length cd) (.slice Ab bs.length cb) (.slice Ah3 (hs.length + 1) ch3) (.slice Ad ds.length cd) (.slice Ab bs.length cb) (.slice (some ad) op.length co) (hs ++ [h]) ds bs h d op 0 0 from HM2.out.pushH ho hb hg hat)
      have HL2_3:=Aside0.mk (show wv3.heap[wv1.heap.size]? = some (.cells #[.bool d] 4 (0,0)) by exact blk_grown HL2_2.out hg (Kd.R_ne HM2.out.rh HL2_2.out (by decide)))
      have HX3:=Aside0.mk (show wv3.heap[gx]? = some (.cells #[.int .i64 x.f0,.int .i64 x.f1,.slice AT x.f2.length cT] 56 (0,0)) by exact blk_grown HX2.out hg (Kd.R_ne HM2.out.rh HX2.out (by decide)))
      clear ho hb hg hat
      refine hK.out _ _ ?_ (fun hHeld => ?_)
      ·exact ⟨(blk_cell HM3.out.kb 1).trans rfl,(blk_cell HM3.out.kb 2).trans rfl,(blk_cell HM3.out.kb 3).trans rfl,(blk_cell HM3.out.wk.blk 0).trans rfl,(blk_cell HM3.out.wk.blk 1).trans rfl⟩
      clear hK K
      refine norm_ (a':=?_) ?_ ?_
      rotate_left
      ·show Act.put _ (some 36) _ = _
       simp only [Act.put,List.setIfInBounds_toArray,List.set_cons_zero,List.set_cons_succ,i64_w,i32_w]
       rfl
      refine one_ (i:=18) (N:=some 44) #[true,true,true,true,true,true,true,true,true,true,true,true,true,true,true,true,true,true,true,true,true,true,true,false,false,false,false,false,false,false,false,false,false,false,false] rfl rfl (by kernel_rfl) (by decide) (fun K hK => ?_)
      refine Kd.R_append_rows_step Kd.bool (Rr:=fun x_ cs => cs = [Value.bool x_]) (w0:=w1) w1.heap.size (by rfl) (.tmp 40) (.tmp 43) 46 4 (.bool false) 1 rfl Try.underlying46 (by kernel_rfl) rfl (by decide) (by omega) (.slice Ad ds.length cd) ds [d] _ _ _ (fun k_ => some k_ = (.slice Ad ds.length cd : Value).ownBlock ∨ wv3.heap.size ≤ k_) (fun _ => False) rfl rfl ?aO ?aR (fun _ _ h_ => h_) (fun _ hk => hk.elim) ?aF ?aB ?aS ?aL ?_
      case aR => exact C_lit_blkB HL2_3.out
      case aF => exact fun k_ hk_ => .inr hk_
      case aO => exact Kd.R_mono HM3.out.rd (fun k_ h_ => .inl h_)
      case aB => exact HM3.out.below
      case aS => exact HM3.out.below.size
      case aL => have:=HN.out;omega
      intro v1 wv4 ho hb hg hat
      obtain ⟨Ad4,cd4,e9⟩:=Kd.R_slice ho
      rw [List.length_append,List.length_singleton] at e9
      subst e9
      have HM4:=Aside0.mk (show WoMid w1 wv4 bk bw (.pointer (some ⟨gs,0,none⟩)) (.slice Ah hs.length ch) (.slice Ad ds.length cd) (.slice Ab bs.length cb) (.slice Ah3 (hs.length + 1) ch3) (.slice Ad4 (ds.length + 1) cd4) (.slice Ab bs.length cb) (.slice (some ad) op.length co) (hs ++ [h]) (ds ++ [d]) bs h d op 0 0 from HM3.out.pushD ho hb hg)
      have HX4:=Aside0.mk (show wv4.heap[gx]? = some (.cells #[.int .i64 x.f0,.int .i64 x.f1,.slice AT x.f2.length cT] 56 (0,0)) by exact blk_grown HX3.out hg (Kd.R_ne HM3.out.rd HX3.out (by decide)))
      clear ho hb hg hat
      refine hK.out _ _ ?_ (fun hHeld => ?_)
      ·exact ⟨(blk_cell HM4.out.kb 1).trans rfl,(blk_cell HM4.out.kb 2).trans rfl,(blk_cell HM4.out.kb 3).trans rfl,(blk_cell HM4.out.wk.blk 0).trans rfl,(blk_cell HM4.out.wk.blk 1).trans rfl⟩
      clear hK K
      refine norm_ (a':=?_) ?_ ?_
      rotate_left
      ·show Act.put _ (some 44) _ = _
       simp only [Act.put,List.setIfInBounds_toArray,List.set_cons_zero,List.set_cons_succ,i64_w,i32_w]
       rfl
      refine one_ (i:=23) (N:=some 49) #[true,true,true,true,true,true,true,true,true,true,true,true,true,true,true,true,true,true,true,true,true,true,true,true,false,false,false,false,false,false,false,false,false,false,false] rfl rfl (by kernel_rfl) (by decide) (fun K hK => ?_)
      refine goes_ Try.func91 (by kernel_rfl) rfl #[.pointer (some ⟨bw,0,none⟩)] (by rfl) rfl rfl (by simp only [List.map_toArray,List.map_cons,List.map_nil];rfl) ?_
      refine (WkAt.base AB.out HM4.out.wk).mono ?_
      rintro e wv5 ⟨rfl,⟨m_,hm⟩⟩
      refine ⟨_,rfl,?_⟩
      have HM5:=Aside0.mk (show WoMid w1 wv5 bk bw (.pointer (some ⟨gs,0,none⟩)) (.slice Ah hs.length ch) (.slice Ad ds.length cd) (.slice Ab bs.length cb) (.slice Ah3 (hs.length + 1) ch3) (.slice Ad4 (ds.length + 1) cd4) (.slice Ab bs.length cb) (.slice (some ad) op.length co) (hs ++ [h]) (ds ++ [d]) bs h d op 0 0 by rw [hm];exact HM4.out.step (pw_below_drewN (Below.refl _ _) m_))
      have HX5:=Aside0.mk (show wv5.heap[gx]? = some (.cells #[.int .i64 x.f0,.int .i64 x.f1,.slice AT x.f2.length cT] 56 (0,0)) by rw [hm];exact blk_drewN HX4.out m_)
      clear hm
      refine hK.out _ _ ?_ (fun hHeld => ?_)
      ·exact ⟨(blk_cell HM5.out.kb 1).trans rfl,(blk_cell HM5.out.kb 2).trans rfl,(blk_cell HM5.out.kb 3).trans rfl,(blk_cell HM5.out.wk.blk 0).trans rfl,(blk_cell HM5.out.wk.blk 1).trans rfl⟩
      clear hK K
      refine norm_ (a':=?_) ?_ ?_
      rotate_left
      ·show Act.put _ (some 49) _ = _
       simp only [Act.put,List.setIfInBounds_toArray,List.set_cons_zero,List.set_cons_succ,i64_w,i32_w]
       rfl
      refine one_ (i:=24) (N:=some 50) #[true,true,true,true,true,true,true,true,true,true,true,true,true,true,true,true,true,true,true,true,true,true,true,true,true,false,false,false,false,false,false,false,false,false,false] rfl rfl (by kernel_rfl) (by decide) (fun K hK => ?_)
      refine value_ (w1:=?_) (v:=?_) (by rfl) rfl ?_ ?_
      rotate_left 2
      ·go_simp
       constructor
       ·rfl
       ·rfl
      obtain ⟨wv6,hwv⟩ : ∃ w_,w_ = wv5.alloc (.cells #[.int .i64 b] 3):=⟨_,rfl⟩
      rw [← hwv]
      have HM6:=Aside0.mk (show WoMid w1 wv6 bk bw (.pointer (some ⟨gs,0,none⟩)) (.slice Ah hs.length ch) (.slice Ad ds.length cd) (.slice Ab bs.length cb) (.slice Ah3 (hs.length + 1) ch3) (.slice Ad4 (ds.length + 1) cd4) (.slice Ab bs.length cb) (.slice (some ad) op.length co) (hs ++ [h]) (ds ++ [d]) bs h d op 0 0 by rw [hwv];exact HM5.out.step (below_alloc (Below.refl _ _) _))
      have HL3_6:=Aside0.mk (show wv6.heap[wv5.heap.size]? = some (.cells #[.int .i64 b] 3 (0,0)) by rw [hwv];exact heap_alloc_new _ _)
      have HX6:=Aside0.mk (show wv6.heap[gx]? = some (.cells #[.int .i64 x.f0,.int .i64 x.f1,.slice AT x.f2.length cT] 56 (0,0)) by rw [hwv];exact blk_alloc HX5.out _)
      clear hwv
      refine hK.out _ _ ?_ (fun hHeld => ?_)
      ·exact ⟨(blk_cell HM6.out.kb 1).trans rfl,(blk_cell HM6.out.kb 2).trans rfl,(blk_cell HM6.out.kb 3).trans rfl,(blk_cell HM6.out.wk.blk 0).trans rfl,(blk_cell HM6.out.wk.blk 1).trans rfl⟩
      clear hK K
      refine norm_ (a':=?_) ?_ ?_
      rotate_left
      ·show Act.put _ (some 50) _ = _
       simp only [Act.put,List.setIfInBounds_toArray,List.set_cons_zero,List.set_cons_succ,i64_w,i32_w]
       rfl
      refine one_ (i:=25) (N:=some 51) #[true,true,true,true,true,true,true,true,true,true,true,true,true,true,true,true,true,true,true,true,true,true,true,true,true,true,false,false,false,false,false,false,false,false,false] rfl rfl (by kernel_rfl) (by decide) (fun K hK => ?_)
      refine Kd.R_append_rows_step (Kd.int .i64) (Rr:=fun x_ cs => cs = [Value.int .i64 x_]) (w0:=w1) w1.heap.size (by rfl) (.tmp 48) (.tmp 50) 29 3 (.int .i64 0) 8 rfl Try.underlying29 (by kernel_rfl) rfl (by decide) (by omega) (.slice Ab bs.length cb) bs [b] _ _ _ (fun k_ => some k_ = (.slice Ab bs.length cb : Value).ownBlock ∨ wv6.heap.size ≤ k_) (fun _ => False) rfl rfl ?aO ?aR (fun _ _ h_ => h_) (fun _ hk => hk.elim) ?aF ?aB ?aS ?aL ?_
      case aR => exact C_lit_blk HL3_6.out
      case aF => exact fun k_ hk_ => .inr hk_
      case aO => exact Kd.R_mono HM6.out.rb (fun k_ h_ => .inl h_)
      case aB => exact HM6.out.below
      case aS => exact HM6.out.below.size
      case aL => have:=HN.out;omega
      intro v1 wv7 ho hb hg hat
      obtain ⟨Ab7,cb7,e9⟩:=Kd.R_slice ho
      rw [List.length_append,List.length_singleton] at e9
      subst e9
      have HM7:=Aside0.mk (show WoMid w1 wv7 bk bw (.pointer (some ⟨gs,0,none⟩)) (.slice Ah hs.length ch) (.slice Ad ds.length cd) (.slice Ab bs.length cb) (.slice Ah3 (hs.length + 1) ch3) (.slice Ad4 (ds.length + 1) cd4) (.slice Ab7 (bs.length + 1) cb7) (.slice (some ad) op.length co) (hs ++ [h]) (ds ++ [d]) (bs ++ [b]) h d op 0 0 from HM6.out.pushB ho hb hg hat)
      have HX7:=Aside0.mk (show wv7.heap[gx]? = some (.cells #[.int .i64 x.f0,.int .i64 x.f1,.slice AT x.f2.length cT] 56 (0,0)) by exact blk_grown HX6.out hg (Kd.R_ne HM6.out.rb HX6.out (by decide)))
      clear ho hb hg hat
      refine hK.out _ _ ?_ (fun hHeld => ?_)
      ·exact ⟨(blk_cell HM7.out.kb 1).trans rfl,(blk_cell HM7.out.kb 2).trans rfl,(blk_cell HM7.out.kb 3).trans rfl,(blk_cell HM7.out.wk.blk 0).trans rfl,(blk_cell HM7.out.wk.blk 1).trans rfl⟩
      clear hK K
      refine norm_ (a':=?_) ?_ ?_
      rotate_left
      ·show Act.put _ (some 51) _ = _
       simp only [Act.put,List.setIfInBounds_toArray,List.set_cons_zero,List.set_cons_succ,i64_w,i32_w]
       rfl
      refine pure_ (i:=26) (N:=some 52) (v:=?_) (a':=?_) #[true,true,true,true,true,true,true,true,true,true,true,true,true,true,true,true,true,true,true,true,true,true,true,true,true,true,true,false,false,false,false,false,false,false,false] rfl rfl (by kernel_rfl) (fun _ _ _ h => h) (Or.inl ⟨by rfl,?_⟩) ?_ ?_
      rotate_left
      ·intro w'
       go_simp
       with_reducible rfl
      rotate_left
      ·simp only [Act.put,List.setIfInBounds_toArray,List.set_cons_zero,List.set_cons_succ,i64_w,i32_w]
       rfl
      refine pure_ (i:=27) (N:=some 53) (v:=?_) (a':=?_) #[true,true,true,true,true,true,true,true,true,true,true,true,true,true,true,true,true,true,true,true,true,true,true,true,true,true,true,true,false,false,false,false,false,false,false] rfl rfl (by kernel_rfl) (fun _ _ _ h => h) (Or.inl ⟨by rfl,?_⟩) ?_ ?_
      rotate_left
      ·intro w'
       go_simp
       with_reducible rfl
      rotate_left
      ·simp only [Act.put,List.setIfInBounds_toArray,List.set_cons_zero,List.set_cons_succ,i64_w,i32_w]
       rfl
      refine last_ (i:=28) (N:=none) #[true,true,true,true,true,true,true,true,true,true,true,true,true,true,true,true,true,true,true,true,true,true,true,true,true,true,true,true,true,false,false,false,false,false,false] rfl rfl (by kernel_rfl) (by decide) (fun K hK => ?_)
      have hcs:=((blk_cell HM7.out.kb 1).trans rfl : wv7.cell? ⟨bk,1,none⟩ = some (.slice Ah hs.length ch))
      have hfs:=blk_frozen HM7.out.kb 1
      refine skip_ (w1:=?_) (by rfl) rfl ?_ ?_
      rotate_left
      ·go_simp
       rfl
      obtain ⟨wv8,hwv⟩ : ∃ w_,w_ = wv7.setCell ⟨bk,1,none⟩ (.slice Ah3 (hs.length + 1) ch3):=⟨_,rfl⟩
      rw [← hwv]
      have HM8:=Aside0.mk (show WoMid w1 wv8 bk bw (.pointer (some ⟨gs,0,none⟩)) (.slice Ah3 (hs.length + 1) ch3) (.slice Ad ds.length cd) (.slice Ab bs.length cb) (.slice Ah3 (hs.length + 1) ch3) (.slice Ad4 (ds.length + 1) cd4) (.slice Ab7 (bs.length + 1) cb7) (.slice (some ad) op.length co) (hs ++ [h]) (ds ++ [d]) (bs ++ [b]) h d op 0 0 by rw [hwv];exact HM7.out.set 1 _ rfl)
      have HX8:=Aside0.mk (show wv8.heap[gx]? = some (.cells #[.int .i64 x.f0,.int .i64 x.f1,.slice AT x.f2.length cT] 56 (0,0)) by rw [hwv];exact blk_far HX7.out (p:=⟨bk,1,none⟩) (blk_ty_ne HX7.out HM7.out.kb (by decide)) _)
      clear hwv hcs hfs
      refine hK.out _ _ ?_
      clear hK K
      refine pure_ (i:=29) (N:=some 54) (v:=?_) (a':=?_) #[true,true,true,true,true,true,true,true,true,true,true,true,true,true,true,true,true,true,true,true,true,true,true,true,true,true,true,true,true,true,false,false,false,false,false] rfl rfl (by kernel_rfl) (fun _ _ _ h => h) (Or.inl ⟨by rfl,?_⟩) ?_ ?_
      rotate_left
      ·intro w'
       go_simp
       with_reducible rfl
      rotate_left
      ·simp only [Act.put,List.setIfInBounds_toArray,List.set_cons_zero,List.set_cons_succ,i64_w,i32_w]
       rfl
      refine pure_ (i:=30) (N:=some 55) (v:=?_) (a':=?_) #[true,true,true,true,true,true,true,true,true,true,true,true,true,true,true,true,true,true,true,true,true,true,true,true,true,true,true,true,true,true,true,false,false,false,false] rfl rfl (by kernel_rfl) (fun _ _ _ h => h) (Or.inl ⟨by rfl,?_⟩) ?_ ?_
      rotate_left
      ·intro w'
       go_simp
       with_reducible rfl
      rotate_left
      ·simp only [Act.put,List.setIfInBounds_toArray,List.set_cons_zero,List.set_cons_succ,i64_w,i32_w]
       rfl
      refine last_ (i:=31) (N:=none) #[true,true,true,true,true,true,true,true,true,true,true,true,true,true,true,true,true,true,true,true,true,true,true,true,true,true,true,true,true,true,true,true,false,false,false] rfl rfl (by kernel_rfl) (by decide) (fun K hK => ?_)
      have hcs:=((blk_cell HM8.out.kb 2).trans rfl : wv8.cell? ⟨bk,2,none⟩ = some (.slice Ad ds.length cd))
      have hfs:=blk_frozen HM8.out.kb 2
      refine skip_ (w1:=?_) (by rfl) rfl ?_ ?_
      rotate_left
      ·go_simp
       rfl
      obtain ⟨wv9,hwv⟩ : ∃ w_,w_ = wv8.setCell ⟨bk,2,none⟩ (.slice Ad4 (ds.length + 1) cd4):=⟨_,rfl⟩
      rw [← hwv]
      have HM9:=Aside0.mk (show WoMid w1 wv9 bk bw (.pointer (some ⟨gs,0,none⟩)) (.slice Ah3 (hs.length + 1) ch3) (.slice Ad4 (ds.length + 1) cd4) (.slice Ab bs.length cb) (.slice Ah3 (hs.length + 1) ch3) (.slice Ad4 (ds.length + 1) cd4) (.slice Ab7 (bs.length + 1) cb7) (.slice (some ad) op.length co) (hs ++ [h]) (ds ++ [d]) (bs ++ [b]) h d op 0 0 by rw [hwv];exact HM8.out.set 2 _ rfl)
      have HX9:=Aside0.mk (show wv9.heap[gx]? = some (.cells #[.int .i64 x.f0,.int .i64 x.f1,.slice AT x.f2.length cT] 56 (0,0)) by rw [hwv];exact blk_far HX8.out (p:=⟨bk,2,none⟩) (blk_ty_ne HX8.out HM8.out.kb (by decide)) _)
      clear hwv hcs hfs
      refine hK.out _ _ ?_
      clear hK K
      refine pure_ (i:=32) (N:=some 56) (v:=?_) (a':=?_) #[true,true,true,true,true,true,true,true,true,true,true,true,true,true,true,true,true,true,true,true,true,true,true,true,true,true,true,true,true,true,true,true,true,false,false] rfl rfl (by kernel_rfl) (fun _ _ _ h => h) (Or.inl ⟨by rfl,?_⟩) ?_ ?_
      rotate_left
      ·intro w'
       go_simp
       with_reducible rfl
      rotate_left
      ·simp only [Act.put,List.setIfInBounds_toArray,List.set_cons_zero,List.set_cons_succ,i64_w,i32_w]
       rfl
      refine pure_ (i:=33) (N:=some 57) (v:=?_) (a':=?_) #[true,true,true,true,true,true,true,true,true,true,true,true,true,true,true,true,true,true,true,true,true,true,true,true,true,true,true,true,true,true,true,true,true,true,false] rfl rfl (by kernel_rfl) (fun _ _ _ h => h) (Or.inl ⟨by rfl,?_⟩) ?_ ?_
      rotate_left
      ·intro w'
       go_simp
       with_reducible rfl
      rotate_left
      ·simp only [Act.put,List.setIfInBounds_toArray,List.set_cons_zero,List.set_cons_succ,i64_w,i32_w]
       rfl
      refine last_ (i:=34) (N:=none) #[true,true,true,true,true,true,true,true,true,true,true,true,true,true,true,true,true,true,true,true,true,true,true,true,true,true,true,true,true,true,true,true,true,true,true] rfl rfl (by kernel_rfl) (by decide) (fun K hK => ?_)
      have hcs:=((blk_cell HM9.out.kb 3).trans rfl : wv9.cell? ⟨bk,3,none⟩ = some (.slice Ab bs.length cb))
      have hfs:=blk_frozen HM9.out.kb 3
      refine skip_ (w1:=?_) (by rfl) rfl ?_ ?_
      rotate_left
      ·go_simp
       rfl
      obtain ⟨wv10,hwv⟩ : ∃ w_,w_ = wv9.setCell ⟨bk,3,none⟩ (.slice Ab7 (bs.length + 1) cb7):=⟨_,rfl⟩
      rw [← hwv]
      have HM10:=Aside0.mk (show WoMid w1 wv10 bk bw (.pointer (some ⟨gs,0,none⟩)) (.slice Ah3 (hs.length + 1) ch3) (.slice Ad4 (ds.length + 1) cd4) (.slice Ab7 (bs.length + 1) cb7) (.slice Ah3 (hs.length + 1) ch3) (.slice Ad4 (ds.length + 1) cd4) (.slice Ab7 (bs.length + 1) cb7) (.slice (some ad) op.length co) (hs ++ [h]) (ds ++ [d]) (bs ++ [b]) h d op 0 0 by rw [hwv];exact HM9.out.set 3 _ rfl)
      have HX10:=Aside0.mk (show wv10.heap[gx]? = some (.cells #[.int .i64 x.f0,.int .i64 x.f1,.slice AT x.f2.length cT] 56 (0,0)) by rw [hwv];exact blk_far HX9.out (p:=⟨bk,3,none⟩) (blk_ty_ne HX9.out HM9.out.kb (by decide)) _)
      clear hwv hcs hfs
      refine hK.out _ _ ?_
      clear hK K
      refine done_ (by kernel_rfl) ?_
      go_wp2
      go_meet
      exact ⟨_,_,_,_,rfl,HX10,HM10⟩
    ·skip
     refine value_ (w1:=?_) (v:=?_) (by rfl) rfl ?_ ?_
     rotate_left 2
     ·go_simp
      constructor
      ·rfl
      ·rfl
     obtain ⟨wv1,hwv⟩ : ∃ w_,w_ = w8.alloc (.cells #[.bool d] 4):=⟨_,rfl⟩
     rw [← hwv]
     have HM1:=Aside0.mk (show WoMid w1 wv1 bk bw (.pointer (some ⟨gs,0,none⟩)) (.slice Ah hs.length ch) (.slice Ad ds.length cd) (.slice Ab bs.length cb) (.slice Ah hs.length ch) (.slice Ad ds.length cd) (.slice Ab bs.length cb) (.slice (some ad) op.length co) hs ds bs h d op 0 0 by rw [hwv];exact HM0.out.step (below_alloc (Below.refl _ _) _))
     have HL2_1:=Aside0.mk (show wv1.heap[w8.heap.size]? = some (.cells #[.bool d] 4 (0,0)) by rw [hwv];exact heap_alloc_new _ _)
     have HX1:=Aside0.mk (show wv1.heap[gx]? = some (.cells #[.int .i64 x.f0,.int .i64 x.f1,.slice AT x.f2.length cT] 56 (0,0)) by rw [hwv];exact blk_alloc HX0.out _)
     clear hwv
     refine hK.out _ _ ?_ (fun hHeld => ?_)
     ·exact ⟨(blk_cell HM1.out.kb 1).trans rfl,(blk_cell HM1.out.kb 2).trans rfl,(blk_cell HM1.out.kb 3).trans rfl,(blk_cell HM1.out.wk.blk 0).trans rfl,(blk_cell HM1.out.wk.blk 1).trans rfl⟩
     clear hK K
     refine norm_ (a':=?_) ?_ ?_
     rotate_left
     ·show Act.put _ (some 43) _ = _
      simp only [Act.put,List.setIfInBounds_toArray,List.set_cons_zero,List.set_cons_succ,i64_w,i32_w]
      rfl
     refine one_ (i:=9) (N:=some 35) #[true,true,true,true,true,true,true,true,true,true,false,true,true,true,true,true,true,true,false,true,true,true,true,false,false,false,false,false,false,false,false,false,false,false,false] rfl rfl (by kernel_rfl) (by decide) (fun K hK => ?_)
     refine value_ (w1:=?_) (v:=?_) (by rfl) rfl ?_ ?_
     rotate_left 2
     ·go_simp
      constructor
      ·rfl
      ·rfl
     obtain ⟨wv2,hwv⟩ : ∃ w_,w_ = wv1.alloc (.cells #[.int .i64 h] 3):=⟨_,rfl⟩
     rw [← hwv]
     have HM2:=Aside0.mk (show WoMid w1 wv2 bk bw (.pointer (some ⟨gs,0,none⟩)) (.slice Ah hs.length ch) (.slice Ad ds.length cd) (.slice Ab bs.length cb) (.slice Ah hs.length ch) (.slice Ad ds.length cd) (.slice Ab bs.length cb) (.slice (some ad) op.length co) hs ds bs h d op 0 0 by rw [hwv];exact HM1.out.step (below_alloc (Below.refl _ _) _))
     have HL1_2:=Aside0.mk (show wv2.heap[wv1.heap.size]? = some (.cells #[.int .i64 h] 3 (0,0)) by rw [hwv];exact heap_alloc_new _ _)
     have HL2_2:=Aside0.mk (show wv2.heap[w8.heap.size]? = some (.cells #[.bool d] 4 (0,0)) by rw [hwv];exact blk_alloc HL2_1.out _)
     have HX2:=Aside0.mk (show wv2.heap[gx]? = some (.cells #[.int .i64 x.f0,.int .i64 x.f1,.slice AT x.f2.length cT] 56 (0,0)) by rw [hwv];exact blk_alloc HX1.out _)
     clear hwv
     refine hK.out _ _ ?_ (fun hHeld => ?_)
     ·exact ⟨(blk_cell HM2.out.kb 1).trans rfl,(blk_cell HM2.out.kb 2).trans rfl,(blk_cell HM2.out.kb 3).trans rfl,(blk_cell HM2.out.wk.blk 0).trans rfl,(blk_cell HM2.out.wk.blk 1).trans rfl⟩
     clear hK K
     refine norm_ (a':=?_) ?_ ?_
     rotate_left
     ·show Act.put _ (some 35) _ = _
      simp only [Act.put,List.setIfInBounds_toArray,List.set_cons_zero,List.set_cons_succ,i64_w,i32_w]
      rfl
     refine one_ (i:=10) (N:=some 36) #[true,true,true,true,true,true,true,true,true,true,true,true,true,true,true,true,true,true,false,true,true,true,true,false,false,false,false,false,false,false,false,false,false,false,false] rfl rfl (by kernel_rfl) (by decide) (fun K hK => ?_)
     refine Kd.R_append_rows_step (Kd.int .i64) (Rr:=fun x_ cs => cs = [Value.int .i64 x_]) (w0:=w1) w1.heap.size (by rfl) (.tmp 32) (.tmp 35) 29 3 (.int .i64 0) 8 rfl Try.underlying29 (by kernel_rfl) rfl (by decide) (by omega) (.slice Ah hs.length ch) hs [h] _ _ _ (fun k_ => some k_ = (.slice Ah hs.length ch : Value).ownBlock ∨ wv2.heap.size ≤ k_) (fun _ => False) rfl rfl ?aO ?aR (fun _ _ h_ => h_) (fun _ hk => hk.elim) ?aF ?aB ?aS ?aL ?_
     case aR => exact C_lit_blk HL1_2.out
     case aF => exact fun k_ hk_ => .inr hk_
     case aO => exact Kd.R_mono HM2.out.rh (fun k_ h_ => .inl h_)
     case aB => exact HM2.out.below
     case aS => exact HM2.out.below.size
     case aL => have:=HN.out;omega
     intro v1 wv3 ho hb hg hat
     obtain ⟨Ah3,ch3,e9⟩:=Kd.R_slice ho
     rw [List.length_append,List.length_singleton] at e9
     subst e9
     have HM3:=Aside0.mk (show WoMid w1 wv3 bk bw (.pointer (some ⟨gs,0,none⟩)) (.slice Ah hs.length ch) (.slice Ad ds.length cd) (.slice Ab bs.length cb) (.slice Ah3 (hs.length + 1) ch3) (.slice Ad ds.length cd) (.slice Ab bs.length cb) (.slice (some ad) op.length co) (hs ++ [h]) ds bs h d op 0 0 from HM2.out.pushH ho hb hg hat)
     have HL2_3:=Aside0.mk (show wv3.heap[w8.heap.size]? = some (.cells #[.bool d] 4 (0,0)) by exact blk_grown HL2_2.out hg (Kd.R_ne HM2.out.rh HL2_2.out (by decide)))
     have HX3:=Aside0.mk (show wv3.heap[gx]? = some (.cells #[.int .i64 x.f0,.int .i64 x.f1,.slice AT x.f2.length cT] 56 (0,0)) by exact blk_grown HX2.out hg (Kd.R_ne HM2.out.rh HX2.out (by decide)))
     clear ho hb hg hat
     refine hK.out _ _ ?_ (fun hHeld => ?_)
     ·exact ⟨(blk_cell HM3.out.kb 1).trans rfl,(blk_cell HM3.out.kb 2).trans rfl,(blk_cell HM3.out.kb 3).trans rfl,(blk_cell HM3.out.wk.blk 0).trans rfl,(blk_cell HM3.out.wk.blk 1).trans rfl⟩
     clear hK K
     refine norm_ (a':=?_) ?_ ?_
     rotate_left
     ·show Act.put _ (some 36) _ = _
      simp only [Act.put,List.setIfInBounds_toArray,List.set_cons_zero,List.set_cons_succ,i64_w,i32_w]
      rfl
     refine one_ (i:=18) (N:=some 44) #[true,true,true,true,true,true,true,true,true,true,true,true,true,true,true,true,true,true,true,true,true,true,true,false,false,false,false,false,false,false,false,false,false,false,false] rfl rfl (by kernel_rfl) (by decide) (fun K hK => ?_)
     refine Kd.R_append_rows_step Kd.bool (Rr:=fun x_ cs => cs = [Value.bool x_]) (w0:=w1) w1.heap.size (by rfl) (.tmp 40) (.tmp 43) 46 4 (.bool false) 1 rfl Try.underlying46 (by kernel_rfl) rfl (by decide) (by omega) (.slice Ad ds.length cd) ds [d] _ _ _ (fun k_ => some k_ = (.slice Ad ds.length cd : Value).ownBlock ∨ wv3.heap.size ≤ k_) (fun _ => False) rfl rfl ?aO ?aR (fun _ _ h_ => h_) (fun _ hk => hk.elim) ?aF ?aB ?aS ?aL ?_
     case aR => exact C_lit_blkB HL2_3.out
     case aF => exact fun k_ hk_ => .inr hk_
     case aO => exact Kd.R_mono HM3.out.rd (fun k_ h_ => .inl h_)
     case aB => exact HM3.out.below
     case aS => exact HM3.out.below.size
     case aL => have:=HN.out;omega
     intro v1 wv4 ho hb hg hat
     obtain ⟨Ad4,cd4,e9⟩:=Kd.R_slice ho
     rw [List.length_append,List.length_singleton] at e9
     subst e9
     have HM4:=Aside0.mk (show WoMid w1 wv4 bk bw (.pointer (some ⟨gs,0,none⟩)) (.slice Ah hs.length ch) (.slice Ad ds.length cd) (.slice Ab bs.length cb) (.slice Ah3 (hs.length + 1) ch3) (.slice Ad4 (ds.length + 1) cd4) (.slice Ab bs.length cb) (.slice (some ad) op.length co) (hs ++ [h]) (ds ++ [d]) bs h d op 0 0 from HM3.out.pushD ho hb hg)
     have HX4:=Aside0.mk (show wv4.heap[gx]? = some (.cells #[.int .i64 x.f0,.int .i64 x.f1,.slice AT x.f2.length cT] 56 (0,0)) by exact blk_grown HX3.out hg (Kd.R_ne HM3.out.rd HX3.out (by decide)))
     clear ho hb hg hat
     refine hK.out _ _ ?_ (fun hHeld => ?_)
     ·exact ⟨(blk_cell HM4.out.kb 1).trans rfl,(blk_cell HM4.out.kb 2).trans rfl,(blk_cell HM4.out.kb 3).trans rfl,(blk_cell HM4.out.wk.blk 0).trans rfl,(blk_cell HM4.out.wk.blk 1).trans rfl⟩
     clear hK K
     refine norm_ (a':=?_) ?_ ?_
     rotate_left
     ·show Act.put _ (some 44) _ = _
      simp only [Act.put,List.setIfInBounds_toArray,List.set_cons_zero,List.set_cons_succ,i64_w,i32_w]
      rfl
     refine one_ (i:=23) (N:=some 49) #[true,true,true,true,true,true,true,true,true,true,true,true,true,true,true,true,true,true,true,true,true,true,true,true,false,false,false,false,false,false,false,false,false,false,false] rfl rfl (by kernel_rfl) (by decide) (fun K hK => ?_)
     refine goes_ Try.func91 (by kernel_rfl) rfl #[.pointer (some ⟨bw,0,none⟩)] (by rfl) rfl rfl (by simp only [List.map_toArray,List.map_cons,List.map_nil];rfl) ?_
     refine (WkAt.base AB.out HM4.out.wk).mono ?_
     rintro e wv5 ⟨rfl,⟨m_,hm⟩⟩
     refine ⟨_,rfl,?_⟩
     have HM5:=Aside0.mk (show WoMid w1 wv5 bk bw (.pointer (some ⟨gs,0,none⟩)) (.slice Ah hs.length ch) (.slice Ad ds.length cd) (.slice Ab bs.length cb) (.slice Ah3 (hs.length + 1) ch3) (.slice Ad4 (ds.length + 1) cd4) (.slice Ab bs.length cb) (.slice (some ad) op.length co) (hs ++ [h]) (ds ++ [d]) bs h d op 0 0 by rw [hm];exact HM4.out.step (pw_below_drewN (Below.refl _ _) m_))
     have HX5:=Aside0.mk (show wv5.heap[gx]? = some (.cells #[.int .i64 x.f0,.int .i64 x.f1,.slice AT x.f2.length cT] 56 (0,0)) by rw [hm];exact blk_drewN HX4.out m_)
     clear hm
     refine hK.out _ _ ?_ (fun hHeld => ?_)
     ·exact ⟨(blk_cell HM5.out.kb 1).trans rfl,(blk_cell HM5.out.kb 2).trans rfl,(blk_cell HM5.out.kb 3).trans rfl,(blk_cell HM5.out.wk.blk 0).trans rfl,(blk_cell HM5.out.wk.blk 1).trans rfl⟩
     clear hK K
     refine norm_ (a':=?_) ?_ ?_
     rotate_left
     ·show Act.put _ (some 49) _ = _
      simp only [Act.put,List.setIfInBounds_toArray,List.set_cons_zero,List.set_cons_succ,i64_w,i32_w]
      rfl
     refine one_ (i:=24) (N:=some 50) #[true,true,true,true,true,true,true,true,true,true,true,true,true,true,true,true,true,true,true,true,true,true,true,true,true,false,false,false,false,false,false,false,false,false,false] rfl rfl (by kernel_rfl) (by decide) (fun K hK => ?_)
     refine value_ (w1:=?_) (v:=?_) (by rfl) rfl ?_ ?_
     rotate_left 2
     ·go_simp
      constructor
      ·rfl
      ·rfl
     obtain ⟨wv6,hwv⟩ : ∃ w_,w_ = wv5.alloc (.cells #[.int .i64 b] 3):=⟨_,rfl⟩
     rw [← hwv]
     have HM6:=Aside0.mk (show WoMid w1 wv6 bk bw (.pointer (some ⟨gs,0,none⟩)) (.slice Ah hs.length ch) (.slice Ad ds.length cd) (.slice Ab bs.length cb) (.slice Ah3 (hs.length + 1) ch3) (.slice Ad4 (ds.length + 1) cd4) (.slice Ab bs.length cb) (.slice (some ad) op.length co) (hs ++ [h]) (ds ++ [d]) bs h d op 0 0 by rw [hwv];exact HM5.out.step (below_alloc (Below.refl _ _) _))
     have HL3_6:=Aside0.mk (show wv6.heap[wv5.heap.size]? = some (.cells #[.int .i64 b] 3 (0,0)) by rw [hwv];exact heap_alloc_new _ _)
     have HX6:=Aside0.mk (show wv6.heap[gx]? = some (.cells #[.int .i64 x.f0,.int .i64 x.f1,.slice AT x.f2.length cT] 56 (0,0)) by rw [hwv];exact blk_alloc HX5.out _)
     clear hwv
     refine hK.out _ _ ?_ (fun hHeld => ?_)
     ·exact ⟨(blk_cell HM6.out.kb 1).trans rfl,(blk_cell HM6.out.kb 2).trans rfl,(blk_cell HM6.out.kb 3).trans rfl,(blk_cell HM6.out.wk.blk 0).trans rfl,(blk_cell HM6.out.wk.blk 1).trans rfl⟩
     clear hK K
     refine norm_ (a':=?_) ?_ ?_
     rotate_left
     ·show Act.put _ (some 50) _ = _
      simp only [Act.put,List.setIfInBounds_toArray,List.set_cons_zero,List.set_cons_succ,i64_w,i32_w]
      rfl
     refine one_ (i:=25) (N:=some 51) #[true,true,true,true,true,true,true,true,true,true,true,true,true,true,true,true,true,true,true,true,true,true,true,true,true,true,false,false,false,false,false,false,false,false,false] rfl rfl (by kernel_rfl) (by decide) (fun K hK => ?_)
     refine Kd.R_append_rows_step (Kd.int .i64) (Rr:=fun x_ cs => cs = [Value.int .i64 x_]) (w0:=w1) w1.heap.size (by rfl) (.tmp 48) (.tmp 50) 29 3 (.int .i64 0) 8 rfl Try.underlying29 (by kernel_rfl) rfl (by decide) (by omega) (.slice Ab bs.length cb) bs [b] _ _ _ (fun k_ => some k_ = (.slice Ab bs.length cb : Value).ownBlock ∨ wv6.heap.size ≤ k_) (fun _ => False) rfl rfl ?aO ?aR (fun _ _ h_ => h_) (fun _ hk => hk.elim) ?aF ?aB ?aS ?aL ?_
     case aR => exact C_lit_blk HL3_6.out
     case aF => exact fun k_ hk_ => .inr hk_
     case aO => exact Kd.R_mono HM6.out.rb (fun k_ h_ => .inl h_)
     case aB => exact HM6.out.below
     case aS => exact HM6.out.below.size
     case aL => have:=HN.out;omega
     intro v1 wv7 ho hb hg hat
     obtain ⟨Ab7,cb7,e9⟩:=Kd.R_slice ho
     rw [List.length_append,List.length_singleton] at e9
     subst e9
     have HM7:=Aside0.mk (show WoMid w1 wv7 bk bw (.pointer (some ⟨gs,0,none⟩)) (.slice Ah hs.length ch) (.slice Ad ds.length cd) (.slice Ab bs.length cb) (.slice Ah3 (hs.length + 1) ch3) (.slice Ad4 (ds.length + 1) cd4) (.slice Ab7 (bs.length + 1) cb7) (.slice (some ad) op.length co) (hs ++ [h]) (ds ++ [d]) (bs ++ [b]) h d op 0 0 from HM6.out.pushB ho hb hg hat)
     have HX7:=Aside0.mk (show wv7.heap[gx]? = some (.cells #[.int .i64 x.f0,.int .i64 x.f1,.slice AT x.f2.length cT] 56 (0,0)) by exact blk_grown HX6.out hg (Kd.R_ne HM6.out.rb HX6.out (by decide)))
     clear ho hb hg hat
     refine hK.out _ _ ?_ (fun hHeld => ?_)
     ·exact ⟨(blk_cell HM7.out.kb 1).trans rfl,(blk_cell HM7.out.kb 2).trans rfl,(blk_cell HM7.out.kb 3).trans rfl,(blk_cell HM7.out.wk.blk 0).trans rfl,(blk_cell HM7.out.wk.blk 1).trans rfl⟩
     clear hK K
     refine norm_ (a':=?_) ?_ ?_
     rotate_left
     ·show Act.put _ (some 51) _ = _
      simp only [Act.put,List.setIfInBounds_toArray,List.set_cons_zero,List.set_cons_succ,i64_w,i32_w]
      rfl
     refine pure_ (i:=26) (N:=some 52) (v:=?_) (a':=?_) #[true,true,true,true,true,true,true,true,true,true,true,true,true,true,true,true,true,true,true,true,true,true,true,true,true,true,true,false,false,false,false,false,false,false,false] rfl rfl (by kernel_rfl) (fun _ _ _ h => h) (Or.inl ⟨by rfl,?_⟩) ?_ ?_
     rotate_left
     ·intro w'
      go_simp
      with_reducible rfl
     rotate_left
     ·simp only [Act.put,List.setIfInBounds_toArray,List.set_cons_zero,List.set_cons_succ,i64_w,i32_w]
      rfl
     refine pure_ (i:=27) (N:=some 53) (v:=?_) (a':=?_) #[true,true,true,true,true,true,true,true,true,true,true,true,true,true,true,true,true,true,true,true,true,true,true,true,true,true,true,true,false,false,false,false,false,false,false] rfl rfl (by kernel_rfl) (fun _ _ _ h => h) (Or.inl ⟨by rfl,?_⟩) ?_ ?_
     rotate_left
     ·intro w'
      go_simp
      with_reducible rfl
     rotate_left
     ·simp only [Act.put,List.setIfInBounds_toArray,List.set_cons_zero,List.set_cons_succ,i64_w,i32_w]
      rfl
     refine last_ (i:=28) (N:=none) #[true,true,true,true,true,true,true,true,true,true,true,true,true,true,true,true,true,true,true,true,true,true,true,true,true,true,true,true,true,false,false,false,false,false,false] rfl rfl (by kernel_rfl) (by decide) (fun K hK => ?_)
     have hcs:=((blk_cell HM7.out.kb 1).trans rfl : wv7.cell? ⟨bk,1,none⟩ = some (.slice Ah hs.length ch))
     have hfs:=blk_frozen HM7.out.kb 1
     refine skip_ (w1:=?_) (by rfl) rfl ?_ ?_
     rotate_left
     ·go_simp
      rfl
     obtain ⟨wv8,hwv⟩ : ∃ w_,w_ = wv7.setCell ⟨bk,1,none⟩ (.slice Ah3 (hs.length + 1) ch3):=⟨_,rfl⟩
     rw [← hwv]
     have HM8:=Aside0.mk (show WoMid w1 wv8 bk bw (.pointer (some ⟨gs,0,none⟩)) (.slice Ah3 (hs.length + 1) ch3) (.slice Ad ds.length cd) (.slice Ab bs.length cb) (.slice Ah3 (hs.length + 1) ch3) (.slice Ad4 (ds.length + 1) cd4) (.slice Ab7 (bs.length + 1) cb7) (.slice (some ad) op.length co) (hs ++ [h]) (ds ++ [d]) (bs ++ [b]) h d op 0 0 by rw [hwv];exact HM7.out.set 1 _ rfl)
     have HX8:=Aside0.mk (show wv8.heap[gx]? = some (.cells #[.int .i64 x.f0,.int .i64 x.f1,.slice AT x.f2.length cT] 56 (0,0)) by rw [hwv];exact blk_far HX7.out (p:=⟨bk,1,none⟩) (blk_ty_ne HX7.out HM7.out.kb (by decide)) _)
     clear hwv hcs hfs
     refine hK.out _ _ ?_
     clear hK K
     refine pure_ (i:=29) (N:=some 54) (v:=?_) (a':=?_) #[true,true,true,true,true,true,true,true,true,true,true,true,true,true,true,true,true,true,true,true,true,true,true,true,true,true,true,true,true,true,false,false,false,false,false] rfl rfl (by kernel_rfl) (fun _ _ _ h => h) (Or.inl ⟨by rfl,?_⟩) ?_ ?_
     rotate_left
     ·intro w'
      go_simp
      with_reducible rfl
     rotate_left
     ·simp only [Act.put,List.setIfInBounds_toArray,List.set_cons_zero,List.set_cons_succ,i64_w,i32_w]
      rfl
     refine pure_ (i:=30) (N:=some 55) (v:=?_) (a':=?_) #[true,true,true,true,true,true,true,true,true,true,true,true,true,true,true,true,true,true,true,true,true,true,true,true,true,true,true,true,true,true,true,false,false,false,false] rfl rfl (by kernel_rfl) (fun _ _ _ h => h) (Or.inl ⟨by rfl,?_⟩) ?_ ?_
     rotate_left
     ·intro w'
      go_simp
      with_reducible rfl
     rotate_left
     ·simp only [Act.put,List.setIfInBounds_toArray,List.set_cons_zero,List.set_cons_succ,i64_w,i32_w]
      rfl
     refine last_ (i:=31) (N:=none) #[true,true,true,true,true,true,true,true,true,true,true,true,true,true,true,true,true,true,true,true,true,true,true,true,true,true,true,true,true,true,true,true,false,false,false] rfl rfl (by kernel_rfl) (by decide) (fun K hK => ?_)
     have hcs:=((blk_cell HM8.out.kb 2).trans rfl : wv8.cell? ⟨bk,2,none⟩ = some (.slice Ad ds.length cd))
     have hfs:=blk_frozen HM8.out.kb 2
     refine skip_ (w1:=?_) (by rfl) rfl ?_ ?_
     rotate_left
     ·go_simp
      rfl
     obtain ⟨wv9,hwv⟩ : ∃ w_,w_ = wv8.setCell ⟨bk,2,none⟩ (.slice Ad4 (ds.length + 1) cd4):=⟨_,rfl⟩
     rw [← hwv]
     have HM9:=Aside0.mk (show WoMid w1 wv9 bk bw (.pointer (some ⟨gs,0,none⟩)) (.slice Ah3 (hs.length + 1) ch3) (.slice Ad4 (ds.length + 1) cd4) (.slice Ab bs.length cb) (.slice Ah3 (hs.length + 1) ch3) (.slice Ad4 (ds.length + 1) cd4) (.slice Ab7 (bs.length + 1) cb7) (.slice (some ad) op.length co) (hs ++ [h]) (ds ++ [d]) (bs ++ [b]) h d op 0 0 by rw [hwv];exact HM8.out.set 2 _ rfl)
     have HX9:=Aside0.mk (show wv9.heap[gx]? = some (.cells #[.int .i64 x.f0,.int .i64 x.f1,.slice AT x.f2.length cT] 56 (0,0)) by rw [hwv];exact blk_far HX8.out (p:=⟨bk,2,none⟩) (blk_ty_ne HX8.out HM8.out.kb (by decide)) _)
     clear hwv hcs hfs
     refine hK.out _ _ ?_
     clear hK K
     refine pure_ (i:=32) (N:=some 56) (v:=?_) (a':=?_) #[true,true,true,true,true,true,true,true,true,true,true,true,true,true,true,true,true,true,true,true,true,true,true,true,true,true,true,true,true,true,true,true,true,false,false] rfl rfl (by kernel_rfl) (fun _ _ _ h => h) (Or.inl ⟨by rfl,?_⟩) ?_ ?_
     rotate_left
     ·intro w'
      go_simp
      with_reducible rfl
     rotate_left
     ·simp only [Act.put,List.setIfInBounds_toArray,List.set_cons_zero,List.set_cons_succ,i64_w,i32_w]
      rfl
     refine pure_ (i:=33) (N:=some 57) (v:=?_) (a':=?_) #[true,true,true,true,true,true,true,true,true,true,true,true,true,true,true,true,true,true,true,true,true,true,true,true,true,true,true,true,true,true,true,true,true,true,false] rfl rfl (by kernel_rfl) (fun _ _ _ h => h) (Or.inl ⟨by rfl,?_⟩) ?_ ?_
     rotate_left
     ·intro w'
      go_simp
      with_reducible rfl
     rotate_left
     ·simp only [Act.put,List.setIfInBounds_toArray,List.set_cons_zero,List.set_cons_succ,i64_w,i32_w]
      rfl
     refine last_ (i:=34) (N:=none) #[true,true,true,true,true,true,true,true,true,true,true,true,true,true,true,true,true,true,true,true,true,true,true,true,true,true,true,true,true,true,true,true,true,true,true] rfl rfl (by kernel_rfl) (by decide) (fun K hK => ?_)
     have hcs:=((blk_cell HM9.out.kb 3).trans rfl : wv9.cell? ⟨bk,3,none⟩ = some (.slice Ab bs.length cb))
     have hfs:=blk_frozen HM9.out.kb 3
     refine skip_ (w1:=?_) (by rfl) rfl ?_ ?_
     rotate_left
     ·go_simp
      rfl
     obtain ⟨wv10,hwv⟩ : ∃ w_,w_ = wv9.setCell ⟨bk,3,none⟩ (.slice Ab7 (bs.length + 1) cb7):=⟨_,rfl⟩
     rw [← hwv]
     have HM10:=Aside0.mk (show WoMid w1 wv10 bk bw (.pointer (some ⟨gs,0,none⟩)) (.slice Ah3 (hs.length + 1) ch3) (.slice Ad4 (ds.length + 1) cd4) (.slice Ab7 (bs.length + 1) cb7) (.slice Ah3 (hs.length + 1) ch3) (.slice Ad4 (ds.length + 1) cd4) (.slice Ab7 (bs.length + 1) cb7) (.slice (some ad) op.length co) (hs ++ [h]) (ds ++ [d]) (bs ++ [b]) h d op 0 0 by rw [hwv];exact HM9.out.set 3 _ rfl)
     have HX10:=Aside0.mk (show wv10.heap[gx]? = some (.cells #[.int .i64 x.f0,.int .i64 x.f1,.slice AT x.f2.length cT] 56 (0,0)) by rw [hwv];exact blk_far HX9.out (p:=⟨bk,3,none⟩) (blk_ty_ne HX9.out HM9.out.kb (by decide)) _)
     clear hwv hcs hfs
     refine hK.out _ _ ?_
     clear hK K
     refine done_ (by kernel_rfl) ?_
     go_wp2
     go_meet
     exact ⟨_,_,_,_,rfl,HX10,HM10⟩
   case rest =>
   obtain ⟨gx,vh2,vd2,vb2,rfl,HX1,HM1⟩:=hcut
   clear HM0 HX0
   have hb0:=((blk_cell HX1.out 0).trans rfl : wc.cell? ⟨gx,0,none⟩ = some (.int .i64 x.f0))
   have hb1:=((blk_cell HX1.out 1).trans rfl : wc.cell? ⟨gx,1,none⟩ = some (.int .i64 x.f1))
   have hb2:=((blk_cell HX1.out 2).trans rfl : wc.cell? ⟨gx,2,none⟩ = some (.slice AT x.f2.length cT))
   by_cases c3 : t1 = 0
   ·rw [if_pos c3] at H
    have H':=Aside0.mk H
    have c3b : (t1 != 0) = false:=by simpa using c3
    clear c3 H
    go_wp2_with (go_at_call 92;(with_reducible refine (impl_walker_step.calls k1 bw h d (some ad) co op x.f0 x.f1 AT cT x.f2.length t1 t2 t3 t4 w1 _ HM1.out.below HM1.out.wk AS2.out).mono ?_);rintro e w6 ⟨rfl,⟨vo2,hwk⟩,hb6,hk6⟩;have HM6:=Aside0.mk (HM1.out.walked hwk hb6 hk6);have hk4:=((blk_cell HM6.out.kb 4).trans rfl : w6.cell? ⟨bk,4,none⟩ = some (.int .i64 0));have hk5:=((blk_cell HM6.out.kb 5).trans rfl : w6.cell? ⟨bk,5,none⟩ = some (.int .i64 0));have hf4:=blk_frozen HM6.out.kb 4;have hf5:=blk_frozen HM6.out.kb 5;clear hwk hb6 hk6 hb0 hb1 hb2)
    go_roundg k1
    case measure => have:=HK1.out;omega
    case rel => exact ⟨i + 1,_,_,_,_,_,_,_,_,_,_,by go_num,H',⟨by have:=HK1.out;omega⟩,HM6⟩
   ·rw [if_neg c3] at H
    obtain rfl:=Option.some.inj H
    have c3b : (t1 != 0) = true:=by simpa using c3
    clear c3 H
    go_wp2_with (first | (go_at_call 92;(with_reducible refine (impl_walker_step.calls k1 bw h d (some ad) co op x.f0 x.f1 AT cT x.f2.length t1 t2 t3 t4 w1 _ HM1.out.below HM1.out.wk AS2.out).mono ?_);rintro e w6 ⟨rfl,⟨vo2,hwk⟩,hb6,hk6⟩;have HM6:=Aside0.mk (HM1.out.walked hwk hb6 hk6);have hk4:=((blk_cell HM6.out.kb 4).trans rfl : w6.cell? ⟨bk,4,none⟩ = some (.int .i64 0));have hk5:=((blk_cell HM6.out.kb 5).trans rfl : w6.cell? ⟨bk,5,none⟩ = some (.int .i64 0));have hf4:=blk_frozen HM6.out.kb 4;have hf5:=blk_frozen HM6.out.kb 5;clear hwk hb6 hk6 hb0 hb1 hb2) | ((with_reducible refine gate_store (t:=3) (p:=67) rfl ?_);refine store_event (t:=3) (p:=67) (v:=?vowa3_) (w1:=(w6.setCell ⟨bk,4,none⟩ (.int .i64 t1))) ?hg ?ho ?hn ?hr ?_;(case ho => rfl);(case hg => rfl);(case hn => rfl);(case hr => first | (go_simp;done) | (go_simp;rfl));intro wa hw;have HM7:=Aside0.mk (show WoMid w1 wa bk bw (.pointer (some ⟨gs,0,none⟩)) vh2 vd2 vb2 vh2 vd2 vb2 vo2 (hs ++ [h]) (ds ++ [d]) (bs ++ [b]) t2 t3 t4 t1 0 by rw [hw];exact HM6.out.set 4 _ rfl);have hk5a:=((blk_cell HM7.out.kb 5).trans rfl : wa.cell? ⟨bk,5,none⟩ = some (.int .i64 0));have hf5a:=blk_frozen HM7.out.kb 5;clear hw) | ((with_reducible refine gate_store (t:=3) (p:=69) rfl ?_);refine store_event (t:=3) (p:=69) (v:=?vowb4_) (w1:=(wa.setCell ⟨bk,5,none⟩ (.int .i64 (i : Int)))) ?hg ?ho ?hn ?hr ?_;(case ho => rfl);(case hg => rfl);(case hn => rfl);(case hr => first | (go_simp;done) | (go_simp;rfl));intro wb hw;have HM8:=Aside0.mk (show WoMid w1 wb bk bw (.pointer (some ⟨gs,0,none⟩)) vh2 vd2 vb2 vh2 vd2 vb2 vo2 (hs ++ [h]) (ds ++ [d]) (bs ++ [b]) t2 t3 t4 t1 (i : Int) by rw [hw];exact HM7.out.set 5 _ rfl);clear hw))
    go_ret
    rw [← HQ.out]
    exact ⟨_,rfl,⟨bk,rfl,HM8.out.done HB1.out HSA.out⟩,below_step HB1.out HM8.out.below⟩

end Go.Proofs.Ytmljikgegclolaa.Q
