-- WRITTEN BY A PROGRAM OF THIS SESSION
import Derived.Test.YtmljikgegclolaaQ0
import Derived.Test.YtmljikgegclolaaQ10
import Derived.Test.YtmljikgegclolaaQ13
namespace Go.Proofs.Ytmljikgegclolaa.Q
open Go.RowKit Go.Proofs.YtmljikgegclolaaW.PrintWords Go.Proofs.YtmljikgegclolaaW.PrintLast Go.Proofs.YtmljikgegclolaaW.PrintMore
attribute [local go_sem] max2_int min2_int max_two min_two max_three min_three max_four min_four   -- for this text's walks alone
set_option linter.unusedVariables false
set_option linter.unusedSimpArgs false

/-! ### impl_walker_step: function 92 (by hand: a state behind a pointer, a row of structs in it that grows) -/
/-- A walker behind its pointer. -/
structure WkAt (W : World) (base g : Nat) (h : Int) (d : Bool) (vo : Value) (op : List OpS) : Prop where
 gb : base ≤ g
 blk : W.heap[g]? = some (.cells #[.int .i64 h,.bool d,vo] 108 (0,0))
 row : Kd.R kOp 105 W base (fun k => some k = vo.ownBlock) vo op
section
variable {W W' : World} {base g : Nat} {h : Int} {d : Bool} {vo : Value} {op : List OpS}
theorem WkAt.ne (hI : WkAt W base g h d vo op) : some g ≠ vo.ownBlock:=Kd.R_ne hI.row hI.blk (by decide)
theorem WkAt.step (hI : WkAt W base g h d vo op) (hb : Below W.heap.size W W') : WkAt W' base g h d vo op:=⟨hI.gb,blk_below hI.blk hb,Kd.R_below hI.row hb⟩
theorem WkAt.setH (hI : WkAt W base g h d vo op) (x : Int) : WkAt (W.setCell ⟨g,0,none⟩ (.int .i64 x)) base g x d vo op :=
 ⟨hI.gb,blk_put hI.blk 0 _ rfl,Kd.R_far (p:=⟨g,0,none⟩) hI.row (fun k hk he => hI.ne (by have e2 : k = g:=he;rw [← e2];exact hk)) _⟩
theorem WkAt.setD (hI : WkAt W base g h d vo op) (x : Bool) : WkAt (W.setCell ⟨g,1,none⟩ (.bool x)) base g h x vo op :=
 ⟨hI.gb,blk_put hI.blk 1 _ rfl,Kd.R_far (p:=⟨g,1,none⟩) hI.row (fun k hk he => hI.ne (by have e2 : k = g:=he;rw [← e2];exact hk)) _⟩
theorem WkAt.setO {v' : Value} {op' : List OpS} (hgb : base ≤ g) (hblk : W.heap[g]? = some (.cells #[.int .i64 h,.bool d,vo] 108 (0,0))) (hr : Kd.R kOp 105 W base (fun k => some k = v'.ownBlock) v' op') : WkAt (W.setCell ⟨g,2,none⟩ v') base g h d v' op' :=
 ⟨hgb,blk_put hblk 2 _ rfl,Kd.R_far (p:=⟨g,2,none⟩) hr (fun k hk he => Kd.R_ne hr hblk (by decide) (by have e2 : k = g:=he;rw [← e2];exact hk)) _⟩
end
theorem kept_set_ {w W : World} {g j : Nat} {u : Value} {S : Nat → Prop} (hk : Kept w W S) (hg : S g) : Kept w (W.setCell ⟨g,j,none⟩ u) S :=
 ⟨Nat.le_trans hk.1 (by simp [World.setCell]),fun k hlt hn => (Below.heap_setCell W ⟨g,j,none⟩ u k (fun e => hn (by have e2 : k = g:=e;rw [e2];exact hg))).trans (hk.2 k hlt hn)⟩
/-- While a step is gone over: the walker, the step's own copy, what else stays. -/
structure StInv (w0 w W : World) (g : Nat) (v0 : Value) (gx : Nat) (cx : Array Value) (h : Int) (d : Bool) (op : List OpS) : Prop where
 wk : WkAt W w0.heap.size g h d v0 op
 below : Below w0.heap.size w0 W
 kept : Kept w W (fun k => k = g ∨ some k = v0.ownBlock)
 xb : W.heap[gx]? = some (.cells cx 56 (0,0))
section
variable {w0 w W W' : World} {g gx : Nat} {v0 : Value} {cx : Array Value} {h : Int} {d : Bool} {op : List OpS}
theorem StInv.start (hB : Below w0.heap.size w0 w) (hI : WkAt w w0.heap.size g h d v0 op) (hb : Below w.heap.size w W) (hx : W.heap[gx]? = some (.cells cx 56 (0,0))) : StInv w0 w W g v0 gx cx h d op :=
 ⟨hI.step hb,below_step hB hb,Kept.of_below hb _,hx⟩
theorem StInv.drewN (hI : StInv w0 w W g v0 gx cx h d op) (m : Nat) : StInv w0 w (W.drewN m) g v0 gx cx h d op :=
 ⟨hI.wk.step (pw_below_drewN (Below.refl _ _) m),pw_below_drewN hI.below m,Kept.then_ hI.kept (Kept.of_below (pw_below_drewN (Below.refl _ _) m) _) (fun _ h_ => .inl h_),blk_drewN hI.xb m⟩
theorem StInv.drew (hI : StInv w0 w W g v0 gx cx h d op) : StInv w0 w W.drew g v0 gx cx h d op:=hI.drewN 1
theorem StInv.xne (hI : StInv w0 w W g v0 gx cx h d op) : gx ≠ g:=fun e => by
 have h1:=hI.xb
 rw [e,hI.wk.blk] at h1
 injection h1 with h1
 injection h1 with _ h1 _
 exact absurd h1 (by decide)
theorem StInv.setH (hI : StInv w0 w W g v0 gx cx h d op) (x : Int) : StInv w0 w (W.setCell ⟨g,0,none⟩ (.int .i64 x)) g v0 gx cx x d op :=
 ⟨hI.wk.setH x,hI.below.setCell hI.wk.gb _,kept_set_ hI.kept (.inl rfl),blk_far hI.xb (p:=⟨g,0,none⟩) hI.xne _⟩
theorem StInv.setD (hI : StInv w0 w W g v0 gx cx h d op) (x : Bool) : StInv w0 w (W.setCell ⟨g,1,none⟩ (.bool x)) g v0 gx cx h x op :=
 ⟨hI.wk.setD x,hI.below.setCell hI.wk.gb _,kept_set_ hI.kept (.inl rfl),blk_far hI.xb (p:=⟨g,1,none⟩) hI.xne _⟩
theorem StInv.base {ad : Addr} {c : Nat} {b : Int} (hb : impl_walker_base.f op = some b) (hI : StInv w0 w W g (.slice (some ad) op.length c) gx cx h d op) (n : Nat) : Calls Try.prog 91 #[.pointer (some ⟨g,0,none⟩)] (W.drewN n) fun e w' => e = .returned (.int .i64 b) ∧ ∃ m,w' = (W.drewN n).drewN m :=
 (impl_walker_base.calls g h d (some ad) c op b _ (blk_drewN hI.wk.blk n) (Kd.C_drewN (Kd.R_reads' hI.wk.row).2.2 n) hb).mono (fun _ _ ⟨h1_,⟨m_,h2_⟩⟩ => ⟨h1_,m_,h2_⟩)
end
def wkH1 (n1 b h : Int) : Int:=if n1 ≤ h - b then h - n1 else b
def impl_walker_step.g (n1 n2 x0 h : Int) (d ob : Bool) (op : List OpS) (b : Int) : Int × Int × Bool × List OpS :=
 if ¬ n1 ≤ h - b ∧ d = false then (2,h,d,op)
 else if wkH1 n1 b h + n2 > 4 then (4,wkH1 n1 b h + n2,d,op)
 else if ob = true then (0,wkH1 n1 b h + n2,d,op ++ [⟨wkH1 n1 b h + n2,d⟩])
 else if (x0 = 18 ∨ x0 = 19) ∧ wkH1 n1 b h + n2 ≠ b then (3,wkH1 n1 b h + n2,d,op)
 else if x0 = 18 then (0,wkH1 n1 b h + n2,(rdOp op ((op.length : Int) - 1)).f1,op)
 else if x0 = 19 then (0,wkH1 n1 b h + n2,(rdOp op ((op.length : Int) - 1)).f1,op.take (op.length - 1))
 else if x0 = 20 ∨ x0 = 22 ∨ x0 = 14 then (0,b,true,op)
 else (0,wkH1 n1 b h + n2,d,op)
def impl_walker_step.f (k : Nat) (x0 h : Int) (d : Bool) (op : List OpS) : Option (Int × Int × Bool × List OpS) :=
 (impl_walker_base.f op).bind fun b => (impl_needsOf.f k x0).bind fun nd => (impl_opens.f x0).bind fun ob => if -1000 ≤ h ∧ h ≤ 1000 ∧ -1000 ≤ b ∧ b ≤ 1000 ∧ 0 ≤ nd.1 ∧ nd.1 ≤ 2 ∧ 0 ≤ nd.2 ∧ nd.2 ≤ 2 then some (impl_walker_step.g nd.1 nd.2 x0 h d ob op b) else none
theorem impl_walker_step.mono : ∀ a0 a1 a2 a3 k,LeO (impl_walker_step.f k a0 a1 a2 a3) (impl_walker_step.f (k + 1) a0 a1 a2 a3):=fun _ _ _ _ k => LeO.bind (LeO.refl _) (fun _ => LeO.bind (impl_needsOf.mono _ _) (fun _ => LeO.refl _))
set_option maxHeartbeats 8000000 in
set_option maxRecDepth 100000 in
theorem impl_walker_step.calls (k g : Nat) (h0 : Int) (d0 : Bool) (A : Option Addr) (c : Nat) (op : List OpS) (x0 x1 : Int) (A2 : Option Addr) (c2 m2 : Nat) (r1 r2 : Int) (r3 : Bool) (r4 : List OpS) (w0 w : World) (hB : Below w0.heap.size w0 w) (hI : WkAt w w0.heap.size g h0 d0 (.slice A op.length c) op) (h : impl_walker_step.f k x0 h0 d0 op = some (r1,r2,r3,r4)) :
  Calls Try.prog 92 #[.pointer (some ⟨g,0,none⟩),.agg #[.int .i64 x0,.int .i64 x1,.slice A2 m2 c2]] w fun e w' => e = .returned (.int .i64 r1) ∧ (∃ vo',WkAt w' w0.heap.size g r2 r3 vo' r4) ∧ Below w0.heap.size w0 w' ∧ Kept w w' (fun k => k = g ∨ some k = (.slice A op.length c : Value).ownBlock):=by
 have hu56:=Try.underlying56
 have hu108:=Try.underlying108
 unfold impl_walker_step.f at h
 obtain ⟨b,A1,h⟩:=Option.bind_eq_some_iff.mp h
 obtain ⟨⟨n1,n2⟩,AN,h⟩:=Option.bind_eq_some_iff.mp h
 obtain ⟨ob,AO,h⟩:=Option.bind_eq_some_iff.mp h
 dsimp only at h
 by_cases cg : -1000 ≤ h0 ∧ h0 ≤ 1000 ∧ -1000 ≤ b ∧ b ≤ 1000 ∧ 0 ≤ n1 ∧ n1 ≤ 2 ∧ 0 ≤ n2 ∧ n2 ≤ 2
 rotate_left
 ·rw [if_neg cg] at h;exact absurd h (by simp)
 rw [if_pos cg] at h
 have H:=Option.some.inj h
 have A1c:=A1
 unfold impl_walker_base.f at A1c
 by_cases cq : 0 < op.length ∧ op.length ≤ 1000
 rotate_left
 ·rw [if_neg cq] at A1c;exact absurd A1c (by simp)
 clear A1c h
 have A1:=Aside0.mk A1
 have AN:=Aside0.mk AN
 have AO:=Aside0.mk AO
 have HQ:=Aside0.mk cq
 have HG:=Aside0.mk cg
 obtain ⟨j,hj⟩ : ∃ j : Int,(op.length : Int) - 1 = j:=⟨_,rfl⟩
 have hjw : IntKind.i64.wrap ((op.length : Int) - 1) = j:=by rw [IntKind.wrap_i64];omega
 have p0 : 0 ≤ j:=by omega
 have p1 : j < (op.length : Int):=by omega
 have HJ:=Aside0.mk hj
 obtain ⟨ad,e,hx,hx1⟩:=at_Op (Kd.R_reads' hI.row).2.2 j p0 p1
 cases e
 have HXO:=Aside0.mk hx1
 have HB0:=Aside0.mk hB
 have HI0:=Aside0.mk hI
 obtain ⟨z,hz⟩ : ∃ z : Int,IntKind.i64.wrap (h0 - b) = z:=⟨_,rfl⟩
 have hzz : z = h0 - b:=by rw [← hz,IntKind.wrap_i64];omega
 obtain ⟨bt,hbt⟩ : ∃ bt,decide (n1 ≤ z) = bt:=⟨_,rfl⟩
 obtain ⟨h1,hh1⟩ : ∃ h1,h1 = wkH1 n1 b h0:=⟨_,rfl⟩
 have hb1 : -1000 ≤ h1 ∧ h1 ≤ 1000:=by rw [hh1];unfold wkH1;split <;> omega
 obtain ⟨h2,hh2⟩ : ∃ h2,h2 = h1 + n2:=⟨_,rfl⟩
 have hw2 : IntKind.i64.wrap (h1 + n2) = h2:=by rw [IntKind.wrap_i64];omega
 have hgg : impl_walker_step.g n1 n2 x0 h0 d0 ob op b = impl_walker_step.g n1 n2 x0 h0 d0 ob op b:=rfl
 clear hgg hx hx1 hj hB hI cq cg
 have p0e:=eq_true p0
 have p1e:=eq_true p1
 have HZ:=Aside0.mk hzz
 have HH1:=Aside0.mk hh1
 have HH2:=Aside0.mk hh2
 have HB1:=Aside0.mk hb1
 have hbtA:=Aside0.mk hbt
 clear p0 p1 hzz hh1 hh2 hb1
 go_enter Try.func92,Try.ntmps92
 go_upto_region 1 with (first | ((with_reducible refine gate_dst (N:=3) rfl ?_);refine box_event ?hg (N:=3) ?hd (cs:=#[.int .i64 x0,.int .i64 x1,.slice A2 m2 c2]) (t:=56) ?hr ?_;(case hd => rfl);(case hg => rfl);(case hr => first | (go_simp;done) | (go_simp;rfl));intro gx hgx w1 hbox hb;have HI1:=Aside0.mk (StInv.start (op:=op) HB0.out HI0.out hb hbox);have hx10:=((blk_cell HI1.out.xb 0).trans rfl : w1.cell? ⟨gx,0,none⟩ = some (.int .i64 x0));clear hb hbox hgx))
 go_cut [5,6] (fun v5 v6 wc => v5 = .int .i64 n1 ∧ v6 = .int .i64 n2 ∧ Aside0 (StInv w0 w wc g (.slice (some ad) op.length c) gx #[.int .i64 x0,.int .i64 x1,.slice A2 m2 c2] h0 d0 op))
 case first =>
  go_wp2_with (go_at_call 101;refine (impl_needsOf.calls k x0 n1 n2 _ AN.out).mono ?_;rintro e w2 ⟨rfl,⟨nd,rfl⟩⟩)
  go_meet
  exact ⟨rfl,rfl,⟨HI1.out.drewN nd⟩⟩
 case rest =>
 obtain ⟨rfl,rfl,HI2⟩:=hcut
 clear HI1 hx10
 have hcwc0:=((blk_cell HI2.out.wk.blk 0).trans rfl : wc.cell? ⟨g,0,none⟩ = some (.int .i64 h0));have hcwc1:=((blk_cell HI2.out.wk.blk 1).trans rfl : wc.cell? ⟨g,1,none⟩ = some (.bool d0));have hcwc2:=((blk_cell HI2.out.wk.blk 2).trans rfl : wc.cell? ⟨g,2,none⟩ = some (.slice (some ad) op.length c));have hfwc0:=blk_frozen HI2.out.wk.blk 0;have hfwc1:=blk_frozen HI2.out.wk.blk 1;have hfwc2:=blk_frozen HI2.out.wk.blk 2;have hxwc0:=((blk_cell HI2.out.xb 0).trans rfl : wc.cell? ⟨gx,0,none⟩ = some (.int .i64 x0))
 by_cases cr : bt = false ∧ d0 = false
 ·obtain ⟨rfl,rfl⟩:=cr
  have c1 : ¬ n1 ≤ h0 - b:=by rw [← HZ.out];exact of_decide_eq_false hbtA.out
  unfold impl_walker_step.g at H
  rw [if_pos ⟨c1,rfl⟩] at H
  simp only [Prod.mk.injEq] at H
  obtain ⟨rfl,rfl,rfl,rfl⟩:=H
  clear c1
  go_wp2
  go_cut [19] (fun v19 wd => v19 = .bool false ∧ Aside0 (StInv w0 w wd g (.slice (some ad) op.length c) gx #[.int .i64 x0,.int .i64 x1,.slice A2 m2 c2] h0 false op))
  case first =>
   have hcb:=Aside0.mk (StInv.base (d:=false) (h:=h0) A1.out HI2.out);go_quiet ((go_at_call 91;exact Calls.quiet_of (hcb.out _)))
   go_wp2
   go_meet
   exact ⟨rfl,⟨HI2.out.drewN _⟩⟩
  case rest =>
  obtain ⟨rfl,HI3⟩:=hcut
  clear hcwc0 hcwc1 hcwc2 hfwc0 hfwc1 hfwc2 hxwc0
  clear HI2
  have hcwc0:=((blk_cell HI3.out.wk.blk 0).trans rfl : wc.cell? ⟨g,0,none⟩ = some (.int .i64 h0));have hcwc1:=((blk_cell HI3.out.wk.blk 1).trans rfl : wc.cell? ⟨g,1,none⟩ = some (.bool false));have hcwc2:=((blk_cell HI3.out.wk.blk 2).trans rfl : wc.cell? ⟨g,2,none⟩ = some (.slice (some ad) op.length c));have hfwc0:=blk_frozen HI3.out.wk.blk 0;have hfwc1:=blk_frozen HI3.out.wk.blk 1;have hfwc2:=blk_frozen HI3.out.wk.blk 2;have hxwc0:=((blk_cell HI3.out.xb 0).trans rfl : wc.cell? ⟨gx,0,none⟩ = some (.int .i64 x0))
  go_wp2
  go_ret
  exact ⟨rfl,⟨_,HI3.out.wk⟩,HI3.out.below,HI3.out.kept⟩
 have hnr : ¬ (¬ n1 ≤ h0 - b ∧ d0 = false):=fun h_ => cr ⟨by rw [← hbtA.out];exact decide_eq_false (by rw [HZ.out];exact h_.1),h_.2⟩
 unfold impl_walker_step.g at H
 rw [if_neg hnr,← HH1.out,← HH2.out] at H
 go_upto_block 0 with (fail)
 go_cut [19] (fun v19 wd => Aside0 (StInv w0 w wd g (.slice (some ad) op.length c) gx #[.int .i64 x0,.int .i64 x1,.slice A2 m2 c2] h1 d0 op))
 case first =>
  clear H
  go_wp2
  go_cut [19] (fun v19 wd => v19 = .bool bt ∧ Aside0 (StInv w0 w wd g (.slice (some ad) op.length c) gx #[.int .i64 x0,.int .i64 x1,.slice A2 m2 c2] h0 d0 op))
  case first =>
   have hcb:=Aside0.mk (StInv.base (d:=d0) (h:=h0) A1.out HI2.out);go_quiet ((go_at_call 91;exact Calls.quiet_of (hcb.out _)))
   go_wp2
   go_meet
   exact ⟨rfl,⟨HI2.out.drewN _⟩⟩
  case rest =>
  obtain ⟨rfl,HI3⟩:=hcut
  clear hcwc0 hcwc1 hcwc2 hfwc0 hfwc1 hfwc2 hxwc0
  clear HI2
  have hcwc0:=((blk_cell HI3.out.wk.blk 0).trans rfl : wc.cell? ⟨g,0,none⟩ = some (.int .i64 h0));have hcwc1:=((blk_cell HI3.out.wk.blk 1).trans rfl : wc.cell? ⟨g,1,none⟩ = some (.bool d0));have hcwc2:=((blk_cell HI3.out.wk.blk 2).trans rfl : wc.cell? ⟨g,2,none⟩ = some (.slice (some ad) op.length c));have hfwc0:=blk_frozen HI3.out.wk.blk 0;have hfwc1:=blk_frozen HI3.out.wk.blk 1;have hfwc2:=blk_frozen HI3.out.wk.blk 2;have hxwc0:=((blk_cell HI3.out.xb 0).trans rfl : wc.cell? ⟨gx,0,none⟩ = some (.int .i64 x0))
  cases bt with
  | true =>
   have hA : IntKind.i64.wrap (h0 - n1) = h1:=by
    have c1 : n1 ≤ h0 - b:=by rw [← HZ.out];exact of_decide_eq_true hbtA.out
    rw [HH1.out,IntKind.wrap_i64];unfold wkH1;rw [if_pos c1];have:=HG.out;omega
   go_wp2_with ((with_reducible refine gate_store (t:=3) (p:=36) rfl ?_);refine store_event (t:=3) (p:=36) (v:=?vow61_) (w1:=(wc.setCell ⟨g,0,none⟩ (.int .i64 h1))) ?hg ?ho ?hn ?hr ?_;(case ho => rfl);(case hg => rfl);(case hn => rfl);(case hr => first | (go_simp;done) | (go_simp;rfl));intro w6 hw;have HI6:=Aside0.mk (show StInv w0 w w6 g (.slice (some ad) op.length c) gx #[.int .i64 x0,.int .i64 x1,.slice A2 m2 c2] h1 d0 op by rw [hw];exact HI3.out.setH h1);clear hw)
   go_meet
   exact HI6
  | false =>
   cases d0 with
   | false => exact absurd ⟨rfl,rfl⟩ cr
   | true =>
    have hA : b = h1:=by
     have c1 : ¬ n1 ≤ h0 - b:=by rw [← HZ.out];exact of_decide_eq_false hbtA.out
     rw [HH1.out];unfold wkH1;rw [if_neg c1]
    have hcb:=Aside0.mk (StInv.base (d:=true) (h:=h0) A1.out HI3.out)
    go_wp2_with (first | (go_at_call 91;refine ((hcb.out 0).mono ?_);rintro e w9 ⟨rfl,⟨nb,rfl⟩⟩) | ((with_reducible refine gate_store (t:=3) (p:=18) rfl ?_);refine store_event (t:=3) (p:=18) (v:=?vow62_) (w1:=(((wc.drewN 0).drewN nb).setCell ⟨g,0,none⟩ (.int .i64 b))) ?hg ?ho ?hn ?hr ?_;(case ho => rfl);(case hg => rfl);(case hn => rfl);(case hr => first | (go_simp;done) | (go_simp;rfl));intro w6 hw;have HI6:=Aside0.mk (show StInv w0 w w6 g (.slice (some ad) op.length c) gx #[.int .i64 x0,.int .i64 x1,.slice A2 m2 c2] h1 true op by rw [hw,hA];exact ((HI3.out.drewN 0).drewN nb).setH h1);clear hw))
    go_meet
    exact HI6
 case rest =>
 have HI5:=hcut
 clear hcut hnr cr HI2
 clear hcwc0 hcwc1 hcwc2 hfwc0 hfwc1 hfwc2 hxwc0
 have hcwc0:=((blk_cell HI5.out.wk.blk 0).trans rfl : wc.cell? ⟨g,0,none⟩ = some (.int .i64 h1));have hcwc1:=((blk_cell HI5.out.wk.blk 1).trans rfl : wc.cell? ⟨g,1,none⟩ = some (.bool d0));have hcwc2:=((blk_cell HI5.out.wk.blk 2).trans rfl : wc.cell? ⟨g,2,none⟩ = some (.slice (some ad) op.length c));have hfwc0:=blk_frozen HI5.out.wk.blk 0;have hfwc1:=blk_frozen HI5.out.wk.blk 1;have hfwc2:=blk_frozen HI5.out.wk.blk 2;have hxwc0:=((blk_cell HI5.out.xb 0).trans rfl : wc.cell? ⟨gx,0,none⟩ = some (.int .i64 x0))
 by_cases c2 : h2 > 4
 ·rw [if_pos c2] at H
  simp only [Prod.mk.injEq] at H
  obtain ⟨rfl,rfl,rfl,rfl⟩:=H
  have c2b : decide (h2 > 4) = true:=decide_eq_true c2
  have c2c : decide (4 < h2) = true:=decide_eq_true c2
  clear c2
  go_wp2_with ((with_reducible refine gate_store (t:=3) (p:=50) rfl ?_);refine store_event (t:=3) (p:=50) (v:=?vow63_) (w1:=(wc.setCell ⟨g,0,none⟩ (.int .i64 h2))) ?hg ?ho ?hn ?hr ?_;(case ho => rfl);(case hg => rfl);(case hn => rfl);(case hr => first | (go_simp;done) | (go_simp;rfl));intro w6 hw;have HI6:=Aside0.mk (show StInv w0 w w6 g (.slice (some ad) op.length c) gx #[.int .i64 x0,.int .i64 x1,.slice A2 m2 c2] h2 d0 op by rw [hw];exact HI5.out.setH h2);clear hcwc0 hcwc1 hcwc2 hfwc0 hfwc1 hfwc2 hxwc0;have hcw60:=((blk_cell HI6.out.wk.blk 0).trans rfl : w6.cell? ⟨g,0,none⟩ = some (.int .i64 h2));have hcw61:=((blk_cell HI6.out.wk.blk 1).trans rfl : w6.cell? ⟨g,1,none⟩ = some (.bool d0));have hcw62:=((blk_cell HI6.out.wk.blk 2).trans rfl : w6.cell? ⟨g,2,none⟩ = some (.slice (some ad) op.length c));have hfw60:=blk_frozen HI6.out.wk.blk 0;have hfw61:=blk_frozen HI6.out.wk.blk 1;have hfw62:=blk_frozen HI6.out.wk.blk 2;have hxw60:=((blk_cell HI6.out.xb 0).trans rfl : w6.cell? ⟨gx,0,none⟩ = some (.int .i64 x0));clear hw)
  go_ret
  exact ⟨rfl,⟨_,HI6.out.wk⟩,HI6.out.below,HI6.out.kept⟩
 rw [if_neg c2] at H
 have c2b : decide (h2 > 4) = false:=decide_eq_false c2
 have c2c : decide (4 < h2) = false:=decide_eq_false c2
 clear c2
 go_upto_region 11 with ((with_reducible refine gate_store (t:=3) (p:=50) rfl ?_);refine store_event (t:=3) (p:=50) (v:=?vow63_) (w1:=(wc.setCell ⟨g,0,none⟩ (.int .i64 h2))) ?hg ?ho ?hn ?hr ?_;(case ho => rfl);(case hg => rfl);(case hn => rfl);(case hr => first | (go_simp;done) | (go_simp;rfl));intro w6 hw;have HI6:=Aside0.mk (show StInv w0 w w6 g (.slice (some ad) op.length c) gx #[.int .i64 x0,.int .i64 x1,.slice A2 m2 c2] h2 d0 op by rw [hw];exact HI5.out.setH h2);clear hcwc0 hcwc1 hcwc2 hfwc0 hfwc1 hfwc2 hxwc0;have hcw60:=((blk_cell HI6.out.wk.blk 0).trans rfl : w6.cell? ⟨g,0,none⟩ = some (.int .i64 h2));have hcw61:=((blk_cell HI6.out.wk.blk 1).trans rfl : w6.cell? ⟨g,1,none⟩ = some (.bool d0));have hcw62:=((blk_cell HI6.out.wk.blk 2).trans rfl : w6.cell? ⟨g,2,none⟩ = some (.slice (some ad) op.length c));have hfw60:=blk_frozen HI6.out.wk.blk 0;have hfw61:=blk_frozen HI6.out.wk.blk 1;have hfw62:=blk_frozen HI6.out.wk.blk 2;have hxw60:=((blk_cell HI6.out.xb 0).trans rfl : w6.cell? ⟨gx,0,none⟩ = some (.int .i64 x0));clear hw)
 go_cut [62] (fun v62 wd => v62 = .bool ob ∧ Aside0 (StInv w0 w wd g (.slice (some ad) op.length c) gx #[.int .i64 x0,.int .i64 x1,.slice A2 m2 c2] h2 d0 op))
 case first =>
  clear H
  go_wp2_with (go_at_call 82;refine (impl_opens.calls x0 ob _ AO.out).mono ?_;rintro e w8 ⟨rfl,⟨nd,rfl⟩⟩)
  go_meet
  exact ⟨rfl,⟨HI6.out.drewN nd⟩⟩
 case rest =>
 obtain ⟨rfl,HI8⟩:=hcut
 clear hcw60 hcw61 hcw62 hfw60 hfw61 hfw62 hxw60
 clear HI5 HI6
 have hcwc0:=((blk_cell HI8.out.wk.blk 0).trans rfl : wc.cell? ⟨g,0,none⟩ = some (.int .i64 h2));have hcwc1:=((blk_cell HI8.out.wk.blk 1).trans rfl : wc.cell? ⟨g,1,none⟩ = some (.bool d0));have hcwc2:=((blk_cell HI8.out.wk.blk 2).trans rfl : wc.cell? ⟨g,2,none⟩ = some (.slice (some ad) op.length c));have hfwc0:=blk_frozen HI8.out.wk.blk 0;have hfwc1:=blk_frozen HI8.out.wk.blk 1;have hfwc2:=blk_frozen HI8.out.wk.blk 2;have hxwc0:=((blk_cell HI8.out.xb 0).trans rfl : wc.cell? ⟨gx,0,none⟩ = some (.int .i64 x0))
 cases ob with
 | true =>
  rw [if_pos rfl] at H
  simp only [Prod.mk.injEq] at H
  obtain ⟨rfl,rfl,rfl,rfl⟩:=H
  have HI7:=Aside0.mk HI8.out.drew
  clear hcwc0 hcwc1 hcwc2 hfwc0 hfwc1 hfwc2 hxwc0
  go_upto_region 12 with (fail)
  refine start_ (n:=19) (S:=fun w' => w'.cell? ⟨g,0,none⟩ = some (.int .i64 h2) ∧ w'.cell? ⟨g,1,none⟩ = some (.bool d0) ∧ w'.cell? ⟨g,2,none⟩ = some (.slice (some ad) op.length c)) (ds:=[18]) #[false,false,false,false,false,false,false,false,false,false,false,false,false,false,false,false,false,false,false] (by kernel_rfl) rfl rfl ?_ (fun hHeld => ?_)
  ·exact ⟨(blk_cell HI7.out.wk.blk 0).trans rfl,(blk_cell HI7.out.wk.blk 1).trans rfl,(blk_cell HI7.out.wk.blk 2).trans rfl⟩
  refine pure_ (i:=0) (N:=some 66) (v:=?_) (a':=?_) #[true,false,false,false,false,false,false,false,false,false,false,false,false,false,false,false,false,false,false] rfl rfl (by kernel_rfl) (fun _ _ _ h => h) (Or.inl ⟨by rfl,?_⟩) ?_ ?_
  rotate_left
  ·intro w'
   go_simp
   with_reducible rfl
  rotate_left
  ·simp only [Act.put,List.setIfInBounds_toArray,List.set_cons_zero,List.set_cons_succ,i64_w,i32_w]
   rfl
  refine pure_ (i:=1) (N:=some 67) (v:=?_) (a':=?_) #[true,true,false,false,false,false,false,false,false,false,false,false,false,false,false,false,false,false,false] rfl rfl (by kernel_rfl) (fun _ _ _ h => h) (Or.inl ⟨by rfl,?_⟩) ?_ ?_
  rotate_left
  ·intro w'
   go_simp
   with_reducible rfl
  rotate_left
  ·simp only [Act.put,List.setIfInBounds_toArray,List.set_cons_zero,List.set_cons_succ,i64_w,i32_w]
   rfl
  refine pure_ (i:=2) (N:=some 68) (v:=?_) (a':=?_) #[true,true,true,false,false,false,false,false,false,false,false,false,false,false,false,false,false,false,false] rfl rfl (by kernel_rfl) (fun _ _ _ h => h) (Or.inl ⟨by rfl,?_⟩) ?_ ?_
  rotate_left
  ·intro w'
   go_simp
   with_reducible rfl
  rotate_left
  ·simp only [Act.put,List.setIfInBounds_toArray,List.set_cons_zero,List.set_cons_succ,i64_w,i32_w]
   rfl
  refine pure_ (i:=3) (N:=some 69) (v:=?_) (a':=?_) #[true,true,true,true,false,false,false,false,false,false,false,false,false,false,false,false,false,false,false] rfl rfl (by kernel_rfl) (fun _ _ _ h => h) (Or.inl ⟨by rfl,?_⟩) ?_ ?_
  rotate_left
  ·intro w'
   go_simp
   with_reducible rfl
  rotate_left
  ·simp only [Act.put,List.setIfInBounds_toArray,List.set_cons_zero,List.set_cons_succ,i64_w,i32_w]
   rfl
  refine pure_ (i:=5) (N:=some 71) (v:=?_) (a':=?_) #[true,true,true,true,false,true,false,false,false,false,false,false,false,false,false,false,false,false,false] rfl rfl (by kernel_rfl) (fun _ _ _ h => h) (Or.inl ⟨by rfl,?_⟩) ?_ ?_
  rotate_left
  ·intro w'
   go_simp
   with_reducible rfl
  rotate_left
  ·simp only [Act.put,List.setIfInBounds_toArray,List.set_cons_zero,List.set_cons_succ,i64_w,i32_w]
   rfl
  refine pure_ (i:=6) (N:=some 72) (v:=?_) (a':=?_) #[true,true,true,true,false,true,true,false,false,false,false,false,false,false,false,false,false,false,false] rfl rfl (by kernel_rfl) (fun _ _ _ h => h) (Or.inl ⟨by rfl,?_⟩) ?_ ?_
  rotate_left
  ·intro w'
   go_simp
   with_reducible rfl
  rotate_left
  ·simp only [Act.put,List.setIfInBounds_toArray,List.set_cons_zero,List.set_cons_succ,i64_w,i32_w]
   rfl
  refine pure_ (i:=7) (N:=some 73) (v:=?_) (a':=?_) #[true,true,true,true,false,true,true,true,false,false,false,false,false,false,false,false,false,false,false] rfl rfl (by kernel_rfl) (fun _ _ _ h => h) (Or.inl ⟨by rfl,?_⟩) ?_ ?_
  rotate_left
  ·intro w'
   go_simp
   with_reducible rfl
  rotate_left
  ·simp only [Act.put,List.setIfInBounds_toArray,List.set_cons_zero,List.set_cons_succ,i64_w,i32_w]
   rfl
  refine pure_ (i:=9) (N:=some 75) (v:=?_) (a':=?_) #[true,true,true,true,false,true,true,true,false,true,false,false,false,false,false,false,false,false,false] rfl rfl (by kernel_rfl) (fun _ _ _ h => h) (Or.inl ⟨by rfl,?_⟩) ?_ ?_
  rotate_left
  ·intro w'
   go_simp
   with_reducible rfl
  rotate_left
  ·simp only [Act.put,List.setIfInBounds_toArray,List.set_cons_zero,List.set_cons_succ,i64_w,i32_w]
   rfl
  refine pure_ (i:=10) (N:=some 76) (v:=?_) (a':=?_) #[true,true,true,true,false,true,true,true,false,true,true,false,false,false,false,false,false,false,false] rfl rfl (by kernel_rfl) (fun _ _ _ h => h) (Or.inl ⟨by rfl,?_⟩) ?_ ?_
  rotate_left
  ·intro w'
   go_simp
   with_reducible rfl
  rotate_left
  ·simp only [Act.put,List.setIfInBounds_toArray,List.set_cons_zero,List.set_cons_succ,i64_w,i32_w]
   rfl
  refine pure_ (i:=11) (N:=some 77) (v:=?_) (a':=?_) #[true,true,true,true,false,true,true,true,false,true,true,true,false,false,false,false,false,false,false] rfl rfl (by kernel_rfl) (fun _ _ _ h => h) (Or.inl ⟨by rfl,?_⟩) ?_ ?_
  rotate_left
  ·intro w'
   go_simp
   with_reducible rfl
  rotate_left
  ·simp only [Act.put,List.setIfInBounds_toArray,List.set_cons_zero,List.set_cons_succ,i64_w,i32_w]
   rfl
  refine take_ (i:=4) (N:=some 70) (v:=?_) (a':=?_) #[true,true,true,true,true,true,true,true,false,true,true,true,false,false,false,false,false,false,false] rfl rfl (by kernel_rfl) (fun _ _ _ h => h) (Or.inl ⟨by rfl,?_⟩) hHeld ?_ ?_
  rotate_left
  ·rintro w' ⟨s0,s1,s2⟩
   go_simp
   with_reducible rfl
  rotate_left
  ·simp only [Act.put,List.setIfInBounds_toArray,List.set_cons_zero,List.set_cons_succ,i64_w,i32_w]
   rfl
  refine take_ (i:=8) (N:=some 74) (v:=?_) (a':=?_) #[true,true,true,true,true,true,true,true,true,true,true,true,false,false,false,false,false,false,false] rfl rfl (by kernel_rfl) (fun _ _ _ h => h) (Or.inl ⟨by rfl,?_⟩) hHeld ?_ ?_
  rotate_left
  ·rintro w' ⟨s0,s1,s2⟩
   go_simp
   with_reducible rfl
  rotate_left
  ·simp only [Act.put,List.setIfInBounds_toArray,List.set_cons_zero,List.set_cons_succ,i64_w,i32_w]
   rfl
  refine take_ (i:=12) (N:=some 78) (v:=?_) (a':=?_) #[true,true,true,true,true,true,true,true,true,true,true,true,true,false,false,false,false,false,false] rfl rfl (by kernel_rfl) (fun _ _ _ h => h) (Or.inl ⟨by rfl,?_⟩) hHeld ?_ ?_
  rotate_left
  ·rintro w' ⟨s0,s1,s2⟩
   go_simp
   with_reducible rfl
  rotate_left
  ·simp only [Act.put,List.setIfInBounds_toArray,List.set_cons_zero,List.set_cons_succ,i64_w,i32_w]
   rfl
  refine pure_ (i:=13) (N:=some 79) (v:=?_) (a':=?_) #[true,true,true,true,true,true,true,true,true,true,true,true,true,true,false,false,false,false,false] rfl rfl (by kernel_rfl) (fun _ _ _ h => h) (Or.inl ⟨by rfl,?_⟩) ?_ ?_
  rotate_left
  ·intro w'
   go_simp
   with_reducible rfl
  rotate_left
  ·simp only [Act.put,List.setIfInBounds_toArray,List.set_cons_zero,List.set_cons_succ,i64_w,i32_w]
   rfl
  refine one_ (i:=14) (N:=some 80) #[true,true,true,true,true,true,true,true,true,true,true,true,true,true,true,false,false,false,false] rfl rfl (by kernel_rfl) (by decide) (fun K hK => ?_)
  refine value_ (w1:=?_) (v:=?_) (by rfl) rfl ?_ ?_
  rotate_left 2
  ·go_simp
   constructor
   ·rfl
   ·rfl
  refine hK.out _ _ ?_ (fun hHeld => ?_)
  ·exact ⟨pw_cell_below (below_alloc (Below.refl _ _) _) hHeld.1,pw_cell_below (below_alloc (Below.refl _ _) _) hHeld.2.1,pw_cell_below (below_alloc (Below.refl _ _) _) hHeld.2.2⟩
  clear hK K
  refine norm_ (a':=?_) ?_ ?_
  rotate_left
  ·show Act.put _ (some 80) _ = _
   simp only [Act.put,List.setIfInBounds_toArray,List.set_cons_zero,List.set_cons_succ,i64_w,i32_w]
   rfl
  refine one_ (i:=15) (N:=some 81) #[true,true,true,true,true,true,true,true,true,true,true,true,true,true,true,true,false,false,false] rfl rfl (by kernel_rfl) (by decide) (fun K hK => ?_)
  refine Kd.R_append_step kOp (w0:=w0) (W:=wc.drew) w0.heap.size (by rfl) (.tmp 70) (.tmp 80) 106 105 (.agg #[.int .i64 0,.bool false]) 16 rfl Try.underlying106 (by kernel_rfl) rfl (by decide) (by omega) (.slice (some ad) op.length c) op ⟨h2,d0⟩ [.int .i64 h2,.bool d0] (fun k_ => some k_ = (.slice (some ad) op.length c : Value).ownBlock ∨ wc.heap.size ≤ k_) (fun _ => False) rfl rfl ?aP (fun _ hk => hk.elim) ?aF ?aO ?aB ?aS ?aL ?_
  case aP => exact kOp_mkM _ _ _ _
  case aF => exact fun k_ hk_ => .inr hk_
  case aO => exact Kd.R_mono (HI7.out.wk.row) (fun k_ h_ => .inl h_)
  case aB => exact HI7.out.below
  case aS => exact HI7.out.below.size
  case aL => have:=HQ.out;omega
  intro v81 w9 ho9 hb9 hg9 hat9
  obtain ⟨Av,cv,ev⟩:=Kd.R_slice ho9
  rw [List.length_append,List.length_singleton] at ev
  subst ev
  have HO9:=Aside0.mk ho9
  have HB9:=Aside0.mk hb9
  have HG9:=Aside0.mk hg9
  have HA9:=Aside0.mk hat9
  have HX9:=Aside0.mk (blk_grown HI7.out.wk.blk hg9 HI7.out.wk.ne)
  have hc92:=((blk_cell HX9.out 2).trans rfl : w9.cell? ⟨g,2,none⟩ = some (.slice (some ad) op.length c))
  have hf92:=blk_frozen HX9.out 2
  clear ho9 hb9 hg9 hat9
  refine hK.out _ _ ?_ (fun hHeld => ?_)
  ·exact ⟨(blk_cell HX9.out 0).trans rfl,(blk_cell HX9.out 1).trans rfl,(blk_cell HX9.out 2).trans rfl⟩
  clear hK K
  refine norm_ (a':=?_) ?_ ?_
  rotate_left
  ·show Act.put _ (some 81) _ = _
   simp only [Act.put,List.setIfInBounds_toArray,List.set_cons_zero,List.set_cons_succ,i64_w,i32_w]
   rfl
  refine pure_ (i:=16) (N:=some 82) (v:=?_) (a':=?_) #[true,true,true,true,true,true,true,true,true,true,true,true,true,true,true,true,true,false,false] rfl rfl (by kernel_rfl) (fun _ _ _ h => h) (Or.inl ⟨by rfl,?_⟩) ?_ ?_
  rotate_left
  ·intro w'
   go_simp
   with_reducible rfl
  rotate_left
  ·simp only [Act.put,List.setIfInBounds_toArray,List.set_cons_zero,List.set_cons_succ,i64_w,i32_w]
   rfl
  refine pure_ (i:=17) (N:=some 83) (v:=?_) (a':=?_) #[true,true,true,true,true,true,true,true,true,true,true,true,true,true,true,true,true,true,false] rfl rfl (by kernel_rfl) (fun _ _ _ h => h) (Or.inl ⟨by rfl,?_⟩) ?_ ?_
  rotate_left
  ·intro w'
   go_simp
   with_reducible rfl
  rotate_left
  ·simp only [Act.put,List.setIfInBounds_toArray,List.set_cons_zero,List.set_cons_succ,i64_w,i32_w]
   rfl
  refine last_ (i:=18) (N:=none) #[true,true,true,true,true,true,true,true,true,true,true,true,true,true,true,true,true,true,true] rfl rfl (by kernel_rfl) (by decide) (fun K hK => ?_)
  refine skip_ (w1:=?_) (by rfl) rfl ?_ ?_
  rotate_left
  ·go_simp
   rfl
  refine hK.out _ _ ?_
  clear hK K
  refine done_ (by kernel_rfl) ?_
  go_wp2
  go_ret
  exact ⟨rfl,⟨_,WkAt.setO HI7.out.wk.gb HX9.out (Kd.R_tight rfl HO9.out)⟩,HB9.out.setCell HI7.out.wk.gb _,kept_set_ (Kept.of_grown HG9.out HI7.out.kept (fun k_ e_ => .inl (.inr e_.symm))) (.inl rfl)⟩
 | false =>
 rw [if_neg (by decide)] at H
 have hop:=at_Op (Kd.R_reads' HI8.out.wk.row).2.2 j (of_eq_true p0e) (of_eq_true p1e)
 obtain ⟨ad_,e_,hx_,hy_⟩:=hop
 injection e_ with e_
 subst e_
 clear hx_
 obtain ⟨dl,hdl⟩ : ∃ dl,dl = (rdOp op j).f1:=⟨_,rfl⟩
 rw [HJ.out,← hdl] at H
 rw [← hdl] at hy_
 have q3 : j ≤ (c : Int):=by have:=R_cap HI8.out.wk.row;have:=HJ.out;omega
 by_cases cs : x0 = 18 ∨ x0 = 19
 ·by_cases cn : h2 = b
  rotate_left
  ·rw [if_pos ⟨cs,cn⟩] at H
   simp only [Prod.mk.injEq] at H
   obtain ⟨rfl,rfl,rfl,rfl⟩:=H
   have fn : (h2 != b) = true:=by simpa using cn
   have e18 : (x0 == 18) = decide (x0 = 18):=by rw [Bool.eq_iff_iff];simp
   by_cases c18 : x0 = 18
   ·have f18 : (x0 == 18) = true:=by simpa using c18
    clear cs cn c18 e18 hdl
    go_upto_region 13 with (fail)
    have hcb:=Aside0.mk (StInv.base (d:=d0) (h:=h2) A1.out HI8.out);go_quiet ((go_at_call 91;exact Calls.quiet_of (hcb.out _)))
    go_wp2
    go_ret
    exact ⟨rfl,⟨_,(HI8.out.drewN _).wk⟩,(HI8.out.drewN _).below,(HI8.out.drewN _).kept⟩
   ·have f18 : (x0 == 18) = false:=by simpa using c18
    have f19 : (x0 == 19) = true:=by simpa using cs.resolve_left c18
    clear cs cn c18 e18 hdl
    go_upto_region 13 with (fail)
    have hcb:=Aside0.mk (StInv.base (d:=d0) (h:=h2) A1.out HI8.out);go_quiet ((go_at_call 91;exact Calls.quiet_of (hcb.out _)))
    go_wp2
    go_ret
    exact ⟨rfl,⟨_,(HI8.out.drewN _).wk⟩,(HI8.out.drewN _).below,(HI8.out.drewN _).kept⟩
  rw [if_neg (fun h_ => h_.2 cn)] at H
  have fn : (h2 != b) = false:=by rw [cn];simp
  by_cases c18 : x0 = 18
  ·rw [if_pos c18] at H
   simp only [Prod.mk.injEq] at H
   obtain ⟨rfl,rfl,rfl,rfl⟩:=H
   have f18 : (x0 == 18) = true:=by simpa using c18
   clear cs cn c18 hdl
   go_upto_region 13 with (fail)
   have hcb:=Aside0.mk (StInv.base (d:=d0) (h:=h2) A1.out HI8.out);go_quiet ((go_at_call 91;exact Calls.quiet_of (hcb.out _)))
   go_wp2_with ((with_reducible refine gate_store (t:=4) (p:=116) rfl ?_);refine store_event (t:=4) (p:=116) (v:=?vow114_) (w1:=((wc.drewN nq).setCell ⟨g,1,none⟩ (.bool dl))) ?hg ?ho ?hn ?hr ?_;(case ho => rfl);(case hg => rfl);(case hn => rfl);(case hr => first | (go_simp;done) | (go_simp;rfl));intro w11 hw;have HI11:=Aside0.mk (show StInv w0 w w11 g (.slice (some ad) op.length c) gx #[.int .i64 x0,.int .i64 x1,.slice A2 m2 c2] h2 dl op by rw [hw];exact (HI8.out.drewN nq).setD dl);clear hw)
   go_ret
   exact ⟨rfl,⟨_,HI11.out.wk⟩,HI11.out.below,HI11.out.kept⟩
  ·have c19 : x0 = 19:=cs.resolve_left c18
   rw [if_neg c18,if_pos c19] at H
   simp only [Prod.mk.injEq] at H
   obtain ⟨rfl,rfl,rfl,rfl⟩:=H
   have f18 : (x0 == 18) = false:=by simpa using c18
   have f19 : (x0 == 19) = true:=by simpa using c19
   have hjt:=Aside0.mk (show j.toNat = op.length - 1 by have:=HJ.out;omega)
   clear cs cn c18 c19 hdl
   go_upto_region 13 with (fail)
   have hcb:=Aside0.mk (StInv.base (d:=d0) (h:=h2) A1.out HI8.out);go_quiet ((go_at_call 91;exact Calls.quiet_of (hcb.out _)))
   go_wp2_with (first | ((with_reducible refine gate_store (t:=4) (p:=131) rfl ?_);refine store_event (t:=4) (p:=131) (v:=?vow115_) (w1:=((wc.drewN nq).setCell ⟨g,1,none⟩ (.bool dl))) ?hg ?ho ?hn ?hr ?_;(case ho => rfl);(case hg => rfl);(case hn => rfl);(case hr => first | (go_simp;done) | (go_simp;rfl));intro w11 hw;have HI11:=Aside0.mk (show StInv w0 w w11 g (.slice (some ad) op.length c) gx #[.int .i64 x0,.int .i64 x1,.slice A2 m2 c2] h2 dl op by rw [hw];exact (HI8.out.drewN nq).setD dl);clear hcwc0 hcwc1 hcwc2 hfwc0 hfwc1 hfwc2 hxwc0;have hcw110:=((blk_cell HI11.out.wk.blk 0).trans rfl : w11.cell? ⟨g,0,none⟩ = some (.int .i64 h2));have hcw111:=((blk_cell HI11.out.wk.blk 1).trans rfl : w11.cell? ⟨g,1,none⟩ = some (.bool dl));have hcw112:=((blk_cell HI11.out.wk.blk 2).trans rfl : w11.cell? ⟨g,2,none⟩ = some (.slice (some ad) op.length c));have hfw110:=blk_frozen HI11.out.wk.blk 0;have hfw111:=blk_frozen HI11.out.wk.blk 1;have hfw112:=blk_frozen HI11.out.wk.blk 2;have hxw110:=((blk_cell HI11.out.xb 0).trans rfl : w11.cell? ⟨gx,0,none⟩ = some (.int .i64 x0));clear hw) | ((with_reducible refine gate_store (t:=106) (p:=140) rfl ?_);refine store_event (t:=106) (p:=140) (v:=?vow126_) (w1:=(w11.setCell ⟨g,2,none⟩ (.slice (some ad) j.toNat c))) ?hg ?ho ?hn ?hr ?_;(case ho => rfl);(case hg => rfl);(case hn => rfl);(case hr => first | (go_simp;done) | (go_simp;rfl));intro w12 hw;have HI12:=Aside0.mk (show WkAt w12 w0.heap.size g h2 dl (.slice (some ad) (op.length - 1) c) (op.take (op.length - 1)) by rw [hw,hjt.out];exact WkAt.setO HI11.out.wk.gb HI11.out.wk.blk (Kd.R_take HI11.out.wk.row (by omega)));have HB12:=Aside0.mk (show Below w0.heap.size w0 w12 by rw [hw];exact HI11.out.below.setCell HI11.out.wk.gb _);have HK12:=Aside0.mk (show Kept w w12 (fun k => k = g ∨ some k = (.slice (some ad) op.length c : Value).ownBlock) by rw [hw];exact kept_set_ HI11.out.kept (.inl rfl));clear hw))
   go_ret
   exact ⟨rfl,⟨_,HI12.out⟩,HB12.out,HK12.out⟩
 have c18 : ¬ x0 = 18:=fun h_ => cs (.inl h_)
 have c19 : ¬ x0 = 19:=fun h_ => cs (.inr h_)
 rw [if_neg (fun h_ => cs h_.1),if_neg c18,if_neg c19] at H
 have f18 : (x0 == 18) = false:=by simpa using c18
 have f19 : (x0 == 19) = false:=by simpa using c19
 clear c18 c19 cs hdl
 by_cases c20 : x0 = 20 ∨ x0 = 22 ∨ x0 = 14
 ·rw [if_pos c20] at H
  simp only [Prod.mk.injEq] at H
  obtain ⟨rfl,rfl,rfl,rfl⟩:=H
  by_cases d20 : x0 = 20
  ·have f20 : (x0 == 20) = true:=by simpa using d20
   clear c20 d20
   go_upto_region 13 with (fail)
   go_quiet (fail)
   have HI9:=Aside0.mk (HI8.out.drewN nq)
   have hcb:=Aside0.mk (StInv.base (d:=d0) (h:=h2) A1.out HI9.out)
   go_wp2_with (first | (go_at_call 91;refine ((hcb.out 0).mono ?_);rintro e w9 ⟨rfl,⟨nb,rfl⟩⟩) | ((with_reducible refine gate_store (t:=3) (p:=160) rfl ?_);refine store_event (t:=3) (p:=160) (v:=?vow117_) (w1:=((((wc.drewN nq).drewN 0).drewN nb).setCell ⟨g,0,none⟩ (.int .i64 b))) ?hg ?ho ?hn ?hr ?_;(case ho => rfl);(case hg => rfl);(case hn => rfl);(case hr => first | (go_simp;done) | (go_simp;rfl));intro w11 hw;have HI11:=Aside0.mk (show StInv w0 w w11 g (.slice (some ad) op.length c) gx #[.int .i64 x0,.int .i64 x1,.slice A2 m2 c2] b d0 op by rw [hw];exact ((HI9.out.drewN 0).drewN nb).setH b);clear hcwc0 hcwc1 hcwc2 hfwc0 hfwc1 hfwc2 hxwc0;have hcw110:=((blk_cell HI11.out.wk.blk 0).trans rfl : w11.cell? ⟨g,0,none⟩ = some (.int .i64 b));have hcw111:=((blk_cell HI11.out.wk.blk 1).trans rfl : w11.cell? ⟨g,1,none⟩ = some (.bool d0));have hcw112:=((blk_cell HI11.out.wk.blk 2).trans rfl : w11.cell? ⟨g,2,none⟩ = some (.slice (some ad) op.length c));have hfw110:=blk_frozen HI11.out.wk.blk 0;have hfw111:=blk_frozen HI11.out.wk.blk 1;have hfw112:=blk_frozen HI11.out.wk.blk 2;have hxw110:=((blk_cell HI11.out.xb 0).trans rfl : w11.cell? ⟨gx,0,none⟩ = some (.int .i64 x0));clear hw) | ((with_reducible refine gate_store (t:=4) (p:=162) rfl ?_);refine store_event (t:=4) (p:=162) (v:=?vow128_) (w1:=(w11.setCell ⟨g,1,none⟩ (.bool true))) ?hg ?ho ?hn ?hr ?_;(case ho => rfl);(case hg => rfl);(case hn => rfl);(case hr => first | (go_simp;done) | (go_simp;rfl));intro w12 hw;have HI12:=Aside0.mk (show StInv w0 w w12 g (.slice (some ad) op.length c) gx #[.int .i64 x0,.int .i64 x1,.slice A2 m2 c2] b true op by rw [hw];exact HI11.out.setD true);clear hw))
   go_ret
   exact ⟨rfl,⟨_,HI12.out.wk⟩,HI12.out.below,HI12.out.kept⟩
  by_cases d22 : x0 = 22
  ·have f20 : (x0 == 20) = false:=by simpa using d20
   have f22 : (x0 == 22) = true:=by simpa using d22
   clear c20 d20 d22
   go_upto_region 13 with (fail)
   go_quiet (fail)
   have HI9:=Aside0.mk (HI8.out.drewN nq)
   have hcb:=Aside0.mk (StInv.base (d:=d0) (h:=h2) A1.out HI9.out)
   go_wp2_with (first | (go_at_call 91;refine ((hcb.out 0).mono ?_);rintro e w9 ⟨rfl,⟨nb,rfl⟩⟩) | ((with_reducible refine gate_store (t:=3) (p:=160) rfl ?_);refine store_event (t:=3) (p:=160) (v:=?vow119_) (w1:=((((wc.drewN nq).drewN 0).drewN nb).setCell ⟨g,0,none⟩ (.int .i64 b))) ?hg ?ho ?hn ?hr ?_;(case ho => rfl);(case hg => rfl);(case hn => rfl);(case hr => first | (go_simp;done) | (go_simp;rfl));intro w11 hw;have HI11:=Aside0.mk (show StInv w0 w w11 g (.slice (some ad) op.length c) gx #[.int .i64 x0,.int .i64 x1,.slice A2 m2 c2] b d0 op by rw [hw];exact ((HI9.out.drewN 0).drewN nb).setH b);clear hcwc0 hcwc1 hcwc2 hfwc0 hfwc1 hfwc2 hxwc0;have hcw110:=((blk_cell HI11.out.wk.blk 0).trans rfl : w11.cell? ⟨g,0,none⟩ = some (.int .i64 b));have hcw111:=((blk_cell HI11.out.wk.blk 1).trans rfl : w11.cell? ⟨g,1,none⟩ = some (.bool d0));have hcw112:=((blk_cell HI11.out.wk.blk 2).trans rfl : w11.cell? ⟨g,2,none⟩ = some (.slice (some ad) op.length c));have hfw110:=blk_frozen HI11.out.wk.blk 0;have hfw111:=blk_frozen HI11.out.wk.blk 1;have hfw112:=blk_frozen HI11.out.wk.blk 2;have hxw110:=((blk_cell HI11.out.xb 0).trans rfl : w11.cell? ⟨gx,0,none⟩ = some (.int .i64 x0));clear hw) | ((with_reducible refine gate_store (t:=4) (p:=162) rfl ?_);refine store_event (t:=4) (p:=162) (v:=?vow1210_) (w1:=(w11.setCell ⟨g,1,none⟩ (.bool true))) ?hg ?ho ?hn ?hr ?_;(case ho => rfl);(case hg => rfl);(case hn => rfl);(case hr => first | (go_simp;done) | (go_simp;rfl));intro w12 hw;have HI12:=Aside0.mk (show StInv w0 w w12 g (.slice (some ad) op.length c) gx #[.int .i64 x0,.int .i64 x1,.slice A2 m2 c2] b true op by rw [hw];exact HI11.out.setD true);clear hw))
   go_ret
   exact ⟨rfl,⟨_,HI12.out.wk⟩,HI12.out.below,HI12.out.kept⟩
  ·have f20 : (x0 == 20) = false:=by simpa using d20
   have f22 : (x0 == 22) = false:=by simpa using d22
   have f14 : (x0 == 14) = true:=by simpa using (c20.resolve_left d20).resolve_left d22
   clear c20 d20 d22
   go_upto_region 13 with (fail)
   go_quiet (fail)
   have HI9:=Aside0.mk (HI8.out.drewN nq)
   have hcb:=Aside0.mk (StInv.base (d:=d0) (h:=h2) A1.out HI9.out)
   go_wp2_with (first | (go_at_call 91;refine ((hcb.out 0).mono ?_);rintro e w9 ⟨rfl,⟨nb,rfl⟩⟩) | ((with_reducible refine gate_store (t:=3) (p:=160) rfl ?_);refine store_event (t:=3) (p:=160) (v:=?vow1111_) (w1:=((((wc.drewN nq).drewN 0).drewN nb).setCell ⟨g,0,none⟩ (.int .i64 b))) ?hg ?ho ?hn ?hr ?_;(case ho => rfl);(case hg => rfl);(case hn => rfl);(case hr => first | (go_simp;done) | (go_simp;rfl));intro w11 hw;have HI11:=Aside0.mk (show StInv w0 w w11 g (.slice (some ad) op.length c) gx #[.int .i64 x0,.int .i64 x1,.slice A2 m2 c2] b d0 op by rw [hw];exact ((HI9.out.drewN 0).drewN nb).setH b);clear hcwc0 hcwc1 hcwc2 hfwc0 hfwc1 hfwc2 hxwc0;have hcw110:=((blk_cell HI11.out.wk.blk 0).trans rfl : w11.cell? ⟨g,0,none⟩ = some (.int .i64 b));have hcw111:=((blk_cell HI11.out.wk.blk 1).trans rfl : w11.cell? ⟨g,1,none⟩ = some (.bool d0));have hcw112:=((blk_cell HI11.out.wk.blk 2).trans rfl : w11.cell? ⟨g,2,none⟩ = some (.slice (some ad) op.length c));have hfw110:=blk_frozen HI11.out.wk.blk 0;have hfw111:=blk_frozen HI11.out.wk.blk 1;have hfw112:=blk_frozen HI11.out.wk.blk 2;have hxw110:=((blk_cell HI11.out.xb 0).trans rfl : w11.cell? ⟨gx,0,none⟩ = some (.int .i64 x0));clear hw) | ((with_reducible refine gate_store (t:=4) (p:=162) rfl ?_);refine store_event (t:=4) (p:=162) (v:=?vow1212_) (w1:=(w11.setCell ⟨g,1,none⟩ (.bool true))) ?hg ?ho ?hn ?hr ?_;(case ho => rfl);(case hg => rfl);(case hn => rfl);(case hr => first | (go_simp;done) | (go_simp;rfl));intro w12 hw;have HI12:=Aside0.mk (show StInv w0 w w12 g (.slice (some ad) op.length c) gx #[.int .i64 x0,.int .i64 x1,.slice A2 m2 c2] b true op by rw [hw];exact HI11.out.setD true);clear hw))
   go_ret
   exact ⟨rfl,⟨_,HI12.out.wk⟩,HI12.out.below,HI12.out.kept⟩
 ·rw [if_neg c20] at H
  simp only [Prod.mk.injEq] at H
  obtain ⟨rfl,rfl,rfl,rfl⟩:=H
  have f20 : (x0 == 20) = false:=by rw [Bool.eq_false_iff];simp;omega
  have f22 : (x0 == 22) = false:=by rw [Bool.eq_false_iff];simp;omega
  have f14 : (x0 == 14) = false:=by rw [Bool.eq_false_iff];simp;omega
  clear c20
  go_upto_region 13 with (fail)
  go_quiet (fail)
  go_wp2
  go_ret
  exact ⟨rfl,⟨_,(HI8.out.drewN _).wk⟩,(HI8.out.drewN _).below,(HI8.out.drewN _).kept⟩

end Go.Proofs.Ytmljikgegclolaa.Q
