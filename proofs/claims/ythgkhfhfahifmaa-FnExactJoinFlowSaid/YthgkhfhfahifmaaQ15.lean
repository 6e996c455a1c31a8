-- WRITTEN BY A PROGRAM OF THIS SESSION
import Derived.Test.YthgkhfhfahifmaaQ0
import Derived.Test.YthgkhfhfahifmaaQ12
import Derived.Test.YthgkhfhfahifmaaQ13
import Derived.Test.YthgkhfhfahifmaaQ14
namespace Go.Proofs.Ythgkhfhfahifmaa.Q
open Go.RowKit Go.Proofs.YthgkhfhfahifmaaW.PrintWords Go.Proofs.YthgkhfhfahifmaaW.PrintLast Go.Proofs.YthgkhfhfahifmaaW.PrintMore
attribute [local go_sem] max2_int min2_int max_two min_two max_three min_three max_four min_four   -- for this text's walks alone
set_option linter.unusedVariables false
set_option linter.unusedSimpArgs false

/-! ### impl_trim: function 55 (by hand: a row of numbers, blocks with rows of their own, laid behind others) -/
/-- What holds between the rounds: what is laid out so far, the numbers, the list. -/
structure ImTrInv (b B : Nat) (w W : World) (vo vn vl : Value) (out : List S56) (ns ls : List Int) : Prop where
 below : Below B w W
 hBW : B ≤ W.heap.size
 out : Kd.S k56 56 W B (fun k => some k ≠ vn.ownBlock ∧ some k ≠ vl.ownBlock) vo out
 ns : (Kd.int .i64).R 3 W b (fun k => some k = vn.ownBlock) vn ns
 ls : (Kd.int .i64).R 3 W b (fun k => some k = vl.ownBlock) vl ls
theorem ImTr_weak {w0 w w1 : World} {B : Nat} (h : Below w0.heap.size w0 w) (hB : w0.heap.size ≤ B) (k : Below B w w1) : Below w0.heap.size w0 w1:=h.trans ⟨k.os,k.tape,k.output,k.size,fun i hi => k.block i (Nat.lt_of_lt_of_le hi hB)⟩
theorem ImTrInv.step {b B : Nat} {w W W' : World} {vo vn vl : Value} {out : List S56} {ns ls : List Int} (h : ImTrInv b B w W vo vn vl out ns ls) (hb : Below W.heap.size W W') : ImTrInv b B w W' vo vn vl out ns ls:=⟨below_then h.below h.hBW hb,Nat.le_trans h.hBW hb.size,Kd.S_below h.out hb,Kd.R_below h.ns hb,Kd.R_below h.ls hb⟩
/-- The same, within a round: a block in a variable, with two rows of its own. -/
structure ImTrIn (b B : Nat) (w W : World) (m gb : Nat) (vo vn vl v0 v3 : Value) (out : List S56) (ns ls : List Int) (code : List S79) (go tst : Int) (nx : List Int) : Prop where
 below : Below B w W
 hm : B ≤ m
 hmW : m ≤ W.heap.size
 out : Kd.S k56 56 W B (fun k => (some k ≠ vn.ownBlock ∧ some k ≠ vl.ownBlock) ∧ k < m) vo out
 ns : (Kd.int .i64).R 3 W b (fun k => some k = vn.ownBlock) vn ns
 ls : (Kd.int .i64).R 3 W b (fun k => some k = vl.ownBlock) vl ls
 nlt : ∀ k,some k = vn.ownBlock → k < m
 llt : ∀ k,some k = vl.ownBlock → k < m
 r0 : k79.R 79 W m (fun k => some k = v0.ownBlock) v0 code
 r3 : (Kd.int .i64).R 3 W m (fun k => some k = v3.ownBlock) v3 nx
 hgb : m ≤ gb
 box : W.heap[gb]? = some (.cells #[v0,.int .i64 go,.int .i64 tst,v3] 56 (0,0))
section
variable {b B : Nat} {w W W' : World} {m gb : Nat} {vo vn vl v0 v3 : Value} {out : List S56} {ns ls : List Int} {code : List S79} {go tst : Int} {nx : List Int}
theorem ImTrIn.step (h : ImTrIn b B w W m gb vo vn vl v0 v3 out ns ls code go tst nx) (hb : Below W.heap.size W W') : ImTrIn b B w W' m gb vo vn vl v0 v3 out ns ls code go tst nx :=
 ⟨below_then h.below (Nat.le_trans h.hm h.hmW) hb,h.hm,Nat.le_trans h.hmW hb.size,Kd.S_below h.out hb,Kd.R_below h.ns hb,Kd.R_below h.ls hb,h.nlt,h.llt,Kd.R_below h.r0 hb,Kd.R_below h.r3 hb,h.hgb,blk_below h.box hb⟩
theorem ImTrIn.drewN (h : ImTrIn b B w W m gb vo vn vl v0 v3 out ns ls code go tst nx) (n : Nat) : ImTrIn b B w (W.drewN n) m gb vo vn vl v0 v3 out ns ls code go tst nx:=h.step (pw_below_drewN (Below.refl _ _) n)
theorem ImTrInv.start {ok0 ok3 : Nat → Prop} (h : ImTrInv b B w W vo vn vl out ns ls) (hb : Below W.heap.size W W') (h0 : k79.R 79 W' W.heap.size ok0 v0 code) (h3 : (Kd.int .i64).R 3 W' W.heap.size ok3 v3 nx) (gb : Nat) (hgb : W.heap.size ≤ gb) (hbx : W'.heap[gb]? = some (.cells #[v0,.int .i64 go,.int .i64 tst,v3] 56 (0,0))) :
  ImTrIn b B w W' W.heap.size gb vo vn vl v0 v3 out ns ls code go tst nx :=
 ⟨below_then h.below h.hBW hb,h.hBW,hb.size,Kd.S_below (Kd.S_mono (Kd.S_bound h.out) (fun k hk => ⟨hk.1,hk.2.2.1⟩)) hb,Kd.R_below h.ns hb,Kd.R_below h.ls hb,fun k hk => Kd.R_lt h.ns k hk.symm,fun k hk => Kd.R_lt h.ls k hk.symm,Kd.R_tight rfl h0,Kd.R_tight rfl h3,hgb,hbx⟩
/-- A number of its row is written. -/
theorem ImTrIn.put (h : ImTrIn b B w W m gb vo vn vl v0 v3 out ns ls code go tst nx) (i : Int) (h0 : 0 ≤ i) (h1 : i < nx.length) (x : Int) : ∃ g3 c3,v3 = .slice (some ⟨g3,0,none⟩) nx.length c3 ∧ W.cell? ⟨g3,i.toNat,none⟩ = some (.int .i64 (rd nx i)) ∧ W.frozen? ⟨g3,i.toNat,none⟩ = false ∧
  ImTrIn b B w (W.setCell ⟨g3,i.toNat,none⟩ (.int .i64 x)) m gb vo vn vl v0 v3 out ns ls code go tst (nx.set i.toNat x):=by
 obtain ⟨g3,c3,hv,hbg,_,_⟩:=Kd.R_form h.r3 (by omega)
 have hE:=h.r3
 rw [hv] at hE
 obtain ⟨hc,hf⟩:=Kd.R_celln (0 : Int) hE i h0 h1
 obtain ⟨hp,hg⟩:=Kd.R_putg hE i x
 have hne : ∀ k,k < m → k ≠ g3:=fun k hk e => by omega
 refine ⟨g3,c3,hv,hc,hf,⟨h.below.setCell (Nat.le_trans h.hm hbg) _,h.hm,Nat.le_trans h.hmW (by simp [World.setCell]),Kd.S_far (p:=⟨g3,i.toNat,none⟩) h.out (fun k hk => hne k hk.2) _,Kd.R_far (p:=⟨g3,i.toNat,none⟩) h.ns (fun k hk => hne k (h.nlt k hk)) _,Kd.R_far (p:=⟨g3,i.toNat,none⟩) h.ls (fun k hk => hne k (h.llt k hk)) _,h.nlt,h.llt,?_,?_,h.hgb,blk_far (p:=⟨g3,i.toNat,none⟩) h.box (fun e => ?_) _⟩⟩
 ·refine Kd.R_far (p:=⟨g3,i.toNat,none⟩) h.r0 (fun k hk e => ?_) _
  obtain ⟨c0,e0⟩:=Kd.R_typed h.r0 k hk.symm
  obtain ⟨c1,e1⟩:=Kd.R_typed h.r3 g3 (by rw [hv];rfl)
  have e' : k = g3:=e
  subst e'
  rw [e0] at e1
  injection e1 with e1
  injection e1 with _ e1
  exact absurd e1 (by decide)
 ·rw [hv]
  have:=hp
  rw [hv] at *
  exact this
 ·have e' : gb = g3:=e
  obtain ⟨c1,e1⟩:=Kd.R_typed h.r3 g3 (by rw [hv];rfl)
  subst e'
  rw [h.box] at e1
  injection e1 with e1
  injection e1 with _ e1
  exact absurd e1 (by decide)
/-- It is laid behind the others. -/
theorem ImTrIn.mk_ (h : ImTrIn b B w W m gb vo vn vl v0 v3 out ns ls code go tst nx) : k56.M W B (fun k => some k = v0.ownBlock ∨ some k = v3.ownBlock) ⟨code,go,tst,nx⟩ [v0,.int .i64 go,.int .i64 tst,v3] :=
 k56_mkM W B _ ⟨code,go,tst,nx⟩ (Kd.R_lower (Kd.R_mono h.r0 (fun _ hk => .inl hk)) h.hm) (Kd.R_lower (Kd.R_mono h.r3 (fun _ hk => .inr hk)) h.hm)
theorem ImTrIn.ge (h : ImTrIn b B w W m gb vo vn vl v0 v3 out ns ls code go tst nx) : ∀ k,some k = v0.ownBlock ∨ some k = v3.ownBlock → m ≤ k:=fun k hk => hk.elim (fun e => Kd.R_base h.r0 k e.symm) (fun e => Kd.R_base h.r3 k e.symm)
theorem ImTrIn.aQ (h : ImTrIn b B w W m gb vo vn vl v0 v3 out ns ls code go tst nx) : ∀ k,some k = v0.ownBlock ∨ some k = v3.ownBlock → (some k ≠ vn.ownBlock ∧ some k ≠ vl.ownBlock) ∧ some k ≠ vo.ownBlock:=fun k hk => by
 have hm:=h.ge k hk
 exact ⟨⟨fun e => by have:=h.nlt k e;omega,fun e => by have:=h.llt k e;omega⟩,fun e => by have:=((Kd.S_R h.out).1 k e.symm).2;omega⟩
theorem ImTrIn.aO (h : ImTrIn b B w W m gb vo vn vl v0 v3 out ns ls code go tst nx) : Kd.S k56 56 W B (fun k => (some k ≠ vn.ownBlock ∧ some k ≠ vl.ownBlock) ∧ ¬ (some k = v0.ownBlock ∨ some k = v3.ownBlock)) vo out :=
 Kd.S_mono h.out (fun k hk => ⟨hk.1,fun ho => by have:=h.ge k ho;omega⟩)
theorem ImTrIn.aF (h : ImTrIn b B w W m gb vo vn vl v0 v3 out ns ls code go tst nx) : ∀ k,W.heap.size ≤ k → some k ≠ vn.ownBlock ∧ some k ≠ vl.ownBlock:=fun k hk =>
 ⟨fun e => by have:=Kd.R_lt h.ns k e.symm;omega,fun e => by have:=Kd.R_lt h.ls k e.symm;omega⟩
theorem ImTrIn.app {w1 : World} {v1 : Value} {out1 : List S56} (h : ImTrIn b B w W m gb vo vn vl v0 v3 out ns ls code go tst nx) (hS : Kd.S k56 56 w1 B (fun k => some k ≠ vn.ownBlock ∧ some k ≠ vl.ownBlock) v1 out1) (hb : Below B w w1) (hg : W.grownBy w1 vo.ownBlock) : ImTrInv b B w w1 v1 vn vl out1 ns ls :=
 ⟨hb,Nat.le_trans (Nat.le_trans h.hm h.hmW) hg.size,hS,Kd.R_grown h.ns hg (fun k hk e => ((Kd.S_R h.out).1 k e.symm).1.1 hk),Kd.R_grown h.ls hg (fun k hk e => ((Kd.S_R h.out).1 k e.symm).1.2 hk)⟩
end
/-- What holds while the names are laid. -/
structure ImP1 (m0 : Nat) (w W : World) (vo vn vl : Value) (ns ls : List Int) : Prop where
 below : Below w.heap.size w W
 h0 : w.heap.size ≤ m0
 hm : m0 ≤ W.heap.size
 out : Kd.S k56 56 W m0 (fun k => some k ≠ vn.ownBlock ∧ some k ≠ vl.ownBlock) vo []
 ns : (Kd.int .i64).R 3 W w.heap.size (fun k => some k = vn.ownBlock) vn ns
 ls : (Kd.int .i64).R 3 W w.heap.size (fun k => some k = vl.ownBlock) vl ls
 nlt : ∀ k,some k = vn.ownBlock → k < m0
 lge : ∀ k,some k = vl.ownBlock → m0 ≤ k
theorem ImP1.start {w w2 W : World} {vn vl : Value} {ns ls : List Int} {bl : Nat} (hb1 : Below w.heap.size w w2) (hn : (Kd.int .i64).R 3 w2 w.heap.size (fun _ => True) vn ns) (hb : Below (w2.alloc (.cells #[] 56)).heap.size (w2.alloc (.cells #[] 56)) W) (hl : (Kd.int .i64).R 3 W bl (fun _ => True) vl ls) (hbl : (w2.alloc (.cells #[] 56)).heap.size ≤ bl) : ImP1 w2.heap.size w W (.slice (some ⟨w2.heap.size,0,none⟩) 0 0) vn vl ns ls:=by
 have hz : w2.heap.size < (w2.alloc (.cells #[] 56)).heap.size:=blk_lt (heap_alloc_new w2 _)
 refine ⟨below_step (below_alloc hb1 _) hb,hb1.size,Nat.le_trans (Nat.le_of_lt hz) hb.size,Kd.S_mono (Kd.S_below (Kd.S_bound (S_lit0 k56 56 w2)) hb) (fun k hk => ⟨fun e => ?_,fun e => ?_⟩),Kd.R_below (Kd.R_alloc (Kd.R_tight rfl hn) _) hb,Kd.R_lower (Kd.R_tight rfl hl) (Nat.le_trans (Nat.le_trans hb1.size (Nat.le_of_lt hz)) hbl),fun k hk => Kd.R_lt hn k hk.symm,fun k hk => Nat.le_trans (Nat.le_of_lt hz) (Nat.le_trans hbl (Kd.R_base hl k hk.symm))⟩
 ·have h1:=Kd.R_lt hn k e.symm;have h2:=hk.2.1;omega
 ·have h1:=Kd.R_base hl k e.symm;have h2:=hk.2.2.1;omega
theorem ImP1.put {m0 : Nat} {w W : World} {vo vn vl : Value} {ns ls : List Int} (h : ImP1 m0 w W vo vn vl ns ls) (i : Int) (h0 : 0 ≤ i) (h1 : i < ns.length) (x : Int) : ∃ g c,vn = .slice (some ⟨g,0,none⟩) ns.length c ∧ W.cell? ⟨g,i.toNat,none⟩ = some (.int .i64 (rd ns i)) ∧ W.frozen? ⟨g,i.toNat,none⟩ = false ∧ ImP1 m0 w (W.setCell ⟨g,i.toNat,none⟩ (.int .i64 x)) vo vn vl (ns.set i.toNat x) ls:=by
 obtain ⟨g,c,hv,hbg,_,_⟩:=Kd.R_form h.ns (by omega)
 have hE:=h.ns
 rw [hv] at hE
 obtain ⟨hc,hf⟩:=Kd.R_celln (0 : Int) hE i h0 h1
 obtain ⟨hp,hg⟩:=Kd.R_putg hE i x
 have hgm : g < m0:=h.nlt g (by rw [hv];rfl)
 refine ⟨g,c,hv,hc,hf,⟨h.below.setCell hbg _,h.h0,Nat.le_trans h.hm (by simp [World.setCell]),Kd.S_far (p:=⟨g,i.toNat,none⟩) h.out (fun k hk e => hk.1 (by rw [hv];exact congrArg some e)) _,?_,Kd.R_far (p:=⟨g,i.toNat,none⟩) h.ls (fun k hk e => by have:=h.lge k hk;have e' : k = g:=e;omega) _,h.nlt,h.lge⟩⟩
 rw [hv]
 have:=hp
 rw [hv] at *
 exact this
/-- The block in a variable is filled. -/
theorem ImTrInv.boxed {b B : Nat} {w W W' : World} {gb : Nat} {vo vn vl v0 v3 : Value} {out : List S56} {ns ls : List Int} {code : List S79} {go tst : Int} {nx : List Int} (h : ImTrInv b B w W vo vn vl out ns ls) (hb : Below W.heap.size W W') (h0 : k79.R 79 W' W.heap.size (fun _ => True) v0 code) (h3 : (Kd.int .i64).R 3 W' W.heap.size (fun _ => True) v3 nx) (hgb : W.heap.size ≤ gb) (hbx : W'.heap[gb]? = some (.cells #[.slice none 0 0,.int .i64 0,.int .i64 0,.slice none 0 0] 56 (0,0))) :
  ImTrIn b B w ((((W'.setCell ⟨gb,0,none⟩ v0).setCell ⟨gb,1,none⟩ (.int .i64 go)).setCell ⟨gb,2,none⟩ (.int .i64 tst)).setCell ⟨gb,3,none⟩ v3) W.heap.size gb vo vn vl v0 v3 out ns ls code go tst nx:=by
 have g0:=Kd.R_types h0 hbx (by decide)
 have g3:=Kd.R_types h3 hbx (by decide)
 refine h.start ((((hb.setCell hgb _).setCell hgb _).setCell hgb _).setCell hgb _) (ok0:=fun k => True ∧ k ≠ gb) (ok3:=fun k => True ∧ k ≠ gb) ?_ ?_ gb hgb ?_
 ·exact Kd.R_far (p:=⟨gb,3,none⟩) (Kd.R_far (p:=⟨gb,2,none⟩) (Kd.R_far (p:=⟨gb,1,none⟩) (Kd.R_far (p:=⟨gb,0,none⟩) g0 (fun _ hk => hk.2) _) (fun _ hk => hk.2) _) (fun _ hk => hk.2) _) (fun _ hk => hk.2) _
 ·exact Kd.R_far (p:=⟨gb,3,none⟩) (Kd.R_far (p:=⟨gb,2,none⟩) (Kd.R_far (p:=⟨gb,1,none⟩) (Kd.R_far (p:=⟨gb,0,none⟩) g3 (fun _ hk => hk.2) _) (fun _ hk => hk.2) _) (fun _ hk => hk.2) _) (fun _ hk => hk.2) _
 ·exact blk_put (blk_put (blk_put (blk_put hbx 0 v0 rfl) 1 (.int .i64 go) rfl) 2 (.int .i64 tst) rfl) 3 v3 rfl
mutual
def impl_trim.l1 : Nat → List S56 → List Int → List Int → List S56 → Int → Option (List S56 × List Int)
 | 0,_,_,_,_,_ => none
 | k + 1,f,rs,ns,out,i => if i < (rs.length : Int) then (if 0 ≤ i then (if 0 ≤ rd rs i then (if rd rs i < (f.length : Int) then ((slices_Clone_impl_Flat.f (rd_T56 f (rd rs i)).f0).bind fun c => (slices_Clone_int_int.f (rd_T56 f (rd rs i)).f3).bind fun nx => (impl_trim.l2 k f rs ns out i c (rd_T56 f (rd rs i)).f1 (rd_T56 f (rd rs i)).f2 nx 0)) else none) else none) else none) else some (out,ns)
def impl_trim.l2 : Nat → List S56 → List Int → List Int → List S56 → Int → List S79 → Int → Int → List Int → Int → Option (List S56 × List Int)
 | 0,_,_,_,_,_,_,_,_,_,_ => none
 | k + 1,f,rs,ns,out,i,code,go,tst,nx,j => if j < (nx.length : Int) then (if 0 ≤ j then (if 0 ≤ rd nx j then (if rd nx j < (ns.length : Int) then (impl_trim.l2 k f rs ns out i code go tst (nx.set j.toNat (rd ns (rd nx j))) (wrap64 (j + 1))) else none) else none) else none) else (if out.length < 2199023255551 then (impl_trim.l1 k f rs ns (out ++ [⟨code,go,tst,nx⟩]) (wrap64 (i + 1))) else none)
end
def impl_trim.l0 : Nat → List S56 → List Int → List Int → Int → Option (List S56 × List Int)
 | 0,_,_,_,_ => none
 | k + 1,f,rs,ns,i => if i < (rs.length : Int) then (if 0 ≤ i then (if 0 ≤ rd rs i then (if rd rs i < (ns.length : Int) then (impl_trim.l0 k f rs (ns.set (rd rs i).toNat i) (wrap64 (i + 1))) else none) else none) else none) else (impl_trim.l1 k f rs ns [] 0)
def impl_trim.f (k : Nat) (f : List S56) : Option (List S56 × List Int):=(slices_Repeat_int_int.f [-1] (f.length : Int)).bind fun ns => (impl_nexts.f k f).bind fun a => (impl_reach.f k a 0 []).bind fun b => (impl_listOf.f k b).bind fun rs => (impl_trim.l0 k f rs ns 0)
theorem impl_trim.mono_l : ∀ k,(∀ y0 y1 y2 y3 y4,LeO (impl_trim.l1 k y0 y1 y2 y3 y4) (impl_trim.l1 (k + 1) y0 y1 y2 y3 y4)) ∧ (∀ y0 y1 y2 y3 y4 y5 y6 y7 y8 y9,LeO (impl_trim.l2 k y0 y1 y2 y3 y4 y5 y6 y7 y8 y9) (impl_trim.l2 (k + 1) y0 y1 y2 y3 y4 y5 y6 y7 y8 y9))
 | 0 => ⟨fun _ _ _ _ _ r h => by simp [impl_trim.l1] at h,fun _ _ _ _ _ _ _ _ _ _ r h => by simp [impl_trim.l2] at h⟩
 | k + 1 => by
  obtain ⟨ih1,ih2⟩:=impl_trim.mono_l k
  refine ⟨?_,?_⟩
  ·intro y0 y1 y2 y3 y4
   unfold impl_trim.l1
   repeat' first
    | (with_reducible exact ih2 _ _ _ _ _ _ _ _ _ _)
    | (with_reducible exact LeO.refl _)
    | (with_reducible exact LeO.none _)
    | (with_reducible refine LeO.ite ?_ ?_)
    | (with_reducible refine LeO.bind ?_ (fun _ => ?_))
  ·intro y0 y1 y2 y3 y4 y5 y6 y7 y8 y9
   unfold impl_trim.l2
   repeat' first
    | (with_reducible exact ih2 _ _ _ _ _ _ _ _ _ _)
    | (with_reducible exact ih1 _ _ _ _ _)
    | (with_reducible exact LeO.refl _)
    | (with_reducible exact LeO.none _)
    | (with_reducible refine LeO.ite ?_ ?_)
    | (with_reducible refine LeO.bind ?_ (fun _ => ?_))
theorem impl_trim.mono_0 : ∀ k,(∀ y0 y1 y2 y3,LeO (impl_trim.l0 k y0 y1 y2 y3) (impl_trim.l0 (k + 1) y0 y1 y2 y3))
 | 0 => fun _ _ _ _ r h => by simp [impl_trim.l0] at h
 | k + 1 => by
  have ih0:=impl_trim.mono_0 k
  have ih1:=(impl_trim.mono_l k).1
  intro y0 y1 y2 y3
  unfold impl_trim.l0
  repeat' first
    | (with_reducible exact ih0 _ _ _ _)
    | (with_reducible exact ih1 _ _ _ _ _)
    | (with_reducible exact LeO.refl _)
    | (with_reducible exact LeO.none _)
    | (with_reducible refine LeO.ite ?_ ?_)
    | (with_reducible refine LeO.bind ?_ (fun _ => ?_))
theorem impl_trim.mono : ∀ a0 k,LeO (impl_trim.f k a0) (impl_trim.f (k + 1) a0):=fun _ k => LeO.bind (LeO.refl _) (fun _ => LeO.bind (impl_nexts.mono _ _) (fun _ => LeO.bind (impl_reach.mono _ _ _ _) (fun _ => LeO.bind (impl_listOf.mono _ _) (fun _ => impl_trim.mono_0 k _ _ _ _))))
set_option maxHeartbeats 8000000 in
set_option maxRecDepth 100000 in
theorem impl_trim.calls (k : Nat) (A0 : Option Addr) (c0 : Nat) (l0 : List S56) (r1 : List S56) (r2 : List Int) (w : World) (hr0 : Kd.C k56 w A0 l0.length l0) (hc0 : l0.length ≤ c0) (h : impl_trim.f k l0 = some (r1,r2)) :
  Calls Try.prog 55 #[.slice A0 l0.length c0] w fun e w' => ∃ (v0_ v1_ : Value) (m_ : Nat),e = .returned (.tuple #[v0_,v1_]) ∧ w.heap.size ≤ m_ ∧ m_ ≤ w'.heap.size ∧ Kd.S k56 56 w' m_ (fun _ => True) v0_ r1 ∧ Kd.R (Kd.int .i64) 3 w' w.heap.size (fun k_ => k_ < m_) v1_ r2 ∧ Below w.heap.size w w':=by
 have hu56:=Try.underlying56
 have HR0:=Aside0.mk hr0
 have HC0:=Aside0.mk hc0
 clear hr0 hc0
 unfold impl_trim.f at h
 obtain ⟨nn,A1,H⟩:=Option.bind_eq_some_iff.mp h
 obtain ⟨a,A2,H⟩:=Option.bind_eq_some_iff.mp H
 obtain ⟨bb,A3,H⟩:=Option.bind_eq_some_iff.mp H
 obtain ⟨rs,A4,H⟩:=Option.bind_eq_some_iff.mp H
 have X1:=Aside0.mk A1
 have X2:=Aside0.mk A2
 have X3:=Aside0.mk A3
 have X4:=Aside0.mk A4
 have H':=Aside0.mk H
 clear h A1 A2 A3 A4 H
 go_enter Try.func55,Try.ntmps55
 go_wp2_with (first | (go_at_call 81;(refine (slices_Repeat_int_int.calls _ 1 [-1] (l0.length : Int) nn _ (C_lit1 w 3 (-1)) (Nat.le_refl _) X1.out).mono ?_);rintro e w2 ⟨vn,rfl,ho,hb⟩;obtain ⟨n0,HNL⟩ : ∃ n0,Aside0 (n0 = nn.length):=⟨_,⟨rfl⟩⟩;obtain ⟨An,cn,en⟩:=Kd.R_slice ho;rw [← HNL.out] at en;subst en;have HB1:=Aside0.mk (below_step (below_alloc (Below.refl w.heap.size w) _) hb);have HB2:=Aside0.mk (below_alloc HB1.out (.cells #[] 56));have HN:=Aside0.mk (Kd.R_lower ho (below_alloc (Below.refl w.heap.size w) (.cells #[.int .i64 (-1)] 3)).size);clear ho hb) | (go_at_call 47;(refine (impl_nexts.calls k (fun k_ => k_ < w.heap.size) _ _ l0 a _ (Kd.V_mk HC0.out (Kd.F_below (Kd.C_F k56_heap HR0.out) HB2.out)) X2.out).mono ?_);rintro e w3 ⟨v3,rfl,ho,hb⟩;obtain ⟨A3,c3,e3⟩:=Kd.N_slice ho;subst e3;have HA:=Aside0.mk (Kd.N_reads' ho);have HB3:=Aside0.mk hb;clear ho hb) | (go_at_call 51;(refine (impl_reach.calls k A3 c3 a 0 none 0 [] bb _ HA.out.2.2 HA.out.2.1 (by first | exact Kd.C_nil _ _ | exact (Kd.R_reads' (Kd.R_nil _ 3 _ 0 (fun _ => True))).2.2) (Nat.le_refl _) X3.out).mono ?_);rintro e w4 ⟨v4,rfl,ho,hb⟩;obtain ⟨A4,c4,e4⟩:=Kd.R_slice ho;subst e4;have HBo:=Aside0.mk (Kd.R_reads' ho);have HB4:=Aside0.mk (below_step HB3.out hb);clear ho hb) | (go_at_call 50;(refine (impl_listOf.calls k A4 c4 bb rs _ HBo.out.2.2 HBo.out.2.1 X4.out).mono ?_);rintro e w5 ⟨v5,rfl,ho,hb⟩;obtain ⟨Al,cl,el⟩:=Kd.R_slice ho;subst el;have HI:=Aside0.mk (ImP1.start HB1.out HN.out (below_step HB4.out hb) ho HB4.out.size);clear ho hb))
 go_loopg [25] k (fun kq v25 w' => ∃ (ns : List Int) (i : Int),v25 = .int .i64 i ∧ Aside0 (impl_trim.l0 kq l0 rs ns i = some (r1,r2)) ∧ Aside0 (kq ≤ k) ∧ Aside0 (n0 = ns.length) ∧ Aside0 (ImP1 w2.heap.size w w' (.slice (some ⟨w2.heap.size,0,none⟩) 0 0) (.slice An n0 cn) (.slice Al rs.length cl) ns rs))
 case atStart => exact ⟨nn,0,rfl,H',⟨Nat.le_refl _⟩,HNL,HI⟩
 case round =>
  clear H' HI HNL HN
  obtain ⟨ns,i,rfl,HA1,HK1,HNL,HI⟩:=hrel
  cases gk with
  | zero => exact absurd HA1.out (by simp [impl_trim.l0])
  | succ k1 =>
   have H:=HA1.out
   clear HA1
   simp only [impl_trim.l0] at H
   by_cases c3 : i < (rs.length : Int)
   ·rw [if_pos c3] at H
    by_cases c4 : 0 ≤ i
    rotate_left
    ·rw [if_neg c4] at H;exact absurd H (by simp)
    rw [if_pos c4] at H
    by_cases c5 : 0 ≤ rd rs i
    rotate_left
    ·rw [if_neg c5] at H;exact absurd H (by simp)
    rw [if_pos c5] at H
    by_cases c6 : rd rs i < (ns.length : Int)
    rotate_left
    ·rw [if_neg c6] at H;exact absurd H (by simp)
    rw [if_pos c6] at H
    have H':=Aside0.mk H
    obtain ⟨kk,hkk⟩ : ∃ kk,kk = rd rs i:=⟨_,rfl⟩
    have hrr:=Kd.R_reads' HI.out.ls
    obtain ⟨adr,e1,hx1⟩:=Kd.at_int hrr.2.2 i c4 c3
    cases e1
    rw [← hkk] at c5 c6 hx1 H'
    obtain ⟨g4,c4',hv4,hy1,hf1,hput⟩:=HI.out.put kk c5 c6 i
    injection hv4 with hv4 hv4a hv4b
    clear hv4a hv4b
    subst hv4
    have HP:=Aside0.mk hput
    have c6n : kk < (n0 : Int):=by have:=HNL.out;omega
    have c3b0 : decide (i < (rs.length : Int)) = true:=decide_eq_true c3
    have c4b0 : decide (0 ≤ i) = true:=decide_eq_true c4
    have c5b0 : decide (0 ≤ kk) = true:=decide_eq_true c5
    have c6b0 : decide (kk < (n0 : Int)) = true:=decide_eq_true c6n
    have p3:=eq_true c3
    have p4:=eq_true c4
    have p5:=eq_true c5
    have p6:=eq_true c6n
    have HLN2:=Aside0.mk (show n0 = (ns.set kk.toNat i).length by rw [List.length_set];exact HNL.out)
    clear H hput hrr c3 c4 c5 c6 c6n hkk HI HNL
    go_wp2
    go_roundg k1
    case measure => have:=HK1.out;omega
    case rel => exact ⟨_,_,rfl,H',⟨by have:=HK1.out;omega⟩,HLN2,⟨by first | exact HP.out | exact HP.out.drewN _⟩⟩
   rw [if_neg c3] at H
   have H':=Aside0.mk H
   have c3b0 : decide (i < (rs.length : Int)) = false:=decide_eq_false c3
   clear H c3
   go_wp2
   have hnl:=HNL.out
   clear HNL
   subst hnl
   obtain ⟨wz,hwz⟩ : ∃ wz : World,wz = wr:=⟨_,rfl⟩
   have HBz:=Aside0.mk (show Below w.heap.size w wz from hwz ▸ HI.out.below)
   have HM0:=Aside0.mk HI.out.h0
   have HNL:=Aside0.mk (show ∀ k_,some k_ = (.slice An ns.length cn : Value).ownBlock → k_ < w2.heap.size from HI.out.nlt)
   have HI0:=Aside0.mk (show ImTrInv w.heap.size w2.heap.size wz wr (.slice (some ⟨w2.heap.size,0,none⟩) 0 0) (.slice An ns.length cn) (.slice Al rs.length cl) [] ns rs from ⟨by rw [hwz];exact Below.refl _ _,HI.out.hm,HI.out.out,HI.out.ns,HI.out.ls⟩)
   clear hwz HI
   go_loopg [5,37] k1 (fun kq v5 v37 w' => ∃ (out : List S56) (i : Int),v37 = .int .i64 i ∧ Aside0 (impl_trim.l1 kq l0 rs ns out i = some (r1,r2)) ∧ Aside0 (kq ≤ k1) ∧ Aside0 (ImTrInv w.heap.size w2.heap.size wz w' v5 (.slice An ns.length cn) (.slice Al rs.length cl) out ns rs))
   case atStart => exact ⟨_,0,rfl,H',⟨Nat.le_refl _⟩,HI0⟩
   case round =>
    clear H' HI0
    obtain ⟨out,i,rfl,HA,HKB,HI⟩:=hrel
    cases gk with
    | zero => exact absurd HA.out (by simp [impl_trim.l1])
    | succ kb =>
     have H:=HA.out
     clear HA
     simp only [impl_trim.l1] at H
     obtain ⟨Ao,co,eo⟩:=Kd.S_slice HI.out.out
     subst eo
     by_cases c3 : i < (rs.length : Int)
     rotate_left
     ·rw [if_neg c3] at H
      simp only [Option.some.injEq,Prod.mk.injEq] at H
      obtain ⟨rfl,rfl⟩:=H
      have c3b0 : decide (i < (rs.length : Int)) = false:=decide_eq_false c3
      clear c3
      go_wp2
      go_ret2
      exact ⟨_,_,w2.heap.size,rfl,HM0.out,HI.out.hBW,Kd.S_mono HI.out.out (fun _ _ => trivial),Kd.R_mono HI.out.ns (fun k_ e_ => HNL.out k_ e_),ImTr_weak HBz.out HM0.out HI.out.below⟩
     rw [if_pos c3] at H
     by_cases c4 : 0 ≤ i
     rotate_left
     ·rw [if_neg c4] at H;exact absurd H (by simp)
     rw [if_pos c4] at H
     by_cases c5 : 0 ≤ rd rs i
     rotate_left
     ·rw [if_neg c5] at H;exact absurd H (by simp)
     rw [if_pos c5] at H
     by_cases c6 : rd rs i < (l0.length : Int)
     rotate_left
     ·rw [if_neg c6] at H;exact absurd H (by simp)
     rw [if_pos c6] at H
     obtain ⟨kk,hkk⟩ : ∃ kk,kk = rd rs i:=⟨_,rfl⟩
     have hrr:=Kd.R_reads' HI.out.ls
     obtain ⟨adr,e1,hx1⟩:=Kd.at_int hrr.2.2 i c4 c3
     cases e1
     rw [← hkk] at H c5 c6 hx1
     obtain ⟨ad2,A0_,c0_,A3_,c3_,e2,hx00,hx10,hx20,hx30,hl0,hc0,hl3,hc3⟩:=at_T56 HR0.out kk c5 c6
     cases e2
     obtain ⟨xs,hxs⟩ : ∃ xs,xs = rd_T56 l0 kk:=⟨_,rfl⟩
     rw [← hxs] at H hx00 hx10 hx20 hx30 hl0 hc0 hl3 hc3
     have HBW:=Aside0.mk (ImTr_weak HBz.out HM0.out HI.out.below)
     have hxa:=pw_cell_below HBW.out hx00
     have hxb:=pw_cell_below HBW.out hx10
     have hxc:=pw_cell_below HBW.out hx20
     have hxd:=pw_cell_below HBW.out hx30
     have HL0_:=Aside0.mk hl0
     have HC0_:=Aside0.mk hc0
     have HL3_:=Aside0.mk hl3
     have HC3_:=Aside0.mk hc3
     obtain ⟨go,hgo⟩ : ∃ go,go = xs.f1:=⟨_,rfl⟩
     obtain ⟨tst,htst⟩ : ∃ tst,tst = xs.f2:=⟨_,rfl⟩
     rw [← hgo,← htst] at H
     rw [← hgo] at hxb
     rw [← htst] at hxc
     obtain ⟨code,B1,H⟩:=Option.bind_eq_some_iff.mp H
     obtain ⟨nx,B2,H⟩:=Option.bind_eq_some_iff.mp H
     have B:=Aside0.mk B1
     have C:=Aside0.mk B2
     have H':=Aside0.mk H
     have HXA:=Aside0.mk hxa
     have HXB:=Aside0.mk hxb
     have HXC:=Aside0.mk hxc
     have HXD:=Aside0.mk hxd
     clear B1 B2 H hgo htst
     have c3b0 : decide (i < (rs.length : Int)) = true:=decide_eq_true c3
     have c4b0 : decide (0 ≤ i) = true:=decide_eq_true c4
     have c5b0 : decide (0 ≤ kk) = true:=decide_eq_true c5
     have c6b0 : decide (kk < (l0.length : Int)) = true:=decide_eq_true c6
     have p3:=eq_true c3
     have p4:=eq_true c4
     have p5:=eq_true c5
     have p6:=eq_true c6
     clear hrr c3 c4 c5 c6 hkk hxs hx00 hx10 hx20 hx30 hl0 hc0 hl3 hc3
     clear hxa hxb hxc hxd
     go_upto_region 11 with (fail)
     go_cut [11] (fun v11 wd => ∃ (m gb : Nat) (Ac A3n : Option Addr) (cc c3n : Nat),v11 = .pointer (some ⟨gb,0,none⟩) ∧ Aside0 (ImTrIn w.heap.size w2.heap.size wz wd m gb (.slice Ao out.length co) (.slice An ns.length cn) (.slice (some adr) rs.length cl) (.slice Ac code.length cc) (.slice A3n nx.length c3n) out ns rs code go tst nx))
     case first =>
      have HB0:=Aside0.mk (show Below wr.heap.size wr wr.drew from below_drew (Below.refl _ _))
      refine start_ (n:=25) (S:=fun w' => w'.cell? (ad2.add (kk.toNat * 4)) = some (.slice A0_ xs.f0.length c0_) ∧ w'.cell? ⟨(ad2.add (kk.toNat * 4)).block,(ad2.add (kk.toNat * 4)).off + 1,none⟩ = some (.int .i64 go) ∧ w'.cell? ⟨(ad2.add (kk.toNat * 4)).block,(ad2.add (kk.toNat * 4)).off + 2,none⟩ = some (.int .i64 tst) ∧ w'.cell? ⟨(ad2.add (kk.toNat * 4)).block,(ad2.add (kk.toNat * 4)).off + 3,none⟩ = some (.slice A3_ xs.f3.length c3_)) (ds:=[24]) #[false,false,false,false,false,false,false,false,false,false,false,false,false,false,false,false,false,false,false,false,false,false,false,false,false] (by kernel_rfl) rfl rfl ?_ (fun hHeld => ?_)
      ·exact ⟨pw_cell_below HB0.out HXA.out,pw_cell_below HB0.out HXB.out,pw_cell_below HB0.out HXC.out,pw_cell_below HB0.out HXD.out⟩
      generalize hw8 : World.drew wr = w8 at HB0 hHeld ⊢
      clear hw8
      refine pure_ (i:=0) (N:=some 41) (v:=?_) (a':=?_) #[true,false,false,false,false,false,false,false,false,false,false,false,false,false,false,false,false,false,false,false,false,false,false,false,false] rfl rfl (by kernel_rfl) (fun _ _ _ h => h) (Or.inl ⟨by rfl,?_⟩) ?_ ?_
      rotate_left
      ·intro w'
       go_simp
       with_reducible rfl
      rotate_left
      ·simp only [Act.put,List.setIfInBounds_toArray,List.set_cons_zero,List.set_cons_succ,i64_w,i32_w]
       rfl
      refine pure_ (i:=1) (N:=some 42) (v:=?_) (a':=?_) #[true,true,false,false,false,false,false,false,false,false,false,false,false,false,false,false,false,false,false,false,false,false,false,false,false] rfl rfl (by kernel_rfl) (fun _ _ _ h => h) (Or.inl ⟨by rfl,?_⟩) ?_ ?_
      rotate_left
      ·intro w'
       go_simp
       with_reducible rfl
      rotate_left
      ·simp only [Act.put,List.setIfInBounds_toArray,List.set_cons_zero,List.set_cons_succ,i64_w,i32_w]
       rfl
      refine pure_ (i:=2) (N:=some 43) (v:=?_) (a':=?_) #[true,true,true,false,false,false,false,false,false,false,false,false,false,false,false,false,false,false,false,false,false,false,false,false,false] rfl rfl (by kernel_rfl) (fun _ _ _ h => h) (Or.inl ⟨by rfl,?_⟩) ?_ ?_
      rotate_left
      ·intro w'
       go_simp
       with_reducible rfl
      rotate_left
      ·simp only [Act.put,List.setIfInBounds_toArray,List.set_cons_zero,List.set_cons_succ,i64_w,i32_w]
       rfl
      refine pure_ (i:=3) (N:=some 44) (v:=?_) (a':=?_) #[true,true,true,true,false,false,false,false,false,false,false,false,false,false,false,false,false,false,false,false,false,false,false,false,false] rfl rfl (by kernel_rfl) (fun _ _ _ h => h) (Or.inl ⟨by rfl,?_⟩) ?_ ?_
      rotate_left
      ·intro w'
       go_simp
       with_reducible rfl
      rotate_left
      ·simp only [Act.put,List.setIfInBounds_toArray,List.set_cons_zero,List.set_cons_succ,i64_w,i32_w]
       rfl
      refine pure_ (i:=6) (N:=some 47) (v:=?_) (a':=?_) #[true,true,true,true,false,false,true,false,false,false,false,false,false,false,false,false,false,false,false,false,false,false,false,false,false] rfl rfl (by kernel_rfl) (fun _ _ _ h => h) (Or.inl ⟨by rfl,?_⟩) ?_ ?_
      rotate_left
      ·intro w'
       go_simp
       with_reducible rfl
      rotate_left
      ·simp only [Act.put,List.setIfInBounds_toArray,List.set_cons_zero,List.set_cons_succ,i64_w,i32_w]
       rfl
      refine pure_ (i:=7) (N:=some 48) (v:=?_) (a':=?_) #[true,true,true,true,false,false,true,true,false,false,false,false,false,false,false,false,false,false,false,false,false,false,false,false,false] rfl rfl (by kernel_rfl) (fun _ _ _ h => h) (Or.inl ⟨by rfl,?_⟩) ?_ ?_
      rotate_left
      ·intro w'
       go_simp
       with_reducible rfl
      rotate_left
      ·simp only [Act.put,List.setIfInBounds_toArray,List.set_cons_zero,List.set_cons_succ,i64_w,i32_w]
       rfl
      refine pure_ (i:=8) (N:=some 49) (v:=?_) (a':=?_) #[true,true,true,true,false,false,true,true,true,false,false,false,false,false,false,false,false,false,false,false,false,false,false,false,false] rfl rfl (by kernel_rfl) (fun _ _ _ h => h) (Or.inl ⟨by rfl,?_⟩) ?_ ?_
      rotate_left
      ·intro w'
       go_simp
       with_reducible rfl
      rotate_left
      ·simp only [Act.put,List.setIfInBounds_toArray,List.set_cons_zero,List.set_cons_succ,i64_w,i32_w]
       rfl
      refine pure_ (i:=9) (N:=some 50) (v:=?_) (a':=?_) #[true,true,true,true,false,false,true,true,true,true,false,false,false,false,false,false,false,false,false,false,false,false,false,false,false] rfl rfl (by kernel_rfl) (fun _ _ _ h => h) (Or.inl ⟨by rfl,?_⟩) ?_ ?_
      rotate_left
      ·intro w'
       go_simp
       with_reducible rfl
      rotate_left
      ·simp only [Act.put,List.setIfInBounds_toArray,List.set_cons_zero,List.set_cons_succ,i64_w,i32_w]
       rfl
      refine pure_ (i:=11) (N:=some 52) (v:=?_) (a':=?_) #[true,true,true,true,false,false,true,true,true,true,false,true,false,false,false,false,false,false,false,false,false,false,false,false,false] rfl rfl (by kernel_rfl) (fun _ _ _ h => h) (Or.inl ⟨by rfl,?_⟩) ?_ ?_
      rotate_left
      ·intro w'
       go_simp
       with_reducible rfl
      rotate_left
      ·simp only [Act.put,List.setIfInBounds_toArray,List.set_cons_zero,List.set_cons_succ,i64_w,i32_w]
       rfl
      refine pure_ (i:=12) (N:=some 53) (v:=?_) (a':=?_) #[true,true,true,true,false,false,true,true,true,true,false,true,true,false,false,false,false,false,false,false,false,false,false,false,false] rfl rfl (by kernel_rfl) (fun _ _ _ h => h) (Or.inl ⟨by rfl,?_⟩) ?_ ?_
      rotate_left
      ·intro w'
       go_simp
       with_reducible rfl
      rotate_left
      ·simp only [Act.put,List.setIfInBounds_toArray,List.set_cons_zero,List.set_cons_succ,i64_w,i32_w]
       rfl
      refine pure_ (i:=13) (N:=some 54) (v:=?_) (a':=?_) #[true,true,true,true,false,false,true,true,true,true,false,true,true,true,false,false,false,false,false,false,false,false,false,false,false] rfl rfl (by kernel_rfl) (fun _ _ _ h => h) (Or.inl ⟨by rfl,?_⟩) ?_ ?_
      rotate_left
      ·intro w'
       go_simp
       with_reducible rfl
      rotate_left
      ·simp only [Act.put,List.setIfInBounds_toArray,List.set_cons_zero,List.set_cons_succ,i64_w,i32_w]
       rfl
      refine pure_ (i:=14) (N:=some 55) (v:=?_) (a':=?_) #[true,true,true,true,false,false,true,true,true,true,false,true,true,true,true,false,false,false,false,false,false,false,false,false,false] rfl rfl (by kernel_rfl) (fun _ _ _ h => h) (Or.inl ⟨by rfl,?_⟩) ?_ ?_
      rotate_left
      ·intro w'
       go_simp
       with_reducible rfl
      rotate_left
      ·simp only [Act.put,List.setIfInBounds_toArray,List.set_cons_zero,List.set_cons_succ,i64_w,i32_w]
       rfl
      refine pure_ (i:=16) (N:=some 57) (v:=?_) (a':=?_) #[true,true,true,true,false,false,true,true,true,true,false,true,true,true,true,false,true,false,false,false,false,false,false,false,false] rfl rfl (by kernel_rfl) (fun _ _ _ h => h) (Or.inl ⟨by rfl,?_⟩) ?_ ?_
      rotate_left
      ·intro w'
       go_simp
       with_reducible rfl
      rotate_left
      ·simp only [Act.put,List.setIfInBounds_toArray,List.set_cons_zero,List.set_cons_succ,i64_w,i32_w]
       rfl
      refine pure_ (i:=17) (N:=some 58) (v:=?_) (a':=?_) #[true,true,true,true,false,false,true,true,true,true,false,true,true,true,true,false,true,true,false,false,false,false,false,false,false] rfl rfl (by kernel_rfl) (fun _ _ _ h => h) (Or.inl ⟨by rfl,?_⟩) ?_ ?_
      rotate_left
      ·intro w'
       go_simp
       with_reducible rfl
      rotate_left
      ·simp only [Act.put,List.setIfInBounds_toArray,List.set_cons_zero,List.set_cons_succ,i64_w,i32_w]
       rfl
      refine pure_ (i:=18) (N:=some 59) (v:=?_) (a':=?_) #[true,true,true,true,false,false,true,true,true,true,false,true,true,true,true,false,true,true,true,false,false,false,false,false,false] rfl rfl (by kernel_rfl) (fun _ _ _ h => h) (Or.inl ⟨by rfl,?_⟩) ?_ ?_
      rotate_left
      ·intro w'
       go_simp
       with_reducible rfl
      rotate_left
      ·simp only [Act.put,List.setIfInBounds_toArray,List.set_cons_zero,List.set_cons_succ,i64_w,i32_w]
       rfl
      refine pure_ (i:=19) (N:=some 60) (v:=?_) (a':=?_) #[true,true,true,true,false,false,true,true,true,true,false,true,true,true,true,false,true,true,true,true,false,false,false,false,false] rfl rfl (by kernel_rfl) (fun _ _ _ h => h) (Or.inl ⟨by rfl,?_⟩) ?_ ?_
      rotate_left
      ·intro w'
       go_simp
       with_reducible rfl
      rotate_left
      ·simp only [Act.put,List.setIfInBounds_toArray,List.set_cons_zero,List.set_cons_succ,i64_w,i32_w]
       rfl
      refine take_ (i:=4) (N:=some 45) (v:=?_) (a':=?_) #[true,true,true,true,true,false,true,true,true,true,false,true,true,true,true,false,true,true,true,true,false,false,false,false,false] rfl rfl (by kernel_rfl) (fun _ _ _ h => h) (Or.inl ⟨by rfl,?_⟩) hHeld ?_ ?_
      rotate_left
      ·rintro w' ⟨s0,s1,s2,s3⟩
       go_simp
       with_reducible rfl
      rotate_left
      ·simp only [Act.put,List.setIfInBounds_toArray,List.set_cons_zero,List.set_cons_succ,i64_w,i32_w]
       rfl
      refine take_ (i:=10) (N:=some 51) (v:=?_) (a':=?_) #[true,true,true,true,true,false,true,true,true,true,true,true,true,true,true,false,true,true,true,true,false,false,false,false,false] rfl rfl (by kernel_rfl) (fun _ _ _ h => h) (Or.inl ⟨by rfl,?_⟩) hHeld ?_ ?_
      rotate_left
      ·rintro w' ⟨s0,s1,s2,s3⟩
       go_simp
       with_reducible rfl
      rotate_left
      ·simp only [Act.put,List.setIfInBounds_toArray,List.set_cons_zero,List.set_cons_succ,i64_w,i32_w]
       rfl
      refine take_ (i:=15) (N:=some 56) (v:=?_) (a':=?_) #[true,true,true,true,true,false,true,true,true,true,true,true,true,true,true,true,true,true,true,true,false,false,false,false,false] rfl rfl (by kernel_rfl) (fun _ _ _ h => h) (Or.inl ⟨by rfl,?_⟩) hHeld ?_ ?_
      rotate_left
      ·rintro w' ⟨s0,s1,s2,s3⟩
       go_simp
       with_reducible rfl
      rotate_left
      ·simp only [Act.put,List.setIfInBounds_toArray,List.set_cons_zero,List.set_cons_succ,i64_w,i32_w]
       rfl
      refine take_ (i:=20) (N:=some 61) (v:=?_) (a':=?_) #[true,true,true,true,true,false,true,true,true,true,true,true,true,true,true,true,true,true,true,true,true,false,false,false,false] rfl rfl (by kernel_rfl) (fun _ _ _ h => h) (Or.inl ⟨by rfl,?_⟩) hHeld ?_ ?_
      rotate_left
      ·rintro w' ⟨s0,s1,s2,s3⟩
       go_simp
       with_reducible rfl
      rotate_left
      ·simp only [Act.put,List.setIfInBounds_toArray,List.set_cons_zero,List.set_cons_succ,i64_w,i32_w]
       rfl
      refine two_ (i:=5) (j:=23) (Ni:=some 46) (Nj:=some 11) #[true,true,true,true,true,true,true,true,true,true,true,true,true,true,true,true,true,true,true,true,true,false,false,false,false] #[true,true,true,true,true,false,true,true,true,true,true,true,true,true,true,true,true,true,true,true,true,false,false,true,false] rfl rfl rfl rfl (by kernel_rfl) (by decide) (by decide) (fun K hK => ?_) (fun K hK => ?_)
      ·skip
       refine goes_ Try.func82 (by kernel_rfl) rfl #[.slice A0_ xs.f0.length c0_] (by rfl) rfl rfl (by simp only [List.map_toArray,List.map_cons,List.map_nil];rfl) ?_
       with_reducible refine (slices_Clone_impl_Flat.calls A0_ c0_ xs.f0 code _ (Kd.C_below HC0_.out (below_step HBW.out HB0.out)) HL0_.out B.out).mono ?_
       rintro e wv1 ⟨vx,rfl,ho,hb⟩
       obtain ⟨Ac,cc,ec⟩:=Kd.R_slice ho
       subst ec
       refine ⟨_,rfl,?_⟩
       have HR21:=Aside0.mk (show k79.R 79 wv1 wr.heap.size (fun _ => True) (.slice Ac code.length cc) code from Kd.R_lower ho HB0.out.size)
       have HB1:=Aside0.mk (show Below wr.heap.size wr wv1 from below_step HB0.out hb)
       clear ho hb
       refine hK.out _ _ ?_ (fun hHeld => ?_)
       ·exact ⟨pw_cell_below HB1.out HXA.out,pw_cell_below HB1.out HXB.out,pw_cell_below HB1.out HXC.out,pw_cell_below HB1.out HXD.out⟩
       clear hK K
       refine norm_ (a':=?_) ?_ ?_
       rotate_left
       ·show Act.put _ (some 46) _ = _
        simp only [Act.put,List.setIfInBounds_toArray,List.set_cons_zero,List.set_cons_succ,i64_w,i32_w]
        rfl
       refine two_ (i:=21) (j:=23) (Ni:=some 62) (Nj:=some 11) #[true,true,true,true,true,true,true,true,true,true,true,true,true,true,true,true,true,true,true,true,true,true,false,false,false] #[true,true,true,true,true,true,true,true,true,true,true,true,true,true,true,true,true,true,true,true,true,false,false,true,false] rfl rfl rfl rfl (by kernel_rfl) (by decide) (by decide) (fun K hK => ?_) (fun K hK => ?_)
       ·skip
        refine goes_ Try.func75 (by kernel_rfl) rfl #[.slice A3_ xs.f3.length c3_] (by rfl) rfl rfl (by simp only [List.map_toArray,List.map_cons,List.map_nil];rfl) ?_
        with_reducible refine (slices_Clone_int_int.calls A3_ c3_ xs.f3 nx _ (Kd.C_below HC3_.out (below_step HBW.out HB1.out)) HL3_.out C.out).mono ?_
        rintro e wv2 ⟨vx,rfl,ho,hb⟩
        obtain ⟨A3n,c3n,ec⟩:=Kd.R_slice ho
        subst ec
        refine ⟨_,rfl,?_⟩
        have HR42:=Aside0.mk (show (Kd.int .i64).R 3 wv2 wr.heap.size (fun _ => True) (.slice A3n nx.length c3n) nx from Kd.R_lower ho HB1.out.size)
        have HB2:=Aside0.mk (show Below wr.heap.size wr wv2 from below_step HB1.out hb)
        have HR22:=Aside0.mk (show k79.R 79 wv2 wr.heap.size (fun _ => True) (.slice Ac code.length cc) code from Kd.R_below HR21.out hb)
        clear ho hb
        refine hK.out _ _ ?_ (fun hHeld => ?_)
        ·exact ⟨pw_cell_below HB2.out HXA.out,pw_cell_below HB2.out HXB.out,pw_cell_below HB2.out HXC.out,pw_cell_below HB2.out HXD.out⟩
        clear hK K
        refine norm_ (a':=?_) ?_ ?_
        rotate_left
        ·show Act.put _ (some 62) _ = _
         simp only [Act.put,List.setIfInBounds_toArray,List.set_cons_zero,List.set_cons_succ,i64_w,i32_w]
         rfl
        refine pure_ (i:=22) (N:=some 63) (v:=?_) (a':=?_) #[true,true,true,true,true,true,true,true,true,true,true,true,true,true,true,true,true,true,true,true,true,true,true,false,false] rfl rfl (by kernel_rfl) (fun _ _ _ h => h) (Or.inl ⟨by rfl,?_⟩) ?_ ?_
        rotate_left
        ·intro w'
         go_simp
         with_reducible rfl
        rotate_left
        ·simp only [Act.put,List.setIfInBounds_toArray,List.set_cons_zero,List.set_cons_succ,i64_w,i32_w]
         rfl
        refine one_ (i:=23) (N:=some 11) #[true,true,true,true,true,true,true,true,true,true,true,true,true,true,true,true,true,true,true,true,true,true,true,true,false] rfl rfl (by kernel_rfl) (by decide) (fun K hK => ?_)
        refine value_ (w1:=?_) (v:=?_) (by rfl) rfl ?_ ?_
        rotate_left 2
        ·go_simp
         constructor
         ·rfl
         ·rfl
        obtain ⟨wv3,hwv⟩ : ∃ w_,w_ = wv2.alloc (.cells #[.slice none 0 0,.int .i64 0,.int .i64 0,.slice none 0 0] 56):=⟨_,rfl⟩
        rw [← hwv]
        have hb : Below wv2.heap.size wv2 wv3:=by rw [hwv];exact below_alloc (Below.refl _ _) _
        have HB3:=Aside0.mk (show Below wr.heap.size wr wv3 from below_step HB2.out hb)
        have HX3:=Aside0.mk (show wv3.heap[wv2.heap.size]? = some (.cells #[.slice none 0 0,.int .i64 0,.int .i64 0,.slice none 0 0] 56 (0,0)) by rw [hwv];exact heap_alloc_new _ _)
        have HR23:=Aside0.mk (show k79.R 79 wv3 wr.heap.size (fun _ => True) (.slice Ac code.length cc) code from Kd.R_below HR22.out hb)
        have HR43:=Aside0.mk (show (Kd.int .i64).R 3 wv3 wr.heap.size (fun _ => True) (.slice A3n nx.length c3n) nx from Kd.R_below HR42.out hb)
        clear hwv hb
        refine hK.out _ _ ?_ (fun hHeld => ?_)
        ·exact ⟨pw_cell_below HB3.out HXA.out,pw_cell_below HB3.out HXB.out,pw_cell_below HB3.out HXC.out,pw_cell_below HB3.out HXD.out⟩
        clear hK K
        refine norm_ (a':=?_) ?_ ?_
        rotate_left
        ·show Act.put _ (some 11) _ = _
         simp only [Act.put,List.setIfInBounds_toArray,List.set_cons_zero,List.set_cons_succ,i64_w,i32_w]
         rfl
        refine last_ (i:=24) (N:=none) #[true,true,true,true,true,true,true,true,true,true,true,true,true,true,true,true,true,true,true,true,true,true,true,true,true] rfl rfl (by kernel_rfl) (by decide) (fun K hK => ?_)
        have FIN:=HI.out.boxed (go:=go) (tst:=tst) HB3.out HR23.out HR43.out HB2.out.size HX3.out
        clear HI
        have hcs0:=((blk_cell HX3.out 0).trans rfl : wv3.cell? ⟨wv2.heap.size,0,none⟩ = some (.slice none 0 0))
        have hcs1:=((blk_cell HX3.out 1).trans rfl : wv3.cell? ⟨wv2.heap.size,1,none⟩ = some (.int .i64 0))
        have hcs2:=((blk_cell HX3.out 2).trans rfl : wv3.cell? ⟨wv2.heap.size,2,none⟩ = some (.int .i64 0))
        have hcs3:=((blk_cell HX3.out 3).trans rfl : wv3.cell? ⟨wv2.heap.size,3,none⟩ = some (.slice none 0 0))
        have hfs0:=blk_frozen HX3.out 0
        have hfs1:=blk_frozen HX3.out 1
        have hfs2:=blk_frozen HX3.out 2
        have hfs3:=blk_frozen HX3.out 3
        refine skip_ (w1:=?_) (by rfl) rfl ?_ ?_
        rotate_left
        ·go_simp
         rfl
        refine hK.out _ _ ?_
        clear hK K
        refine done_ (by kernel_rfl) ?_
        go_wp2
        go_meet
        exact ⟨_,_,_,_,_,_,rfl,⟨FIN⟩⟩
       ·skip
        refine value_ (w1:=?_) (v:=?_) (by rfl) rfl ?_ ?_
        rotate_left 2
        ·go_simp
         constructor
         ·rfl
         ·rfl
        obtain ⟨wv2,hwv⟩ : ∃ w_,w_ = wv1.alloc (.cells #[.slice none 0 0,.int .i64 0,.int .i64 0,.slice none 0 0] 56):=⟨_,rfl⟩
        rw [← hwv]
        have hb : Below wv1.heap.size wv1 wv2:=by rw [hwv];exact below_alloc (Below.refl _ _) _
        have HB2:=Aside0.mk (show Below wr.heap.size wr wv2 from below_step HB1.out hb)
        have HX2:=Aside0.mk (show wv2.heap[wv1.heap.size]? = some (.cells #[.slice none 0 0,.int .i64 0,.int .i64 0,.slice none 0 0] 56 (0,0)) by rw [hwv];exact heap_alloc_new _ _)
        have HR22:=Aside0.mk (show k79.R 79 wv2 wr.heap.size (fun _ => True) (.slice Ac code.length cc) code from Kd.R_below HR21.out hb)
        clear hwv hb
        refine hK.out _ _ ?_ (fun hHeld => ?_)
        ·exact ⟨pw_cell_below HB2.out HXA.out,pw_cell_below HB2.out HXB.out,pw_cell_below HB2.out HXC.out,pw_cell_below HB2.out HXD.out⟩
        clear hK K
        refine norm_ (a':=?_) ?_ ?_
        rotate_left
        ·show Act.put _ (some 11) _ = _
         simp only [Act.put,List.setIfInBounds_toArray,List.set_cons_zero,List.set_cons_succ,i64_w,i32_w]
         rfl
        refine one_ (i:=21) (N:=some 62) #[true,true,true,true,true,true,true,true,true,true,true,true,true,true,true,true,true,true,true,true,true,true,false,true,false] rfl rfl (by kernel_rfl) (by decide) (fun K hK => ?_)
        refine goes_ Try.func75 (by kernel_rfl) rfl #[.slice A3_ xs.f3.length c3_] (by rfl) rfl rfl (by simp only [List.map_toArray,List.map_cons,List.map_nil];rfl) ?_
        with_reducible refine (slices_Clone_int_int.calls A3_ c3_ xs.f3 nx _ (Kd.C_below HC3_.out (below_step HBW.out HB2.out)) HL3_.out C.out).mono ?_
        rintro e wv3 ⟨vx,rfl,ho,hb⟩
        obtain ⟨A3n,c3n,ec⟩:=Kd.R_slice ho
        subst ec
        refine ⟨_,rfl,?_⟩
        have HR43:=Aside0.mk (show (Kd.int .i64).R 3 wv3 wr.heap.size (fun _ => True) (.slice A3n nx.length c3n) nx from Kd.R_lower ho HB2.out.size)
        have HB3:=Aside0.mk (show Below wr.heap.size wr wv3 from below_step HB2.out hb)
        have HX3:=Aside0.mk (show wv3.heap[wv1.heap.size]? = some (.cells #[.slice none 0 0,.int .i64 0,.int .i64 0,.slice none 0 0] 56 (0,0)) from blk_below HX2.out hb)
        have HR23:=Aside0.mk (show k79.R 79 wv3 wr.heap.size (fun _ => True) (.slice Ac code.length cc) code from Kd.R_below HR22.out hb)
        clear ho hb
        refine hK.out _ _ ?_ (fun hHeld => ?_)
        ·exact ⟨pw_cell_below HB3.out HXA.out,pw_cell_below HB3.out HXB.out,pw_cell_below HB3.out HXC.out,pw_cell_below HB3.out HXD.out⟩
        clear hK K
        refine norm_ (a':=?_) ?_ ?_
        rotate_left
        ·show Act.put _ (some 62) _ = _
         simp only [Act.put,List.setIfInBounds_toArray,List.set_cons_zero,List.set_cons_succ,i64_w,i32_w]
         rfl
        refine pure_ (i:=22) (N:=some 63) (v:=?_) (a':=?_) #[true,true,true,true,true,true,true,true,true,true,true,true,true,true,true,true,true,true,true,true,true,true,true,true,false] rfl rfl (by kernel_rfl) (fun _ _ _ h => h) (Or.inl ⟨by rfl,?_⟩) ?_ ?_
        rotate_left
        ·intro w'
         go_simp
         with_reducible rfl
        rotate_left
        ·simp only [Act.put,List.setIfInBounds_toArray,List.set_cons_zero,List.set_cons_succ,i64_w,i32_w]
         rfl
        refine last_ (i:=24) (N:=none) #[true,true,true,true,true,true,true,true,true,true,true,true,true,true,true,true,true,true,true,true,true,true,true,true,true] rfl rfl (by kernel_rfl) (by decide) (fun K hK => ?_)
        have FIN:=HI.out.boxed (go:=go) (tst:=tst) HB3.out HR23.out HR43.out HB1.out.size HX3.out
        clear HI
        have hcs0:=((blk_cell HX3.out 0).trans rfl : wv3.cell? ⟨wv1.heap.size,0,none⟩ = some (.slice none 0 0))
        have hcs1:=((blk_cell HX3.out 1).trans rfl : wv3.cell? ⟨wv1.heap.size,1,none⟩ = some (.int .i64 0))
        have hcs2:=((blk_cell HX3.out 2).trans rfl : wv3.cell? ⟨wv1.heap.size,2,none⟩ = some (.int .i64 0))
        have hcs3:=((blk_cell HX3.out 3).trans rfl : wv3.cell? ⟨wv1.heap.size,3,none⟩ = some (.slice none 0 0))
        have hfs0:=blk_frozen HX3.out 0
        have hfs1:=blk_frozen HX3.out 1
        have hfs2:=blk_frozen HX3.out 2
        have hfs3:=blk_frozen HX3.out 3
        refine skip_ (w1:=?_) (by rfl) rfl ?_ ?_
        rotate_left
        ·go_simp
         rfl
        refine hK.out _ _ ?_
        clear hK K
        refine done_ (by kernel_rfl) ?_
        go_wp2
        go_meet
        exact ⟨_,_,_,_,_,_,rfl,⟨FIN⟩⟩
      ·skip
       refine value_ (w1:=?_) (v:=?_) (by rfl) rfl ?_ ?_
       rotate_left 2
       ·go_simp
        constructor
        ·rfl
        ·rfl
       obtain ⟨wv1,hwv⟩ : ∃ w_,w_ = w8.alloc (.cells #[.slice none 0 0,.int .i64 0,.int .i64 0,.slice none 0 0] 56):=⟨_,rfl⟩
       rw [← hwv]
       have hb : Below w8.heap.size w8 wv1:=by rw [hwv];exact below_alloc (Below.refl _ _) _
       have HB1:=Aside0.mk (show Below wr.heap.size wr wv1 from below_step HB0.out hb)
       have HX1:=Aside0.mk (show wv1.heap[w8.heap.size]? = some (.cells #[.slice none 0 0,.int .i64 0,.int .i64 0,.slice none 0 0] 56 (0,0)) by rw [hwv];exact heap_alloc_new _ _)
       clear hwv hb
       refine hK.out _ _ ?_ (fun hHeld => ?_)
       ·exact ⟨pw_cell_below HB1.out HXA.out,pw_cell_below HB1.out HXB.out,pw_cell_below HB1.out HXC.out,pw_cell_below HB1.out HXD.out⟩
       clear hK K
       refine norm_ (a':=?_) ?_ ?_
       rotate_left
       ·show Act.put _ (some 11) _ = _
        simp only [Act.put,List.setIfInBounds_toArray,List.set_cons_zero,List.set_cons_succ,i64_w,i32_w]
        rfl
       refine one_ (i:=5) (N:=some 46) #[true,true,true,true,true,true,true,true,true,true,true,true,true,true,true,true,true,true,true,true,true,false,false,true,false] rfl rfl (by kernel_rfl) (by decide) (fun K hK => ?_)
       refine goes_ Try.func82 (by kernel_rfl) rfl #[.slice A0_ xs.f0.length c0_] (by rfl) rfl rfl (by simp only [List.map_toArray,List.map_cons,List.map_nil];rfl) ?_
       with_reducible refine (slices_Clone_impl_Flat.calls A0_ c0_ xs.f0 code _ (Kd.C_below HC0_.out (below_step HBW.out HB1.out)) HL0_.out B.out).mono ?_
       rintro e wv2 ⟨vx,rfl,ho,hb⟩
       obtain ⟨Ac,cc,ec⟩:=Kd.R_slice ho
       subst ec
       refine ⟨_,rfl,?_⟩
       have HR22:=Aside0.mk (show k79.R 79 wv2 wr.heap.size (fun _ => True) (.slice Ac code.length cc) code from Kd.R_lower ho HB1.out.size)
       have HB2:=Aside0.mk (show Below wr.heap.size wr wv2 from below_step HB1.out hb)
       have HX2:=Aside0.mk (show wv2.heap[w8.heap.size]? = some (.cells #[.slice none 0 0,.int .i64 0,.int .i64 0,.slice none 0 0] 56 (0,0)) from blk_below HX1.out hb)
       clear ho hb
       refine hK.out _ _ ?_ (fun hHeld => ?_)
       ·exact ⟨pw_cell_below HB2.out HXA.out,pw_cell_below HB2.out HXB.out,pw_cell_below HB2.out HXC.out,pw_cell_below HB2.out HXD.out⟩
       clear hK K
       refine norm_ (a':=?_) ?_ ?_
       rotate_left
       ·show Act.put _ (some 46) _ = _
        simp only [Act.put,List.setIfInBounds_toArray,List.set_cons_zero,List.set_cons_succ,i64_w,i32_w]
        rfl
       refine one_ (i:=21) (N:=some 62) #[true,true,true,true,true,true,true,true,true,true,true,true,true,true,true,true,true,true,true,true,true,true,false,true,false] rfl rfl (by kernel_rfl) (by decide) (fun K hK => ?_)
       refine goes_ Try.func75 (by kernel_rfl) rfl #[.slice A3_ xs.f3.length c3_] (by rfl) rfl rfl (by simp only [List.map_toArray,List.map_cons,List.map_nil];rfl) ?_
       with_reducible refine (slices_Clone_int_int.calls A3_ c3_ xs.f3 nx _ (Kd.C_below HC3_.out (below_step HBW.out HB2.out)) HL3_.out C.out).mono ?_
       rintro e wv3 ⟨vx,rfl,ho,hb⟩
       obtain ⟨A3n,c3n,ec⟩:=Kd.R_slice ho
       subst ec
       refine ⟨_,rfl,?_⟩
       have HR43:=Aside0.mk (show (Kd.int .i64).R 3 wv3 wr.heap.size (fun _ => True) (.slice A3n nx.length c3n) nx from Kd.R_lower ho HB2.out.size)
       have HB3:=Aside0.mk (show Below wr.heap.size wr wv3 from below_step HB2.out hb)
       have HX3:=Aside0.mk (show wv3.heap[w8.heap.size]? = some (.cells #[.slice none 0 0,.int .i64 0,.int .i64 0,.slice none 0 0] 56 (0,0)) from blk_below HX2.out hb)
       have HR23:=Aside0.mk (show k79.R 79 wv3 wr.heap.size (fun _ => True) (.slice Ac code.length cc) code from Kd.R_below HR22.out hb)
       clear ho hb
       refine hK.out _ _ ?_ (fun hHeld => ?_)
       ·exact ⟨pw_cell_below HB3.out HXA.out,pw_cell_below HB3.out HXB.out,pw_cell_below HB3.out HXC.out,pw_cell_below HB3.out HXD.out⟩
       clear hK K
       refine norm_ (a':=?_) ?_ ?_
       rotate_left
       ·show Act.put _ (some 62) _ = _
        simp only [Act.put,List.setIfInBounds_toArray,List.set_cons_zero,List.set_cons_succ,i64_w,i32_w]
        rfl
       refine pure_ (i:=22) (N:=some 63) (v:=?_) (a':=?_) #[true,true,true,true,true,true,true,true,true,true,true,true,true,true,true,true,true,true,true,true,true,true,true,true,false] rfl rfl (by kernel_rfl) (fun _ _ _ h => h) (Or.inl ⟨by rfl,?_⟩) ?_ ?_
       rotate_left
       ·intro w'
        go_simp
        with_reducible rfl
       rotate_left
       ·simp only [Act.put,List.setIfInBounds_toArray,List.set_cons_zero,List.set_cons_succ,i64_w,i32_w]
        rfl
       refine last_ (i:=24) (N:=none) #[true,true,true,true,true,true,true,true,true,true,true,true,true,true,true,true,true,true,true,true,true,true,true,true,true] rfl rfl (by kernel_rfl) (by decide) (fun K hK => ?_)
       have FIN:=HI.out.boxed (go:=go) (tst:=tst) HB3.out HR23.out HR43.out HB0.out.size HX3.out
       clear HI
       have hcs0:=((blk_cell HX3.out 0).trans rfl : wv3.cell? ⟨w8.heap.size,0,none⟩ = some (.slice none 0 0))
       have hcs1:=((blk_cell HX3.out 1).trans rfl : wv3.cell? ⟨w8.heap.size,1,none⟩ = some (.int .i64 0))
       have hcs2:=((blk_cell HX3.out 2).trans rfl : wv3.cell? ⟨w8.heap.size,2,none⟩ = some (.int .i64 0))
       have hcs3:=((blk_cell HX3.out 3).trans rfl : wv3.cell? ⟨w8.heap.size,3,none⟩ = some (.slice none 0 0))
       have hfs0:=blk_frozen HX3.out 0
       have hfs1:=blk_frozen HX3.out 1
       have hfs2:=blk_frozen HX3.out 2
       have hfs3:=blk_frozen HX3.out 3
       refine skip_ (w1:=?_) (by rfl) rfl ?_ ?_
       rotate_left
       ·go_simp
        rfl
       refine hK.out _ _ ?_
       clear hK K
       refine done_ (by kernel_rfl) ?_
       go_wp2
       go_meet
       exact ⟨_,_,_,_,_,_,rfl,⟨FIN⟩⟩
     obtain ⟨m,gb,Ac,A3n,cc,c3n,rfl,HIN⟩:=hcut
     clear HI B C HXA HXB HXC HXD HC0_ HC3_ HL0_ HL3_ HBW
     have hbx3 : wc.cell? ⟨gb,3,none⟩ = some (.slice A3n nx.length c3n):=(blk_cell HIN.out.box 3).trans rfl
     have hxa:=True.intro
     have hxb:=True.intro
     have hxc:=True.intro
     have hxd:=True.intro
     clear hx1 hxa hxb hxc hxd c3b0 c4b0 c5b0 c6b0 p3 p4 p5 p6
     go_wp2
     go_loopg [67] kb (fun kq v67 w' => ∃ (nx' : List Int) (j : Int),v67 = .int .i64 j ∧ Aside0 (impl_trim.l2 kq l0 rs ns out i code go tst nx' j = some (r1,r2)) ∧ Aside0 (kq ≤ kb) ∧ Aside0 (nx.length = nx'.length) ∧ Aside0 (ImTrIn w.heap.size w2.heap.size wz w' m gb (.slice Ao out.length co) (.slice An ns.length cn) (.slice (some adr) rs.length cl) (.slice Ac code.length cc) (.slice A3n nx.length c3n) out ns rs code go tst nx'))
     case atStart => exact ⟨nx,0,rfl,H',⟨Nat.le_refl _⟩,⟨rfl⟩,HIN⟩
     case round =>
      clear H' HIN
      obtain ⟨nx',j,rfl,HA,HKC,HLN,HIN⟩:=hrel
      cases gk with
      | zero => exact absurd HA.out (by simp [impl_trim.l2])
      | succ kc =>
       have H:=HA.out
       clear HA
       simp only [impl_trim.l2] at H
       have hbx3 : wr.cell? ⟨gb,3,none⟩ = some (.slice A3n nx.length c3n):=(blk_cell HIN.out.box 3).trans rfl
       by_cases c5 : j < (nx'.length : Int)
       rotate_left
       ·rw [if_neg c5] at H
        by_cases c9 : out.length < 2199023255551
        rotate_left
        ·rw [if_neg c9] at H;exact absurd H (by simp)
        rw [if_pos c9] at H
        have H':=Aside0.mk H
        have HLO:=Aside0.mk c9
        have c5n : ¬ j < (nx.length : Int):=by have:=HLN.out;omega
        have c5b : decide (j < (nx.length : Int)) = false:=decide_eq_false c5n
        have hbx0 : wr.cell? ⟨gb,0,none⟩ = some (.slice Ac code.length cc):=(blk_cell HIN.out.box 0).trans rfl
        have hbx1 : wr.cell? ⟨gb,1,none⟩ = some (.int .i64 go):=(blk_cell HIN.out.box 1).trans rfl
        have hbx2 : wr.cell? ⟨gb,2,none⟩ = some (.int .i64 tst):=(blk_cell HIN.out.box 2).trans rfl
        clear H c5 c5n c9
        go_wp2_with (first | ((with_reducible refine gate_builtin (b:=.append) (xs:=#[.tmp 81,.tmp 83]) rfl ?_);at_builtin;refine Kd.S_append k56 (w0:=wz) w2.heap.size rfl (.tmp 81) (.tmp 83) 25 56 (.agg #[.slice none 0 0,.int .i64 0,.int .i64 0,.slice none 0 0]) 64 rfl Try.underlying25 (by kernel_rfl) rfl (by decide) (by omega) (.slice Ao out.length co) out ⟨code,go,tst,nx'⟩ [.slice Ac code.length cc,.int .i64 go,.int .i64 tst,.slice A3n nx.length c3n] (fun k_ => some k_ ≠ (.slice An ns.length cn : Value).ownBlock ∧ some k_ ≠ (.slice (some adr) rs.length cl : Value).ownBlock) (fun k_ => some k_ = (.slice Ac code.length cc : Value).ownBlock ∨ some k_ = (.slice A3n nx.length c3n : Value).ownBlock) rfl rfl ?aP ?aQ ?aF ?aO ?aB ?aS ?aL ?_;(case aP => exact HIN.out.mk_);(case aQ => exact HIN.out.aQ);(case aF => exact HIN.out.aF);(case aO => exact HIN.out.aO);(case aB => exact HIN.out.below);(case aS => exact Nat.le_trans HIN.out.hm HIN.out.hmW);(case aL => have:=HLO.out;omega);intro v_ w9 ho hb hg hat;have HI9:=Aside0.mk (HIN.out.app ho hb hg);clear ho hb hg hat))
        go_roundg kc
        case measure => have:=HKB.out;have:=HKC.out;omega
        case rel => exact ⟨_,_,rfl,H',⟨by have:=HKB.out;have:=HKC.out;omega⟩,HI9⟩
       rw [if_pos c5] at H
       by_cases c6 : 0 ≤ j
       rotate_left
       ·rw [if_neg c6] at H;exact absurd H (by simp)
       rw [if_pos c6] at H
       by_cases c7 : 0 ≤ rd nx' j
       rotate_left
       ·rw [if_neg c7] at H;exact absurd H (by simp)
       rw [if_pos c7] at H
       by_cases c8 : rd nx' j < (ns.length : Int)
       rotate_left
       ·rw [if_neg c8] at H;exact absurd H (by simp)
       rw [if_pos c8] at H
       have H':=Aside0.mk H
       obtain ⟨g3,c3',hv3,hy1,hfy,hput⟩:=HIN.out.put j c6 c5 (rd ns (rd nx' j))
       injection hv3 with hv3 hv3a hv3b
       clear hv3a hv3b
       subst hv3
       obtain ⟨adn,e3,hy2⟩:=Kd.at_int (Kd.R_reads' HIN.out.ns).2.2 (rd nx' j) c7 c8
       cases e3
       have HP:=Aside0.mk hput
       have c5n : j < (nx.length : Int):=by have:=HLN.out;omega
       have c5b : decide (j < (nx.length : Int)) = true:=decide_eq_true c5n
       have c6b : decide (0 ≤ j) = true:=decide_eq_true c6
       have c7b : decide (0 ≤ rd nx' j) = true:=decide_eq_true c7
       have c8b : decide (rd nx' j < (ns.length : Int)) = true:=decide_eq_true c8
       have p5:=eq_true c5n
       have p6:=eq_true c6
       have p7:=eq_true c7
       have p8:=eq_true c8
       have hln2 : nx.length = (nx'.set j.toNat (rd ns (rd nx' j))).length:=by rw [List.length_set];exact HLN.out
       have HLN2:=Aside0.mk hln2
       clear hln2
       obtain ⟨y1,hyy⟩ : ∃ y1,y1 = rd nx' j:=⟨_,rfl⟩
       rw [← hyy] at hy1 hy2 c7b c8b p7 p8 HP HLN2 H'
       clear H hput c5 c5n c6 c7 c8 HIN hyy
       go_upto_region 15 with (fail)
       go_region
       all_goals
        go_wp2
        go_roundg kc
        case measure => have:=HKC.out;omega
        case rel => exact ⟨_,_,rfl,H',⟨by have:=HKC.out;omega⟩,HLN2,⟨by first | exact HP.out | exact HP.out.drewN _⟩⟩


end Go.Proofs.Ythgkhfhfahifmaa.Q
