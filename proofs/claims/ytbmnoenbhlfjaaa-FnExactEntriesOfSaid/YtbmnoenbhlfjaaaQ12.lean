-- WRITTEN BY A PROGRAM OF THIS SESSION
import Derived.Test.YtbmnoenbhlfjaaaQ0
import Derived.Test.YtbmnoenbhlfjaaaQ10
import Derived.Test.YtbmnoenbhlfjaaaQ11
namespace Go.Proofs.Ytbmnoenbhlfjaaa.Q
open Go.RowKit Go.Proofs.YtbmnoenbhlfjaaaW.PrintWords Go.Proofs.YtbmnoenbhlfjaaaW.PrintLast Go.Proofs.YtbmnoenbhlfjaaaW.PrintMore
attribute [local go_sem] max2_int min2_int max_two min_two max_three min_three max_four min_four   -- for this text's walks alone
set_option linter.unusedVariables false
set_option linter.unusedSimpArgs false

/-! ### impl_Graph_loops: function 49 (by hand: rows in rows, structs copied into a box) -/
mutual
def impl_Graph_loops.l0 : Nat → List (List Int) → List (List Int) → List (List Int) → Int → Option (List S58)
 | 0,_,_,_,_ => none
 | k + 1,g,es,st,i => if i < (es.length : Int) then (if 0 ≤ i then (if 1 < ((es.getD i.toNat []).length : Int) then (if 0 ≤ rd (es.getD i.toNat []) 1 then (if rd (es.getD i.toNat []) 1 < (st.length : Int) then (if (st.getD (rd (es.getD i.toNat []) 1).toNat []).length < 17592186044416 then (impl_Graph_loops.l0 k g es (st.set (rd (es.getD i.toNat []) 1).toNat (st.getD (rd (es.getD i.toNat []) 1).toNat [] ++ [rd (es.getD i.toNat []) 0])) (wrap64 (i + 1))) else none) else none) else none) else none) else none) else impl_Graph_loops.l1 k g st [] 0
def impl_Graph_loops.l1 : Nat → List (List Int) → List (List Int) → List S58 → Int → Option (List S58)
 | 0,_,_,_,_ => none
 | k + 1,g,st,out,i => if i < (st.length : Int) then (if 0 ≤ i then (if 0 < (st.getD i.toNat []).length then ((impl_Graph_body.f k g i (st.getD i.toNat [])).bind fun bd => (if out.length < 3518437208883 then impl_Graph_loops.l1 k g st (out ++ [⟨i,bd,-1⟩]) (wrap64 (i + 1)) else none)) else impl_Graph_loops.l1 k g st out (wrap64 (i + 1))) else none) else impl_Graph_loops.l2 k out 0
def impl_Graph_loops.l2 : Nat → List S58 → Int → Option (List S58)
 | 0,_,_ => none
 | k + 1,out,i => if i < (out.length : Int) then (if 0 ≤ i then impl_Graph_loops.l3 k out i 0 else none) else some out
def impl_Graph_loops.l3 : Nat → List S58 → Int → Int → Option (List S58)
 | 0,_,_,_ => none
 | k + 1,out,i,j => if j < (out.length : Int) then (if 0 ≤ j then (if i < (out.length : Int) then (if j = i then impl_Graph_loops.l3 k out i (wrap64 (j + 1)) else ((impl_holdsAll.f k (rd_T58 out j).f1 (rd_T58 out i).f1).bind fun t => (if t = true then (if (rd_T58 out i).f2 < 0 then impl_Graph_loops.l3 k (out.set i.toNat ⟨(rd_T58 out i).f0,(rd_T58 out i).f1,j⟩) i (wrap64 (j + 1)) else (if (rd_T58 out i).f2 < (out.length : Int) then (if ((rd_T58 out j).f1.length : Int) < ((rd_T58 out (rd_T58 out i).f2).f1.length : Int) then impl_Graph_loops.l3 k (out.set i.toNat ⟨(rd_T58 out i).f0,(rd_T58 out i).f1,j⟩) i (wrap64 (j + 1)) else impl_Graph_loops.l3 k out i (wrap64 (j + 1))) else none)) else impl_Graph_loops.l3 k out i (wrap64 (j + 1))))) else none) else none) else impl_Graph_loops.l2 k out (wrap64 (i + 1))
end
def impl_Graph_loops.f (k : Nat) (g : List (List Int)) : Option (List S58):=if g.length ≤ 11728124029610 then ((impl_Graph_backEdges.f k g).bind fun es => (impl_Graph_loops.l0 k g es (List.replicate g.length []) 0)) else none
theorem impl_Graph_loops.mono_l : ∀ k,(∀ y0 y1 y2 y3,LeO (impl_Graph_loops.l0 k y0 y1 y2 y3) (impl_Graph_loops.l0 (k + 1) y0 y1 y2 y3)) ∧ (∀ y0 y1 y2 y3,LeO (impl_Graph_loops.l1 k y0 y1 y2 y3) (impl_Graph_loops.l1 (k + 1) y0 y1 y2 y3)) ∧ (∀ y0 y1,LeO (impl_Graph_loops.l2 k y0 y1) (impl_Graph_loops.l2 (k + 1) y0 y1)) ∧ (∀ y0 y1 y2,LeO (impl_Graph_loops.l3 k y0 y1 y2) (impl_Graph_loops.l3 (k + 1) y0 y1 y2))
 | 0 => ⟨fun _ _ _ _ r h => by simp [impl_Graph_loops.l0] at h,fun _ _ _ _ r h => by simp [impl_Graph_loops.l1] at h,fun _ _ r h => by simp [impl_Graph_loops.l2] at h,fun _ _ _ r h => by simp [impl_Graph_loops.l3] at h⟩
 | k + 1 => by
  obtain ⟨ih0,ih1,ih2,ih3⟩:=impl_Graph_loops.mono_l k
  refine ⟨?_,?_,?_,?_⟩
  ·intro y0 y1 y2 y3
   unfold impl_Graph_loops.l0
   repeat' first
   | (with_reducible exact ih0 _ _ _ _)
   | (with_reducible exact ih1 _ _ _ _)
   | (with_reducible exact ih2 _ _)
   | (with_reducible exact ih3 _ _ _)
   | (with_reducible exact impl_Graph_backEdges.mono _ _)
   | (with_reducible exact impl_Graph_body.mono _ _ _ _)
   | (with_reducible exact impl_holdsAll.mono _ _ _)
   | (with_reducible exact LeO.refl _)
   | (with_reducible exact LeO.none _)
   | (with_reducible refine LeO.ite ?_ ?_)
   | (with_reducible refine LeO.bind ?_ (fun _ => ?_))
  ·intro y0 y1 y2 y3
   unfold impl_Graph_loops.l1
   repeat' first
   | (with_reducible exact ih0 _ _ _ _)
   | (with_reducible exact ih1 _ _ _ _)
   | (with_reducible exact ih2 _ _)
   | (with_reducible exact ih3 _ _ _)
   | (with_reducible exact impl_Graph_backEdges.mono _ _)
   | (with_reducible exact impl_Graph_body.mono _ _ _ _)
   | (with_reducible exact impl_holdsAll.mono _ _ _)
   | (with_reducible exact LeO.refl _)
   | (with_reducible exact LeO.none _)
   | (with_reducible refine LeO.ite ?_ ?_)
   | (with_reducible refine LeO.bind ?_ (fun _ => ?_))
  ·intro y0 y1
   unfold impl_Graph_loops.l2
   repeat' first
   | (with_reducible exact ih0 _ _ _ _)
   | (with_reducible exact ih1 _ _ _ _)
   | (with_reducible exact ih2 _ _)
   | (with_reducible exact ih3 _ _ _)
   | (with_reducible exact impl_Graph_backEdges.mono _ _)
   | (with_reducible exact impl_Graph_body.mono _ _ _ _)
   | (with_reducible exact impl_holdsAll.mono _ _ _)
   | (with_reducible exact LeO.refl _)
   | (with_reducible exact LeO.none _)
   | (with_reducible refine LeO.ite ?_ ?_)
   | (with_reducible refine LeO.bind ?_ (fun _ => ?_))
  ·intro y0 y1 y2
   unfold impl_Graph_loops.l3
   repeat' first
   | (with_reducible exact ih0 _ _ _ _)
   | (with_reducible exact ih1 _ _ _ _)
   | (with_reducible exact ih2 _ _)
   | (with_reducible exact ih3 _ _ _)
   | (with_reducible exact impl_Graph_backEdges.mono _ _)
   | (with_reducible exact impl_Graph_body.mono _ _ _ _)
   | (with_reducible exact impl_holdsAll.mono _ _ _)
   | (with_reducible exact LeO.refl _)
   | (with_reducible exact LeO.none _)
   | (with_reducible refine LeO.ite ?_ ?_)
   | (with_reducible refine LeO.bind ?_ (fun _ => ?_))
theorem impl_Graph_loops.mono : ∀ a0 k,LeO (impl_Graph_loops.f k a0) (impl_Graph_loops.f (k + 1) a0):=by
 intro a0 k
 obtain ⟨ih0,ih1,ih2,ih3⟩:=impl_Graph_loops.mono_l k
 unfold impl_Graph_loops.f
 repeat' first
   | (with_reducible exact ih0 _ _ _ _)
   | (with_reducible exact ih1 _ _ _ _)
   | (with_reducible exact ih2 _ _)
   | (with_reducible exact ih3 _ _ _)
   | (with_reducible exact impl_Graph_backEdges.mono _ _)
   | (with_reducible exact impl_Graph_body.mono _ _ _ _)
   | (with_reducible exact impl_holdsAll.mono _ _ _)
   | (with_reducible exact LeO.refl _)
   | (with_reducible exact LeO.none _)
   | (with_reducible refine LeO.ite ?_ ?_)
   | (with_reducible refine LeO.bind ?_ (fun _ => ?_))
/-- What holds between the rounds: starts is written, the edges lie in the blocks from a to b. -/
structure LInv (w W : World) (a b : Nat) (vn vd : Value) (nx dm : List (List Int)) : Prop where
 below : Below w.heap.size w W
 out : Kd.S (Kd.slice 3 (Kd.int .i64)) 43 W w.heap.size (fun k => ¬ (a ≤ k ∧ k < b)) vn nx
 dom : Kd.S (Kd.slice 3 (Kd.int .i64)) 43 W w.heap.size (fun k => a ≤ k ∧ k < b) vd dm
 flt : b ≤ W.heap.size
theorem LInv.step {w W W' : World} {a b : Nat} {vn vd : Value} {nx dm : List (List Int)} (h : LInv w W a b vn vd nx dm) (hb : Below W.heap.size W W') : LInv w W' a b vn vd nx dm :=
 ⟨below_step h.below hb,Kd.S_below h.out hb,Kd.S_below h.dom hb,Nat.le_trans h.flt hb.size⟩
theorem LInv.put {w W W4 : World} {a b g nn cap : Nat} {vd ve v0 : Value} {nx dm : List (List Int)} {y : List Int} {i : Int} {oki : Nat → Prop} (h : LInv w W a b (.slice (some ⟨g,0,none⟩) nn cap) vd nx dm)
  (hH : Kd.H (Kd.slice 3 (Kd.int .i64)) 43 W w.heap.size (fun k => ¬ (a ≤ k ∧ k < b)) (.slice (some ⟨g,0,none⟩) nn cap) nx i oki [ve]) (h0 : 0 ≤ i) (h1 : i < nn) (hg : ¬ (a ≤ g ∧ g < b)) (hgb : w.heap.size ≤ g)
  (hk : Kept W W4 oki) (hb : Below w.heap.size w W4) (hr : (Kd.int .i64).R 3 W4 w.heap.size (fun k => oki k ∨ W.heap.size ≤ k) v0 y) : LInv w (W4.setCell ⟨g,i.toNat,none⟩ v0) a b (.slice (some ⟨g,0,none⟩) nn cap) vd (nx.set i.toNat y) dm:=by
 obtain ⟨h2,h3⟩:=S_upd hH h0 h1 hg (fun k hk => Nat.lt_of_lt_of_le hk.2 h.flt) hk hr
 exact ⟨hb.setCell hgb _,h2,Kd.S_step h.dom (fun k hk _ => h3 k hk),Nat.le_trans h.flt (Nat.le_trans hk.1 (by simp [World.setCell]))⟩
theorem LInv.first {w W w3 : World} {m : Nat} {vd : Value} {dm : List (List Int)} (hw : Below w.heap.size w W) (hm : m ≤ 281474976710656) (hb : Below (W.alloc (.cells (madeCells #[.slice none 0 0] m) 43)).heap.size (W.alloc (.cells (madeCells #[.slice none 0 0] m) 43)) w3) (ho : Kd.S (Kd.slice 3 (Kd.int .i64)) 43 w3 (W.alloc (.cells (madeCells #[.slice none 0 0] m) 43)).heap.size (fun _ => True) vd dm) :
  LInv w w3 (W.alloc (.cells (madeCells #[.slice none 0 0] m) 43)).heap.size w3.heap.size (.slice (some ⟨W.heap.size,0,none⟩) m m) vd (List.replicate m []) dm:=by
 have hs:=hw.size
 refine ⟨below_step (hw.alloc hs _) hb,?_,?_,Nat.le_refl _⟩
 ·exact Kd.S_mono (Kd.S_lower (Kd.S_below (Kd.S_bound (S_made (Kd.int .i64) 3 43 W m hm)) hb) hs) (fun k hk h => by have:=hk.2.2.1;omega)
 ·exact Kd.S_lower (Kd.S_mono (Kd.S_bound ho) (fun k hk => ⟨hk.2.1,hk.2.2.1⟩)) (by simp;omega)
theorem loops_types_ne {α β : Type} {d1 : Kd α} {d2 : Kd β} {e1 e2 b1 b2 : Nat} {W : World} {o1 o2 : Nat → Prop} {v1 v2 : Value} {x1 : List α} {x2 : List β} (h1 : d1.R e1 W b1 o1 v1 x1) (h2 : d2.R e2 W b2 o2 v2 x2) (he : e1 ≠ e2) : ∀ k,some k = v1.ownBlock → some k ≠ v2.ownBlock:=fun k a b => by
 obtain ⟨c1,a1⟩:=Kd.R_typed h1 k a.symm
 obtain ⟨c2,a2⟩:=Kd.R_typed h2 k b.symm
 rw [a1] at a2
 injection a2 with a2
 injection a2 with _ a2 _
 exact he a2
/-- The loops are put behind each other. -/
structure LBInv (w W : World) (vs vo : Value) (st : List (List Int)) (out : List S58) : Prop where
 below : Below w.heap.size w W
 st : Kd.S (Kd.slice 3 (Kd.int .i64)) 43 W w.heap.size (fun _ => True) vs st
 out : Kd.S k58 58 W w.heap.size (fun _ => True) vo out
/-- The loops alone. -/
structure LCInv (w W : World) (vo : Value) (out : List S58) : Prop where
 below : Below w.heap.size w W
 out : Kd.S k58 58 W w.heap.size (fun _ => True) vo out
theorem LCInv.step {w W W' : World} {vo : Value} {out : List S58} (h : LCInv w W vo out) (hb : Below W.heap.size W W') : LCInv w W' vo out:=⟨below_step h.below hb,Kd.S_below h.out hb⟩
theorem LCInv.at {w W : World} {A : Option Addr} {n c : Nat} {out : List S58} (h : LCInv w W (.slice A n c) out) (i : Int) (h0 : 0 ≤ i) (h1 : i < n) :
  ∃ go A1 c1,A = some ⟨go,0,none⟩ ∧ w.heap.size ≤ go ∧ W.cell? ⟨go,i.toNat * 3,none⟩ = some (.int .i64 (rd_T58 out i).f0) ∧ W.cell? ⟨go,i.toNat * 3 + 1,none⟩ = some (.slice A1 (rd_T58 out i).f1.length c1) ∧ W.cell? ⟨go,i.toNat * 3 + 2,none⟩ = some (.int .i64 (rd_T58 out i).f2) ∧ (rd_T58 out i).f1.length ≤ c1 ∧ Kd.C (Kd.int .i64) W A1 (rd_T58 out i).f1.length (rd_T58 out i).f1:=by
 have hn:=(Kd.S_reads' h.out).1
 obtain ⟨go,cap,hv,hb,_⟩:=Kd.S_form h.out (by omega)
 injection hv with ha _ _
 subst ha
 obtain ⟨ad,A1,c1,eA,hx0,hx1,hx2,hl,hi⟩:=at_T58 (Kd.S_reads' h.out).2.2 i h0 (by omega)
 cases eA
 rw [add_plain] at hx0
 rw [add_plain] at hx1
 rw [add_plain] at hx2
 exact ⟨go,A1,c1,rfl,hb,hx0,hx1,hx2,hl,hi⟩
theorem LCInv.put {w W : World} {go n c : Nat} {out : List S58} (h : LCInv w W (.slice (some ⟨go,0,none⟩) n c) out) (i z : Int) (h0 : 0 ≤ i) (h1 : i < n) (hg : w.heap.size ≤ go) :
  LCInv w (W.setCell ⟨go,i.toNat * 3 + 2,none⟩ (.int .i64 z)) (.slice (some ⟨go,0,none⟩) n c) (out.set i.toNat ⟨(rd_T58 out i).f0,(rd_T58 out i).f1,z⟩) ∧ W.frozen? ⟨go,i.toNat * 3 + 2,none⟩ = false:=by
 obtain ⟨oki,ce,hcl,hM,hcc,hfr,hoki,hH⟩:=Kd.S_elem h.out z58 i h0 h1
 obtain ⟨ve,rfl,ge⟩:=k58_openM hM
 have HP:=Kd.S_seg0 hH h0 h1 (seg:=[.int .i64 z]) (j:=2) (show 3 ≤ 3 from by decide) (x':=(⟨(rd_T58 out i).f0,(rd_T58 out i).f1,z⟩ : S58)) (k58_mkM _ _ _ (⟨(rd_T58 out i).f0,(rd_T58 out i).f1,z⟩ : S58) ge) (fun _ hk => hk)
 exact ⟨⟨h.below.setCell (show w.heap.size ≤ (⟨go,i.toNat * 3 + 2,none⟩ : Addr).block from hg) _,HP.1⟩,hfr 2⟩
set_option maxHeartbeats 8000000 in
set_option maxRecDepth 100000 in
theorem impl_Graph_loops.calls (k : Nat) (b : Nat) (A0 : Option Addr) (c0 : Nat) (l0 : List (List Int)) (r : List S58) (w : World) (hbox : w.heap[b]? = some (.cells #[.slice A0 l0.length c0] 28 (0,0))) (hr0 : Kd.C (Kd.slice 3 (Kd.int .i64)) w A0 l0.length l0) (hc0 : l0.length ≤ c0) (h : impl_Graph_loops.f k l0 = some r) :
  Calls Try.prog 49 #[.pointer (some ⟨b,0,none⟩)] w fun e w' => ∃ v0_ : Value,e = .returned (v0_) ∧ Kd.S k58 58 w' w.heap.size (fun _ => True) v0_ r ∧ Below w.heap.size w w':=by
 have hu28:=Try.underlying28
 have hu58:=Try.underlying58
 have HR0:=Aside0.mk hr0
 have HC0:=Aside0.mk hc0
 have HBX:=Aside0.mk hbox
 clear hr0 hc0 hbox
 unfold impl_Graph_loops.f at h
 by_cases c1 : l0.length ≤ 11728124029610
 rotate_left
 ·rw [if_neg c1] at h;exact absurd h (by simp)
 rw [if_pos c1] at h
 obtain ⟨es,A1,H⟩:=Option.bind_eq_some_iff.mp h
 have A:=Aside0.mk A1
 have H':=Aside0.mk H
 have HM:=Aside0.mk c1
 clear h A1 H c1
 have hcz : w.cell? ⟨b,0,none⟩ = some (.slice A0 l0.length c0):=(blk_cell HBX.out 0).trans rfl
 have hmk22:=fun W => run_make_row' (P:=Try.prog) 22 43 (.slice none 0 0) 24 Try.underlying22 (by kernel_rfl) rfl .i64 .i64 l0.length (by have:=HM.out;omega) (by have:=HM.out;omega) W
 go_enter Try.func49,Try.ntmps49
 go_wp2_with (go_at_call 78;refine (impl_Graph_backEdges.calls k b A0 c0 l0 es _ (blk_alloc HBX.out _) (Kd.C_alloc HR0.out _) HC0.out A.out).mono ?_;rintro e w3 ⟨ve,rfl,ho,hb⟩;have HI:=Aside0.mk (LInv.first (Below.refl _ _) (by have:=HM.out;omega) hb ho);clear ho hb hcz;obtain ⟨Ae,ce,ee⟩:=Kd.S_slice HI.out.dom;subst ee)
 clear hmk22
 obtain ⟨gn,hgn⟩ : ∃ gn,gn = w.heap.size:=⟨_,rfl⟩
 rw [← hgn] at HI ⊢
 obtain ⟨a2,ha2⟩ : ∃ a2,a2 = (w.alloc (.cells (madeCells #[.slice none 0 0] l0.length) 43)).heap.size:=⟨_,rfl⟩
 rw [← ha2] at HI
 obtain ⟨b2,hb2⟩ : ∃ b2,b2 = w3.heap.size:=⟨_,rfl⟩
 rw [← hb2] at HI
 clear hgn ha2 hb2
 go_loopg [22] k (fun kq v22 w' => ∃ (st : List (List Int)) (i : Int),v22 = .int .i64 i ∧ Aside0 (impl_Graph_loops.l0 kq l0 es st i = some r) ∧ Aside0 (kq ≤ k) ∧ Aside0 (LInv w w' a2 b2 (.slice (some ⟨gn,0,none⟩) l0.length l0.length) (.slice Ae es.length ce) st es))
 case atStart => exact ⟨_,0,rfl,H',⟨Nat.le_refl _⟩,HI⟩
 case round =>
  clear H' HI
  obtain ⟨st,i,rfl,HA,HK1,HI⟩:=hrel
  cases gk with
  | zero => exact absurd HA.out (by simp [impl_Graph_loops.l0])
  | succ k1 =>
   have H:=HA.out
   clear HA
   simp only [impl_Graph_loops.l0] at H
   have hln : l0.length = st.length:=(Kd.S_reads' HI.out.out).1
   by_cases c3 : i < (es.length : Int)
   ·rw [if_pos c3] at H
    by_cases c4 : 0 ≤ i
    ·rw [if_pos c4] at H
     obtain ⟨gd,okd,ved,hgd,hxd,hfd,hRd,hokd,hPd,hbd,hHd⟩:=S_row HI.out.dom i c4 c3
     subst hgd
     obtain ⟨y5,hy5⟩ : ∃ y5,y5 = es.getD i.toNat []:=⟨_,rfl⟩
     rw [← hy5] at H hRd
     by_cases c5 : 1 < (y5.length : Int)
     ·rw [if_pos c5] at H
      obtain ⟨ge,cE,eE,hbe,_⟩:=Kd.R_form hRd (by omega)
      subst eE
      obtain ⟨m,hm⟩ : ∃ m,m = rd y5 1:=⟨_,rfl⟩
      obtain ⟨z,hz⟩ : ∃ z,z = rd y5 0:=⟨_,rfl⟩
      rw [← hm,← hz] at H
      obtain ⟨a5,e5,hy1⟩:=Kd.at_int (Kd.R_reads' hRd).2.2 1 (by omega) c5
      cases e5
      obtain ⟨a6,e6,hy0⟩:=Kd.at_int (Kd.R_reads' hRd).2.2 0 (by omega) (by omega)
      cases e6
      rw [← hm,add_plain] at hy1
      rw [← hz,add_plain] at hy0
      have hy1 : wr.cell? ⟨ge,1,none⟩ = some (.int .i64 m):=hy1
      have hy0 : wr.cell? ⟨ge,0,none⟩ = some (.int .i64 z):=hy0
      have HED:=Aside0.mk (hokd ge (hRd.1 ge rfl)).1
      by_cases c6 : 0 ≤ m
      ·rw [if_pos c6] at H
       by_cases c7 : m < (st.length : Int)
       ·rw [if_pos c7] at H
        by_cases c8 : (st.getD m.toNat []).length < 17592186044416
        ·rw [if_pos c8] at H
         obtain ⟨y,hy⟩ : ∃ y,y = st.getD m.toNat []:=⟨_,rfl⟩
         rw [← hy] at H c8
         have H':=Aside0.mk H
         have HLM:=Aside0.mk c8
         have HI8:=Aside0.mk (HI.out.step (below_drew (Below.refl _ _)))
         have c7' : m < (l0.length : Int):=by omega
         obtain ⟨g',oki,ve,hg,hx2,hf2,hR,hoki,hPg,hbg,hH⟩:=S_row HI8.out.out m c6 c7'
         injection hg with hg
         injection hg with hg _ _
         subst hg
         rw [← hy] at hR
         obtain ⟨Ar,cr,er⟩:=Kd.R_slice hR
         subst er
         have HR:=Aside0.mk hR
         have HH:=Aside0.mk hH
         have HKI:=Aside0.mk hoki
         have HPG:=Aside0.mk hPg
         have HBG:=Aside0.mk hbg
         have HX1:=Aside0.mk (pw_cell_below (below_drew (Below.refl wr.heap.size wr)) hy1)
         have HX0:=Aside0.mk (pw_cell_below (below_drew (Below.refl wr.heap.size wr)) hy0)
         have HX2:=Aside0.mk hx2
         have HF2:=Aside0.mk hf2
         have HC6:=Aside0.mk c6
         have HC7:=Aside0.mk c7'
         have q3 : decide (i < (es.length : Int)) = true:=decide_eq_true c3
         have q4 : decide (0 ≤ i) = true:=decide_eq_true c4
         have p3:=eq_true c3
         have p4:=eq_true c4
         have p5:=eq_true c5
         have p50 : 0 < y5.length:=by omega
         have p51 : 1 < y5.length:=by omega
         have p6:=eq_true c6
         have p7:=eq_true c7'
         clear hln c3 c4 c5 c6 c7 c7' c8 H hy5 hRd hokd hPd hbd hHd hfd hR hH hoki hPg hbg hx2 hf2 hy hm hz hbe
         go_upto_region 5 with (fail)
         clear hxd hy1 hy0 HI
         refine start_ (n:=17) (S:=fun w' => w'.cell? ⟨ge,1,none⟩ = some (.int .i64 m) ∧ w'.cell? ⟨ge,0,none⟩ = some (.int .i64 z) ∧ w'.cell? ⟨gn,m.toNat,none⟩ = some (.slice Ar y.length cr)) (ds:=[16]) #[false,false,false,false,false,false,false,false,false,false,false,false,false,false,false,false,false] (by kernel_rfl) rfl rfl ?_ (fun hHeld => ?_)
         ·exact ⟨HX1.out,HX0.out,HX2.out⟩
         generalize hw8 : World.drew wr = w8 at HI8 HR HH HX1 HX0 HX2 HF2 hHeld ⊢
         clear hw8
         refine pure_ (i:=0) (N:=some 26) (v:=?_) (a':=?_) #[true,false,false,false,false,false,false,false,false,false,false,false,false,false,false,false,false] rfl rfl (by kernel_rfl) (fun _ _ _ h => h) (Or.inl ⟨by rfl,?_⟩) ?_ ?_
         rotate_left
         ·intro w'
          go_simp
          with_reducible rfl
         rotate_left
         ·simp only [Act.put,List.setIfInBounds_toArray,List.set_cons_zero,List.set_cons_succ,i64_w,i32_w]
          rfl
         refine pure_ (i:=1) (N:=some 27) (v:=?_) (a':=?_) #[true,true,false,false,false,false,false,false,false,false,false,false,false,false,false,false,false] rfl rfl (by kernel_rfl) (fun _ _ _ h => h) (Or.inl ⟨by rfl,?_⟩) ?_ ?_
         rotate_left
         ·intro w'
          go_simp
          with_reducible rfl
         rotate_left
         ·simp only [Act.put,List.setIfInBounds_toArray,List.set_cons_zero,List.set_cons_succ,i64_w,i32_w]
          rfl
         refine pure_ (i:=2) (N:=some 28) (v:=?_) (a':=?_) #[true,true,true,false,false,false,false,false,false,false,false,false,false,false,false,false,false] rfl rfl (by kernel_rfl) (fun _ _ _ h => h) (Or.inl ⟨by rfl,?_⟩) ?_ ?_
         rotate_left
         ·intro w'
          go_simp
          with_reducible rfl
         rotate_left
         ·simp only [Act.put,List.setIfInBounds_toArray,List.set_cons_zero,List.set_cons_succ,i64_w,i32_w]
          rfl
         refine pure_ (i:=4) (N:=some 30) (v:=?_) (a':=?_) #[true,true,true,false,true,false,false,false,false,false,false,false,false,false,false,false,false] rfl rfl (by kernel_rfl) (fun _ _ _ h => h) (Or.inl ⟨by rfl,?_⟩) ?_ ?_
         rotate_left
         ·intro w'
          go_simp
          with_reducible rfl
         rotate_left
         ·simp only [Act.put,List.setIfInBounds_toArray,List.set_cons_zero,List.set_cons_succ,i64_w,i32_w]
          rfl
         refine pure_ (i:=5) (N:=some 31) (v:=?_) (a':=?_) #[true,true,true,false,true,true,false,false,false,false,false,false,false,false,false,false,false] rfl rfl (by kernel_rfl) (fun _ _ _ h => h) (Or.inl ⟨by rfl,?_⟩) ?_ ?_
         rotate_left
         ·intro w'
          go_simp
          with_reducible rfl
         rotate_left
         ·simp only [Act.put,List.setIfInBounds_toArray,List.set_cons_zero,List.set_cons_succ,i64_w,i32_w]
          rfl
         refine pure_ (i:=6) (N:=some 32) (v:=?_) (a':=?_) #[true,true,true,false,true,true,true,false,false,false,false,false,false,false,false,false,false] rfl rfl (by kernel_rfl) (fun _ _ _ h => h) (Or.inl ⟨by rfl,?_⟩) ?_ ?_
         rotate_left
         ·intro w'
          go_simp
          with_reducible rfl
         rotate_left
         ·simp only [Act.put,List.setIfInBounds_toArray,List.set_cons_zero,List.set_cons_succ,i64_w,i32_w]
          rfl
         refine pure_ (i:=10) (N:=some 36) (v:=?_) (a':=?_) #[true,true,true,false,true,true,true,false,false,false,true,false,false,false,false,false,false] rfl rfl (by kernel_rfl) (fun _ _ _ h => h) (Or.inl ⟨by rfl,?_⟩) ?_ ?_
         rotate_left
         ·intro w'
          go_simp
          with_reducible rfl
         rotate_left
         ·simp only [Act.put,List.setIfInBounds_toArray,List.set_cons_zero,List.set_cons_succ,i64_w,i32_w]
          rfl
         refine pure_ (i:=11) (N:=some 37) (v:=?_) (a':=?_) #[true,true,true,false,true,true,true,false,false,false,true,true,false,false,false,false,false] rfl rfl (by kernel_rfl) (fun _ _ _ h => h) (Or.inl ⟨by rfl,?_⟩) ?_ ?_
         rotate_left
         ·intro w'
          go_simp
          with_reducible rfl
         rotate_left
         ·simp only [Act.put,List.setIfInBounds_toArray,List.set_cons_zero,List.set_cons_succ,i64_w,i32_w]
          rfl
         refine take_ (i:=3) (N:=some 29) (v:=?_) (a':=?_) #[true,true,true,true,true,true,true,false,false,false,true,true,false,false,false,false,false] rfl rfl (by kernel_rfl) (fun _ _ _ h => h) (Or.inl ⟨by rfl,?_⟩) hHeld ?_ ?_
         rotate_left
         ·rintro w' ⟨s0,s1,s2⟩
          go_simp
          with_reducible rfl
         rotate_left
         ·simp only [Act.put,List.setIfInBounds_toArray,List.set_cons_zero,List.set_cons_succ,i64_w,i32_w]
          rfl
         refine take_ (i:=7) (N:=some 33) (v:=?_) (a':=?_) #[true,true,true,true,true,true,true,true,false,false,true,true,false,false,false,false,false] rfl rfl (by kernel_rfl) (fun _ _ _ h => h) (Or.inl ⟨by rfl,?_⟩) hHeld ?_ ?_
         rotate_left
         ·rintro w' ⟨s0,s1,s2⟩
          go_simp
          with_reducible rfl
         rotate_left
         ·simp only [Act.put,List.setIfInBounds_toArray,List.set_cons_zero,List.set_cons_succ,i64_w,i32_w]
          rfl
         refine pure_ (i:=8) (N:=some 34) (v:=?_) (a':=?_) #[true,true,true,true,true,true,true,true,true,false,true,true,false,false,false,false,false] rfl rfl (by kernel_rfl) (fun _ _ _ h => h) (Or.inl ⟨by rfl,?_⟩) ?_ ?_
         rotate_left
         ·intro w'
          go_simp
          with_reducible rfl
         rotate_left
         ·simp only [Act.put,List.setIfInBounds_toArray,List.set_cons_zero,List.set_cons_succ,i64_w,i32_w]
          rfl
         refine take_ (i:=9) (N:=some 35) (v:=?_) (a':=?_) #[true,true,true,true,true,true,true,true,true,true,true,true,false,false,false,false,false] rfl rfl (by kernel_rfl) (fun _ _ _ h => h) (Or.inl ⟨by rfl,?_⟩) hHeld ?_ ?_
         rotate_left
         ·rintro w' ⟨s0,s1,s2⟩
          go_simp
          with_reducible rfl
         rotate_left
         ·simp only [Act.put,List.setIfInBounds_toArray,List.set_cons_zero,List.set_cons_succ,i64_w,i32_w]
          rfl
         refine take_ (i:=12) (N:=some 38) (v:=?_) (a':=?_) #[true,true,true,true,true,true,true,true,true,true,true,true,true,false,false,false,false] rfl rfl (by kernel_rfl) (fun _ _ _ h => h) (Or.inl ⟨by rfl,?_⟩) hHeld ?_ ?_
         rotate_left
         ·rintro w' ⟨s0,s1,s2⟩
          go_simp
          with_reducible rfl
         rotate_left
         ·simp only [Act.put,List.setIfInBounds_toArray,List.set_cons_zero,List.set_cons_succ,i64_w,i32_w]
          rfl
         refine one_ (i:=13) (N:=some 39) #[true,true,true,true,true,true,true,true,true,true,true,true,true,true,false,false,false] rfl rfl (by kernel_rfl) (by decide) (fun K hK => ?_)
         refine value_ (w1:=?_) (v:=?_) (by rfl) rfl ?_ ?_
         rotate_left 2
         ·go_simp
          constructor
          ·rfl
          ·rfl
         refine hK.out _ _ ?_ (fun hHeld => ?_)
         ·exact ⟨pw_cell_below (below_alloc (Below.refl _ _) _) hHeld.1,pw_cell_below (below_alloc (Below.refl _ _) _) hHeld.2.1,pw_cell_below (below_alloc (Below.refl _ _) _) hHeld.2.2⟩
         clear hK K
         refine norm_ (a':=?_) ?_ ?_
         rotate_left
         ·show Act.put _ (some 39) _ = _
          simp only [Act.put,List.setIfInBounds_toArray,List.set_cons_zero,List.set_cons_succ,i64_w,i32_w]
          rfl
         refine one_ (i:=14) (N:=some 40) #[true,true,true,true,true,true,true,true,true,true,true,true,true,true,true,false,false] rfl rfl (by kernel_rfl) (by decide) (fun K hK => ?_)
         refine Kd.R_append_step (Kd.int .i64) (w0:=w) (W:=w8) w.heap.size (by rfl) (.tmp 35) (.tmp 39) 43 3 (.int .i64 0) 8 rfl Try.underlying43 (by kernel_rfl) rfl (by decide) (by omega) (.slice Ar y.length cr) y z [.int .i64 z] (fun k_ => oki k_ ∨ w8.heap.size ≤ k_) (fun _ => False) rfl rfl ?aP (fun _ hk => hk.elim) ?aF ?aO ?aB ?aS ?aL ?_
         case aP => exact rfl
         case aF => exact fun k_ hk_ => .inr hk_
         case aO => exact Kd.R_mono HR.out (fun k_ h_ => .inl h_)
         case aB => exact HI8.out.below
         case aS => exact HI8.out.below.size
         case aL => have:=HLM.out;omega
         intro v40 w9 ho9 hb9 hg9 hat9
         obtain ⟨Av,cv,ev⟩:=Kd.R_slice ho9
         rw [List.length_append,List.length_singleton] at ev
         subst ev
         have hkp : Kept w8 w9 oki:=Kept.of_grown hg9 (Kept.refl _ _) (fun k_ e_ => .inl (HR.out.1 k_ e_))
         have HI9:=Aside0.mk (HI8.out.put HH.out HC6.out HC7.out HPG.out HBG.out hkp hb9 ho9)
         have HX9:=Aside0.mk (cell_kept HX2.out hkp (fun h_ => (HKI.out gn h_).2 rfl))
         have HF9:=Aside0.mk ((frozen_kept hkp (fun h_ => (HKI.out gn h_).2 rfl) (World.block_lt_of_cell? w8 _ HX2.out)).trans HF2.out)
         have HY1:=Aside0.mk (cell_kept HX1.out hkp (fun h_ => (HKI.out ge h_).1 HED.out))
         have HY0:=Aside0.mk (cell_kept HX0.out hkp (fun h_ => (HKI.out ge h_).1 HED.out))
         clear ho9 hb9 hg9 hat9 hkp
         refine hK.out _ _ ?_ (fun hHeld => ?_)
         ·exact ⟨HY1.out,HY0.out,HX9.out⟩
         clear hK K
         refine norm_ (a':=?_) ?_ ?_
         rotate_left
         ·show Act.put _ (some 40) _ = _
          simp only [Act.put,List.setIfInBounds_toArray,List.set_cons_zero,List.set_cons_succ,i64_w,i32_w]
          rfl
         refine pure_ (i:=15) (N:=some 41) (v:=?_) (a':=?_) #[true,true,true,true,true,true,true,true,true,true,true,true,true,true,true,true,false] rfl rfl (by kernel_rfl) (fun _ _ _ h => h) (Or.inl ⟨by rfl,?_⟩) ?_ ?_
         rotate_left
         ·intro w'
          go_simp
          with_reducible rfl
         rotate_left
         ·simp only [Act.put,List.setIfInBounds_toArray,List.set_cons_zero,List.set_cons_succ,i64_w,i32_w]
          rfl
         refine last_ (i:=16) (N:=none) #[true,true,true,true,true,true,true,true,true,true,true,true,true,true,true,true,true] rfl rfl (by kernel_rfl) (by decide) (fun K hK => ?_)
         have hcs:=HX9.out
         have hfs:=HF9.out
         refine skip_ (w1:=?_) (by rfl) rfl ?_ ?_
         rotate_left
         ·go_simp
          rfl
         refine hK.out _ _ ?_
         clear hK K
         refine done_ (by kernel_rfl) ?_
         go_wp2
         go_roundg k1
         case measure => have:=HK1.out;omega
         case rel => exact ⟨_,_,rfl,H',⟨by have:=HK1.out;omega⟩,HI9⟩
        ·rw [if_neg c8] at H;exact absurd H (by simp)
       ·rw [if_neg c7] at H;exact absurd H (by simp)
      ·rw [if_neg c6] at H;exact absurd H (by simp)
     ·rw [if_neg c5] at H;exact absurd H (by simp)
    ·rw [if_neg c4] at H;exact absurd H (by simp)
   ·rw [if_neg c3] at H
    have H':=Aside0.mk H
    have q3 : decide (i < (es.length : Int)) = false:=decide_eq_false c3
    have HB:=Aside0.mk (show LBInv w (wr.alloc (.cells #[] 58)) (.slice (some ⟨gn,0,none⟩) l0.length l0.length) (.slice (some ⟨wr.heap.size,0,none⟩) 0 0) st [] from ⟨below_alloc HI.out.below _,Kd.S_mono (Kd.S_alloc HI.out.out _) (fun _ _ => trivial),Kd.S_lower (S_lit0 k58 58 wr) HI.out.below.size⟩)
    rw [hln] at HB ⊢
    clear H c3 HI hln
    go_wp2
    go_loopg [6,46] k1 (fun kq v6 v46 w' => ∃ (out : List S58) (i : Int),v46 = .int .i64 i ∧ Aside0 (impl_Graph_loops.l1 kq l0 st out i = some r) ∧ Aside0 (kq ≤ k1) ∧ Aside0 (LBInv w w' (.slice (some ⟨gn,0,none⟩) st.length st.length) v6 st out))
    case atStart => exact ⟨[],0,rfl,H',⟨Nat.le_refl _⟩,HB⟩
    case round =>
     clear H' HB q3
     obtain ⟨out,i,rfl,HA,HK2,HB⟩:=hrel
     obtain ⟨Ao,co,eo⟩:=Kd.S_slice HB.out.out
     subst eo
     cases gk with
     | zero => exact absurd HA.out (by simp [impl_Graph_loops.l1])
     | succ k2 =>
      have H:=HA.out
      clear HA
      simp only [impl_Graph_loops.l1] at H
      by_cases c3 : i < (st.length : Int)
      ·rw [if_pos c3] at H
       by_cases c4 : 0 ≤ i
       ·rw [if_pos c4] at H
        obtain ⟨ad,AL,cL,eA,hx0,hl0,hi0⟩:=at_row (Kd.S_reads' HB.out.st).2.2 i c4 c3
        cases eA
        obtain ⟨y,hy⟩ : ∃ y,y = st.getD i.toNat []:=⟨_,rfl⟩
        rw [← hy] at H hx0 hl0 hi0
        have hx0 : wr.cell? ⟨gn,i.toNat,none⟩ = some (.slice AL y.length cL):=by rw [add_plain] at hx0;exact hx0
        have q3 : decide (i < (st.length : Int)) = true:=decide_eq_true c3
        have q4 : decide (0 ≤ i) = true:=decide_eq_true c4
        have p3:=eq_true c3
        have p4:=eq_true c4
        have HRY:=Aside0.mk hi0
        have HLY:=Aside0.mk hl0
        by_cases c5 : 0 < y.length
        ·rw [if_pos c5] at H
         obtain ⟨bd,B1,H⟩:=Option.bind_eq_some_iff.mp H
         have B:=Aside0.mk B1
         by_cases c6 : out.length < 3518437208883
         ·rw [if_pos c6] at H
          have H':=Aside0.mk H
          have HLM:=Aside0.mk c6
          have q5 : decide ((y.length : Int) > 0) = true:=decide_eq_true (by omega)
          have q6 : decide ((0 : Int) < (y.length : Int)) = true:=decide_eq_true (by omega)
          have p5 : 0 < y.length:=c5
          clear H B1 c3 c4 c5 c6 hi0 hl0 hy
          go_wp2_with (first | (go_at_call 79;refine (impl_Graph_body.calls k2 b A0 c0 l0 i AL cL y bd _ (blk_below HBX.out HB.out.below) (Kd.C_below HR0.out HB.out.below) HC0.out HRY.out HLY.out B.out).mono ?_;rintro e w5 ⟨vb,rfl,hob,hbb⟩;obtain ⟨Ab,cb,eb⟩:=Kd.R_slice hob;subst eb;have HOB:=Aside0.mk hob;have HO5:=Aside0.mk (Kd.S_below (Kd.S_bound HB.out.out) hbb);have HS5:=Aside0.mk (Kd.S_below HB.out.st hbb);have HB5:=Aside0.mk (below_step HB.out.below hbb);have HSZ:=Aside0.mk HB.out.below.size;clear hob hbb HB hx0) | ((with_reducible refine gate_builtin (b:=.append) (xs:=#[.tmp 54,.tmp 61]) rfl ?_);at_builtin;refine Kd.S_append k58 (w0:=w) w.heap.size rfl (.tmp 54) (.tmp 61) 37 58 (.agg #[.int .i64 0,.slice none 0 0,.int .i64 0]) 40 rfl Try.underlying37 (by kernel_rfl) rfl (by decide) (by omega) (.slice Ao out.length co) out ⟨i,bd,-1⟩ [.int .i64 i,.slice Ab bd.length cb,.int .i64 (-1)] (fun _ => True) (fun k_ => some k_ = (Value.slice Ab bd.length cb).ownBlock) rfl rfl ?aP ?aQ ?aF ?aO ?aB ?aS ?aL ?_;(case aP => exact k58_mkM _ _ _ ⟨i,bd,-1⟩ (Kd.R_lower (Kd.R_tight rfl HOB.out) HSZ.out));(case aQ => exact fun k_ hk_ => ⟨trivial,fun he_ => loops_types_ne HOB.out (Kd.S_R HO5.out) (by decide) k_ hk_ he_⟩);(case aF => exact fun _ _ => trivial);(case aO => exact Kd.S_mono HO5.out (fun k_ hk_ => ⟨trivial,fun he_ => by have q1:=hk_.2.2.1;have q2:=Kd.R_base HOB.out k_ he_.symm;omega⟩));(case aB => exact HB5.out);(case aS => exact HB5.out.size);(case aL => have:=HLM.out;omega);intro v62 w6 ho6 hb6 hg6 hat6;have HB6:=Aside0.mk (show LBInv w w6 (.slice (some ⟨gn,0,none⟩) st.length st.length) v62 st (out ++ [⟨i,bd,-1⟩]) from ⟨hb6,Kd.S_over' HS5.out (Kd.S_typed HO5.out) (by decide) hg6,ho6⟩);clear ho6 hb6 hg6 hat6))
          go_roundg k2
          case measure => have:=HK2.out;omega
          case rel => exact ⟨_,_,rfl,H',⟨by have:=HK2.out;omega⟩,HB6⟩
         ·rw [if_neg c6] at H;exact absurd H (by simp)
        ·rw [if_neg c5] at H
         have H':=Aside0.mk H
         have q5 : decide ((y.length : Int) > 0) = false:=decide_eq_false (by omega)
         have q6 : decide ((0 : Int) < (y.length : Int)) = false:=decide_eq_false (by omega)
         have p5 : ¬ 0 < y.length:=c5
         have p6 : y = []:=List.eq_nil_of_length_eq_zero (by omega)
         clear H c3 c4 c5 hi0 hl0 hy
         go_wp2
         go_roundg k2
         case measure => have:=HK2.out;omega
         case rel => exact ⟨_,_,rfl,H',⟨by have:=HK2.out;omega⟩,HB⟩
       ·rw [if_neg c4] at H;exact absurd H (by simp)
      ·rw [if_neg c3] at H
       have H':=Aside0.mk H
       have q3 : decide (i < (st.length : Int)) = false:=decide_eq_false c3
       have HC:=Aside0.mk (show LCInv w wr (.slice Ao out.length co) out from ⟨HB.out.below,HB.out.out⟩)
       obtain ⟨n,hn⟩ : ∃ n,n = out.length:=⟨_,rfl⟩
       rw [← hn] at HC ⊢
       clear H c3 HB hn
       go_wp2
       go_loopg [66] k2 (fun kq v66 w' => ∃ (out : List S58) (i : Int),v66 = .int .i64 i ∧ Aside0 (impl_Graph_loops.l2 kq out i = some r) ∧ Aside0 (kq ≤ k2) ∧ Aside0 (LCInv w w' (.slice Ao n co) out))
       case atStart => exact ⟨_,0,rfl,H',⟨Nat.le_refl _⟩,HC⟩
       case round =>
        clear H' HC q3 out
        obtain ⟨out,i,rfl,HA,HK3,HC⟩:=hrel
        have hnl : n = out.length:=(Kd.S_reads' HC.out.out).1
        cases gk with
        | zero => exact absurd HA.out (by simp [impl_Graph_loops.l2])
        | succ k3 =>
         have H:=HA.out
         clear HA
         simp only [impl_Graph_loops.l2] at H
         rw [← hnl] at H
         by_cases c3 : i < (n : Int)
         ·rw [if_pos c3] at H
          by_cases c4 : 0 ≤ i
          ·rw [if_pos c4] at H
           have H':=Aside0.mk H
           have q3 : decide (i < (n : Int)) = true:=decide_eq_true c3
           have HI3:=Aside0.mk c3
           have HI4:=Aside0.mk c4
           clear H c3 c4 hnl
           go_wp2
           go_loopg [71] k3 (fun kq v71 w' => ∃ (out : List S58) (j : Int),v71 = .int .i64 j ∧ Aside0 (impl_Graph_loops.l3 kq out i j = some r) ∧ Aside0 (kq ≤ k3) ∧ Aside0 (LCInv w w' (.slice Ao n co) out))
           case atStart => exact ⟨_,0,rfl,H',⟨Nat.le_refl _⟩,HC⟩
           case round =>
            clear H' HC q3 out
            obtain ⟨out,j,rfl,HA,HK4,HC⟩:=hrel
            have hnl : n = out.length:=(Kd.S_reads' HC.out.out).1
            cases gk with
            | zero => exact absurd HA.out (by simp [impl_Graph_loops.l3])
            | succ k4 =>
             have H:=HA.out
             clear HA
             simp only [impl_Graph_loops.l3] at H
             rw [← hnl] at H
             by_cases d1 : j < (n : Int)
             ·rw [if_pos d1] at H
              by_cases d2 : 0 ≤ j
              ·rw [if_pos d2] at H
               have d3:=HI3.out
               have d4:=HI4.out
               rw [if_pos d3] at H
               obtain ⟨xj,hxj⟩ : ∃ xj,xj = rd_T58 out j:=⟨_,rfl⟩
               obtain ⟨xi,hxi⟩ : ∃ xi,xi = rd_T58 out i:=⟨_,rfl⟩
               rw [← hxj,← hxi] at H
               obtain ⟨go,AJ,cJ,eA,hbg,hx0,hx1,hx2,hlJ,hiJ⟩:=HC.out.at j d2 d1
               subst eA
               rw [← hxj] at hx0 hx1 hx2 hlJ hiJ
               have HBG:=Aside0.mk hbg
               have HLJ:=Aside0.mk hlJ
               have HIJ:=Aside0.mk hiJ
               have HXI:=Aside0.mk hxi
               have q5 : decide (j < (n : Int)) = true:=decide_eq_true d1
               have q6 : decide (0 ≤ j) = true:=decide_eq_true d2
               have q7 : decide (i < (n : Int)) = true:=decide_eq_true d3
               have q8 : decide (0 ≤ i) = true:=decide_eq_true d4
               have p5:=eq_true d1
               have p6:=eq_true d2
               have p7:=eq_true d3
               have p8:=eq_true d4
               clear d1 d2 d3 d4 hnl hiJ hlJ hbg hxj hxi
               go_upto_region 20 with (fail)
               have HC5:=Aside0.mk (HC.out.step (below_alloc (Below.refl _ _) (.cells #[.int .i64 xj.f0,.slice AJ xj.f1.length cJ,.int .i64 xj.f2] 58)))
               have HX5:=Aside0.mk (heap_alloc_new wr (.cells #[.int .i64 xj.f0,.slice AJ xj.f1.length cJ,.int .i64 xj.f2] 58))
               have HJ5:=Aside0.mk (Kd.C_alloc HIJ.out (.cells #[.int .i64 xj.f0,.slice AJ xj.f1.length cJ,.int .i64 xj.f2] 58))
               clear hx0 hx1 hx2 HC HIJ
               obtain ⟨bx,hbx⟩ : ∃ bx,bx = wr.heap.size:=⟨_,rfl⟩
               rw [← hbx] at HX5 ⊢
               obtain ⟨w5,hw5⟩ : ∃ w5,w5 = wr.alloc (.cells #[.int .i64 xj.f0,.slice AJ xj.f1.length cJ,.int .i64 xj.f2] 58):=⟨_,rfl⟩
               rw [← hw5] at HC5 HX5 HJ5 ⊢
               clear hbx hw5
               have HC6:=Aside0.mk (HC5.out.step (below_drew (Below.refl _ _)))
               have HX6:=Aside0.mk (blk_drew HX5.out)
               have HCJ:=Aside0.mk (Kd.C_drew HJ5.out)
               obtain ⟨go',AI,cI,eA,_,hi0,hi1,hi2,hlI,hiI⟩:=HC6.out.at i (of_eq_true p8) (of_eq_true p7)
               injection eA with eA
               injection eA with eA _ _
               subst eA
               rw [← HXI.out] at hi0 hi1 hi2 hlI hiI
               have HI1:=Aside0.mk hi1
               have HI2:=Aside0.mk hi2
               have HLI:=Aside0.mk hlI
               have HCI:=Aside0.mk hiI
               clear hi0 hi1 hi2 hlI hiI HC5 HX5 HJ5
               by_cases d5 : j = i
               ·rw [if_pos d5] at H
                have H':=Aside0.mk H
                have q9 : (j == i) = true:=by rw [d5];exact beq_self_eq_true i
                clear H d5
                refine start_ (n:=14) (S:=fun w' => w'.cell? ⟨bx,1,none⟩ = some (.slice AJ xj.f1.length cJ) ∧ w'.cell? ⟨go,i.toNat * 3 + 1,none⟩ = some (.slice AI xi.f1.length cI)) (ds:=[]) #[false,false,false,false,false,false,false,false,false,false,false,false,false,false] (by kernel_rfl) rfl rfl ?_ (fun hHeld => ?_)
                ·exact ⟨(blk_cell HX6.out 1).trans rfl,HI1.out⟩
                generalize hw6 : World.drew w5 = w6 at HC6 HX6 HI1 HI2 HCJ HCI hHeld ⊢
                clear hw6
                refine pure_ (i:=0) (N:=some 76) (v:=?_) (a':=?_) #[true,false,false,false,false,false,false,false,false,false,false,false,false,false] rfl rfl (by kernel_rfl) (fun _ _ _ h => h) (Or.inl ⟨by rfl,?_⟩) ?_ ?_
                rotate_left
                ·intro w'
                 go_simp
                 with_reducible rfl
                rotate_left
                ·simp only [Act.put,List.setIfInBounds_toArray,List.set_cons_zero,List.set_cons_succ,i64_w,i32_w]
                 rfl
                refine pure_ (i:=1) (N:=some 77) (v:=?_) (a':=?_) #[true,true,false,false,false,false,false,false,false,false,false,false,false,false] rfl rfl (by kernel_rfl) (fun _ _ _ h => h) (Or.inl ⟨by rfl,?_⟩) ?_ ?_
                rotate_left
                ·intro w'
                 go_simp
                 with_reducible rfl
                rotate_left
                ·simp only [Act.put,List.setIfInBounds_toArray,List.set_cons_zero,List.set_cons_succ,i64_w,i32_w]
                 rfl
                refine pure_ (i:=2) (N:=some 78) (v:=?_) (a':=?_) #[true,true,true,false,false,false,false,false,false,false,false,false,false,false] rfl rfl (by kernel_rfl) (fun _ _ _ h => h) (Or.inl ⟨by rfl,?_⟩) ?_ ?_
                rotate_left
                ·intro w'
                 go_simp
                 with_reducible rfl
                rotate_left
                ·simp only [Act.put,List.setIfInBounds_toArray,List.set_cons_zero,List.set_cons_succ,i64_w,i32_w]
                 rfl
                refine pure_ (i:=3) (N:=some 79) (v:=?_) (a':=?_) #[true,true,true,true,false,false,false,false,false,false,false,false,false,false] rfl rfl (by kernel_rfl) (fun _ _ _ h => h) (Or.inl ⟨by rfl,?_⟩) ?_ ?_
                rotate_left
                ·intro w'
                 go_simp
                 with_reducible rfl
                rotate_left
                ·simp only [Act.put,List.setIfInBounds_toArray,List.set_cons_zero,List.set_cons_succ,i64_w,i32_w]
                 rfl
                refine pure_ (i:=4) (N:=some 80) (v:=undef) (a':=?_) #[true,true,true,true,true,false,false,false,false,false,false,false,false,false] rfl rfl (by kernel_rfl) (fun _ _ _ h => h) (Or.inr ⟨by rfl,rfl⟩) ?_ ?_
                rotate_left
                ·simp only [Act.put,List.setIfInBounds_toArray,List.set_cons_zero,List.set_cons_succ,i64_w,i32_w]
                 rfl
                refine pure_ (i:=5) (N:=some 81) (v:=undef) (a':=?_) #[true,true,true,true,true,true,false,false,false,false,false,false,false,false] rfl rfl (by kernel_rfl) (fun _ _ _ h => h) (Or.inr ⟨by rfl,rfl⟩) ?_ ?_
                rotate_left
                ·simp only [Act.put,List.setIfInBounds_toArray,List.set_cons_zero,List.set_cons_succ,i64_w,i32_w]
                 rfl
                refine pure_ (i:=6) (N:=some 82) (v:=undef) (a':=?_) #[true,true,true,true,true,true,true,false,false,false,false,false,false,false] rfl rfl (by kernel_rfl) (fun _ _ _ h => h) (Or.inr ⟨by rfl,rfl⟩) ?_ ?_
                rotate_left
                ·simp only [Act.put,List.setIfInBounds_toArray,List.set_cons_zero,List.set_cons_succ,i64_w,i32_w]
                 rfl
                refine pure_ (i:=7) (N:=some 83) (v:=undef) (a':=?_) #[true,true,true,true,true,true,true,true,false,false,false,false,false,false] rfl rfl (by kernel_rfl) (fun _ _ _ h => h) (Or.inr ⟨by rfl,rfl⟩) ?_ ?_
                rotate_left
                ·simp only [Act.put,List.setIfInBounds_toArray,List.set_cons_zero,List.set_cons_succ,i64_w,i32_w]
                 rfl
                refine pure_ (i:=8) (N:=some 84) (v:=undef) (a':=?_) #[true,true,true,true,true,true,true,true,true,false,false,false,false,false] rfl rfl (by kernel_rfl) (fun _ _ _ h => h) (Or.inr ⟨by rfl,rfl⟩) ?_ ?_
                rotate_left
                ·simp only [Act.put,List.setIfInBounds_toArray,List.set_cons_zero,List.set_cons_succ,i64_w,i32_w]
                 rfl
                refine pure_ (i:=9) (N:=some 85) (v:=undef) (a':=?_) #[true,true,true,true,true,true,true,true,true,true,false,false,false,false] rfl rfl (by kernel_rfl) (fun _ _ _ h => h) (Or.inr ⟨by rfl,rfl⟩) ?_ ?_
                rotate_left
                ·simp only [Act.put,List.setIfInBounds_toArray,List.set_cons_zero,List.set_cons_succ,i64_w,i32_w]
                 rfl
                refine pure_ (i:=10) (N:=some 86) (v:=undef) (a':=?_) #[true,true,true,true,true,true,true,true,true,true,true,false,false,false] rfl rfl (by kernel_rfl) (fun _ _ _ h => h) (Or.inr ⟨by rfl,rfl⟩) ?_ ?_
                rotate_left
                ·simp only [Act.put,List.setIfInBounds_toArray,List.set_cons_zero,List.set_cons_succ,i64_w,i32_w]
                 rfl
                refine pure_ (i:=11) (N:=some 87) (v:=undef) (a':=?_) #[true,true,true,true,true,true,true,true,true,true,true,true,false,false] rfl rfl (by kernel_rfl) (fun _ _ _ h => h) (Or.inr ⟨by rfl,rfl⟩) ?_ ?_
                rotate_left
                ·simp only [Act.put,List.setIfInBounds_toArray,List.set_cons_zero,List.set_cons_succ,i64_w,i32_w]
                 rfl
                refine pure_ (i:=12) (N:=some 88) (v:=undef) (a':=?_) #[true,true,true,true,true,true,true,true,true,true,true,true,true,false] rfl rfl (by kernel_rfl) (fun _ _ _ h => h) (Or.inr ⟨by rfl,rfl⟩) ?_ ?_
                rotate_left
                ·simp only [Act.put,List.setIfInBounds_toArray,List.set_cons_zero,List.set_cons_succ,i64_w,i32_w]
                 rfl
                refine pure_ (i:=13) (N:=some 89) (v:=?_) (a':=?_) #[true,true,true,true,true,true,true,true,true,true,true,true,true,true] rfl rfl (by kernel_rfl) (fun _ _ _ h => h) (Or.inl ⟨by rfl,?_⟩) ?_ ?_
                rotate_left
                ·intro w'
                 go_simp
                 with_reducible rfl
                rotate_left
                ·simp only [Act.put,List.setIfInBounds_toArray,List.set_cons_zero,List.set_cons_succ,i64_w,i32_w]
                 rfl
                refine done_ (by kernel_rfl) ?_
                go_wp2
                go_roundg k4
                case measure => have:=HK4.out;have:=HK3.out;omega
                case rel => exact ⟨_,_,rfl,H',⟨by have:=HK4.out;have:=HK3.out;omega⟩,HC6⟩
               ·rw [if_neg d5] at H
                obtain ⟨t,B1,H⟩:=Option.bind_eq_some_iff.mp H
                have B:=Aside0.mk B1
                have q9 : (j == i) = false:=by simpa using d5
                clear B1 d5
                cases t with
                | false =>
                 rw [if_neg (by decide)] at H
                 have H':=Aside0.mk H
                 clear H
                 refine start_ (n:=14) (S:=fun w' => w'.cell? ⟨bx,1,none⟩ = some (.slice AJ xj.f1.length cJ) ∧ w'.cell? ⟨go,i.toNat * 3 + 1,none⟩ = some (.slice AI xi.f1.length cI)) (ds:=[]) #[false,false,false,false,false,false,false,false,false,false,false,false,false,false] (by kernel_rfl) rfl rfl ?_ (fun hHeld => ?_)
                 ·exact ⟨(blk_cell HX6.out 1).trans rfl,HI1.out⟩
                 generalize hw6 : World.drew w5 = w6 at HC6 HX6 HI1 HI2 HCJ HCI hHeld ⊢
                 clear hw6
                 refine pure_ (i:=0) (N:=some 76) (v:=?_) (a':=?_) #[true,false,false,false,false,false,false,false,false,false,false,false,false,false] rfl rfl (by kernel_rfl) (fun _ _ _ h => h) (Or.inl ⟨by rfl,?_⟩) ?_ ?_
                 rotate_left
                 ·intro w'
                  go_simp
                  with_reducible rfl
                 rotate_left
                 ·simp only [Act.put,List.setIfInBounds_toArray,List.set_cons_zero,List.set_cons_succ,i64_w,i32_w]
                  rfl
                 refine pure_ (i:=1) (N:=some 77) (v:=?_) (a':=?_) #[true,true,false,false,false,false,false,false,false,false,false,false,false,false] rfl rfl (by kernel_rfl) (fun _ _ _ h => h) (Or.inl ⟨by rfl,?_⟩) ?_ ?_
                 rotate_left
                 ·intro w'
                  go_simp
                  with_reducible rfl
                 rotate_left
                 ·simp only [Act.put,List.setIfInBounds_toArray,List.set_cons_zero,List.set_cons_succ,i64_w,i32_w]
                  rfl
                 refine pure_ (i:=2) (N:=some 78) (v:=?_) (a':=?_) #[true,true,true,false,false,false,false,false,false,false,false,false,false,false] rfl rfl (by kernel_rfl) (fun _ _ _ h => h) (Or.inl ⟨by rfl,?_⟩) ?_ ?_
                 rotate_left
                 ·intro w'
                  go_simp
                  with_reducible rfl
                 rotate_left
                 ·simp only [Act.put,List.setIfInBounds_toArray,List.set_cons_zero,List.set_cons_succ,i64_w,i32_w]
                  rfl
                 refine pure_ (i:=3) (N:=some 79) (v:=?_) (a':=?_) #[true,true,true,true,false,false,false,false,false,false,false,false,false,false] rfl rfl (by kernel_rfl) (fun _ _ _ h => h) (Or.inl ⟨by rfl,?_⟩) ?_ ?_
                 rotate_left
                 ·intro w'
                  go_simp
                  with_reducible rfl
                 rotate_left
                 ·simp only [Act.put,List.setIfInBounds_toArray,List.set_cons_zero,List.set_cons_succ,i64_w,i32_w]
                  rfl
                 refine pure_ (i:=4) (N:=some 80) (v:=?_) (a':=?_) #[true,true,true,true,true,false,false,false,false,false,false,false,false,false] rfl rfl (by kernel_rfl) (fun _ _ _ h => h) (Or.inl ⟨by rfl,?_⟩) ?_ ?_
                 rotate_left
                 ·intro w'
                  go_simp
                  with_reducible rfl
                 rotate_left
                 ·simp only [Act.put,List.setIfInBounds_toArray,List.set_cons_zero,List.set_cons_succ,i64_w,i32_w]
                  rfl
                 refine pure_ (i:=6) (N:=some 82) (v:=?_) (a':=?_) #[true,true,true,true,true,false,true,false,false,false,false,false,false,false] rfl rfl (by kernel_rfl) (fun _ _ _ h => h) (Or.inl ⟨by rfl,?_⟩) ?_ ?_
                 rotate_left
                 ·intro w'
                  go_simp
                  with_reducible rfl
                 rotate_left
                 ·simp only [Act.put,List.setIfInBounds_toArray,List.set_cons_zero,List.set_cons_succ,i64_w,i32_w]
                  rfl
                 refine pure_ (i:=7) (N:=some 83) (v:=?_) (a':=?_) #[true,true,true,true,true,false,true,true,false,false,false,false,false,false] rfl rfl (by kernel_rfl) (fun _ _ _ h => h) (Or.inl ⟨by rfl,?_⟩) ?_ ?_
                 rotate_left
                 ·intro w'
                  go_simp
                  with_reducible rfl
                 rotate_left
                 ·simp only [Act.put,List.setIfInBounds_toArray,List.set_cons_zero,List.set_cons_succ,i64_w,i32_w]
                  rfl
                 refine pure_ (i:=8) (N:=some 84) (v:=?_) (a':=?_) #[true,true,true,true,true,false,true,true,true,false,false,false,false,false] rfl rfl (by kernel_rfl) (fun _ _ _ h => h) (Or.inl ⟨by rfl,?_⟩) ?_ ?_
                 rotate_left
                 ·intro w'
                  go_simp
                  with_reducible rfl
                 rotate_left
                 ·simp only [Act.put,List.setIfInBounds_toArray,List.set_cons_zero,List.set_cons_succ,i64_w,i32_w]
                  rfl
                 refine pure_ (i:=9) (N:=some 85) (v:=?_) (a':=?_) #[true,true,true,true,true,false,true,true,true,true,false,false,false,false] rfl rfl (by kernel_rfl) (fun _ _ _ h => h) (Or.inl ⟨by rfl,?_⟩) ?_ ?_
                 rotate_left
                 ·intro w'
                  go_simp
                  with_reducible rfl
                 rotate_left
                 ·simp only [Act.put,List.setIfInBounds_toArray,List.set_cons_zero,List.set_cons_succ,i64_w,i32_w]
                  rfl
                 refine take_ (i:=5) (N:=some 81) (v:=?_) (a':=?_) #[true,true,true,true,true,true,true,true,true,true,false,false,false,false] rfl rfl (by kernel_rfl) (fun _ _ _ h => h) (Or.inl ⟨by rfl,?_⟩) hHeld ?_ ?_
                 rotate_left
                 ·rintro w' ⟨s0,s1⟩
                  go_simp
                  with_reducible rfl
                 rotate_left
                 ·simp only [Act.put,List.setIfInBounds_toArray,List.set_cons_zero,List.set_cons_succ,i64_w,i32_w]
                  rfl
                 refine take_ (i:=10) (N:=some 86) (v:=?_) (a':=?_) #[true,true,true,true,true,true,true,true,true,true,true,false,false,false] rfl rfl (by kernel_rfl) (fun _ _ _ h => h) (Or.inl ⟨by rfl,?_⟩) hHeld ?_ ?_
                 rotate_left
                 ·rintro w' ⟨s0,s1⟩
                  go_simp
                  with_reducible rfl
                 rotate_left
                 ·simp only [Act.put,List.setIfInBounds_toArray,List.set_cons_zero,List.set_cons_succ,i64_w,i32_w]
                  rfl
                 refine one_ (i:=11) (N:=some 87) #[true,true,true,true,true,true,true,true,true,true,true,true,false,false] rfl rfl (by kernel_rfl) (by decide) (fun K hK => ?_)
                 refine goes_ Try.func80 (by kernel_rfl) rfl #[.slice AJ xj.f1.length cJ,.slice AI xi.f1.length cI] (by rfl) rfl rfl (by simp only [List.map_toArray,List.map_cons,List.map_nil];rfl) ?_
                 with_reducible refine (impl_holdsAll.calls k4 AJ cJ xj.f1 AI cI xi.f1 false w6 HCJ.out HLJ.out HCI.out HLI.out B.out).mono ?_
                 rintro e w9 ⟨rfl,hb9⟩
                 refine ⟨_,rfl,?_⟩
                 have HC9:=Aside0.mk (HC6.out.step hb9)
                 have HX9:=Aside0.mk (blk_below HX6.out hb9)
                 have HY9:=Aside0.mk (pw_cell_below hb9 HI1.out)
                 have HZ9:=Aside0.mk (pw_cell_below hb9 HI2.out)
                 clear hb9
                 refine hK.out _ _ ?_ (fun hHeld => ?_)
                 ·exact ⟨(blk_cell HX9.out 1).trans rfl,HY9.out⟩
                 clear hK K
                 refine norm_ (a':=?_) ?_ ?_
                 rotate_left
                 ·show Act.put _ (some 87) _ = _
                  simp only [Act.put,List.setIfInBounds_toArray,List.set_cons_zero,List.set_cons_succ,i64_w,i32_w]
                  rfl
                 refine pure_ (i:=12) (N:=some 88) (v:=?_) (a':=?_) #[true,true,true,true,true,true,true,true,true,true,true,true,true,false] rfl rfl (by kernel_rfl) (fun _ _ _ h => h) (Or.inl ⟨by rfl,?_⟩) ?_ ?_
                 rotate_left
                 ·intro w'
                  go_simp
                  with_reducible rfl
                 rotate_left
                 ·simp only [Act.put,List.setIfInBounds_toArray,List.set_cons_zero,List.set_cons_succ,i64_w,i32_w]
                  rfl
                 refine pure_ (i:=13) (N:=some 89) (v:=?_) (a':=?_) #[true,true,true,true,true,true,true,true,true,true,true,true,true,true] rfl rfl (by kernel_rfl) (fun _ _ _ h => h) (Or.inl ⟨by rfl,?_⟩) ?_ ?_
                 rotate_left
                 ·intro w'
                  go_simp
                  with_reducible rfl
                 rotate_left
                 ·simp only [Act.put,List.setIfInBounds_toArray,List.set_cons_zero,List.set_cons_succ,i64_w,i32_w]
                  rfl
                 refine done_ (by kernel_rfl) ?_
                 go_wp2
                 go_roundg k4
                 case measure => have:=HK4.out;have:=HK3.out;omega
                 case rel => exact ⟨_,_,rfl,H',⟨by have:=HK4.out;have:=HK3.out;omega⟩,HC9⟩
                | true =>
                 rw [if_pos rfl] at H
                 by_cases e1 : xi.f2 < 0
                 ·rw [if_pos e1] at H
                  have H':=Aside0.mk H
                  have e2 : decide (xi.f2 < 0) = true:=decide_eq_true e1
                  clear H e1
                  refine start_ (n:=14) (S:=fun w' => w'.cell? ⟨bx,1,none⟩ = some (.slice AJ xj.f1.length cJ) ∧ w'.cell? ⟨go,i.toNat * 3 + 1,none⟩ = some (.slice AI xi.f1.length cI)) (ds:=[]) #[false,false,false,false,false,false,false,false,false,false,false,false,false,false] (by kernel_rfl) rfl rfl ?_ (fun hHeld => ?_)
                  ·exact ⟨(blk_cell HX6.out 1).trans rfl,HI1.out⟩
                  generalize hw6 : World.drew w5 = w6 at HC6 HX6 HI1 HI2 HCJ HCI hHeld ⊢
                  clear hw6
                  refine pure_ (i:=0) (N:=some 76) (v:=?_) (a':=?_) #[true,false,false,false,false,false,false,false,false,false,false,false,false,false] rfl rfl (by kernel_rfl) (fun _ _ _ h => h) (Or.inl ⟨by rfl,?_⟩) ?_ ?_
                  rotate_left
                  ·intro w'
                   go_simp
                   with_reducible rfl
                  rotate_left
                  ·simp only [Act.put,List.setIfInBounds_toArray,List.set_cons_zero,List.set_cons_succ,i64_w,i32_w]
                   rfl
                  refine pure_ (i:=1) (N:=some 77) (v:=?_) (a':=?_) #[true,true,false,false,false,false,false,false,false,false,false,false,false,false] rfl rfl (by kernel_rfl) (fun _ _ _ h => h) (Or.inl ⟨by rfl,?_⟩) ?_ ?_
                  rotate_left
                  ·intro w'
                   go_simp
                   with_reducible rfl
                  rotate_left
                  ·simp only [Act.put,List.setIfInBounds_toArray,List.set_cons_zero,List.set_cons_succ,i64_w,i32_w]
                   rfl
                  refine pure_ (i:=2) (N:=some 78) (v:=?_) (a':=?_) #[true,true,true,false,false,false,false,false,false,false,false,false,false,false] rfl rfl (by kernel_rfl) (fun _ _ _ h => h) (Or.inl ⟨by rfl,?_⟩) ?_ ?_
                  rotate_left
                  ·intro w'
                   go_simp
                   with_reducible rfl
                  rotate_left
                  ·simp only [Act.put,List.setIfInBounds_toArray,List.set_cons_zero,List.set_cons_succ,i64_w,i32_w]
                   rfl
                  refine pure_ (i:=3) (N:=some 79) (v:=?_) (a':=?_) #[true,true,true,true,false,false,false,false,false,false,false,false,false,false] rfl rfl (by kernel_rfl) (fun _ _ _ h => h) (Or.inl ⟨by rfl,?_⟩) ?_ ?_
                  rotate_left
                  ·intro w'
                   go_simp
                   with_reducible rfl
                  rotate_left
                  ·simp only [Act.put,List.setIfInBounds_toArray,List.set_cons_zero,List.set_cons_succ,i64_w,i32_w]
                   rfl
                  refine pure_ (i:=4) (N:=some 80) (v:=?_) (a':=?_) #[true,true,true,true,true,false,false,false,false,false,false,false,false,false] rfl rfl (by kernel_rfl) (fun _ _ _ h => h) (Or.inl ⟨by rfl,?_⟩) ?_ ?_
                  rotate_left
                  ·intro w'
                   go_simp
                   with_reducible rfl
                  rotate_left
                  ·simp only [Act.put,List.setIfInBounds_toArray,List.set_cons_zero,List.set_cons_succ,i64_w,i32_w]
                   rfl
                  refine pure_ (i:=6) (N:=some 82) (v:=?_) (a':=?_) #[true,true,true,true,true,false,true,false,false,false,false,false,false,false] rfl rfl (by kernel_rfl) (fun _ _ _ h => h) (Or.inl ⟨by rfl,?_⟩) ?_ ?_
                  rotate_left
                  ·intro w'
                   go_simp
                   with_reducible rfl
                  rotate_left
                  ·simp only [Act.put,List.setIfInBounds_toArray,List.set_cons_zero,List.set_cons_succ,i64_w,i32_w]
                   rfl
                  refine pure_ (i:=7) (N:=some 83) (v:=?_) (a':=?_) #[true,true,true,true,true,false,true,true,false,false,false,false,false,false] rfl rfl (by kernel_rfl) (fun _ _ _ h => h) (Or.inl ⟨by rfl,?_⟩) ?_ ?_
                  rotate_left
                  ·intro w'
                   go_simp
                   with_reducible rfl
                  rotate_left
                  ·simp only [Act.put,List.setIfInBounds_toArray,List.set_cons_zero,List.set_cons_succ,i64_w,i32_w]
                   rfl
                  refine pure_ (i:=8) (N:=some 84) (v:=?_) (a':=?_) #[true,true,true,true,true,false,true,true,true,false,false,false,false,false] rfl rfl (by kernel_rfl) (fun _ _ _ h => h) (Or.inl ⟨by rfl,?_⟩) ?_ ?_
                  rotate_left
                  ·intro w'
                   go_simp
                   with_reducible rfl
                  rotate_left
                  ·simp only [Act.put,List.setIfInBounds_toArray,List.set_cons_zero,List.set_cons_succ,i64_w,i32_w]
                   rfl
                  refine pure_ (i:=9) (N:=some 85) (v:=?_) (a':=?_) #[true,true,true,true,true,false,true,true,true,true,false,false,false,false] rfl rfl (by kernel_rfl) (fun _ _ _ h => h) (Or.inl ⟨by rfl,?_⟩) ?_ ?_
                  rotate_left
                  ·intro w'
                   go_simp
                   with_reducible rfl
                  rotate_left
                  ·simp only [Act.put,List.setIfInBounds_toArray,List.set_cons_zero,List.set_cons_succ,i64_w,i32_w]
                   rfl
                  refine take_ (i:=5) (N:=some 81) (v:=?_) (a':=?_) #[true,true,true,true,true,true,true,true,true,true,false,false,false,false] rfl rfl (by kernel_rfl) (fun _ _ _ h => h) (Or.inl ⟨by rfl,?_⟩) hHeld ?_ ?_
                  rotate_left
                  ·rintro w' ⟨s0,s1⟩
                   go_simp
                   with_reducible rfl
                  rotate_left
                  ·simp only [Act.put,List.setIfInBounds_toArray,List.set_cons_zero,List.set_cons_succ,i64_w,i32_w]
                   rfl
                  refine take_ (i:=10) (N:=some 86) (v:=?_) (a':=?_) #[true,true,true,true,true,true,true,true,true,true,true,false,false,false] rfl rfl (by kernel_rfl) (fun _ _ _ h => h) (Or.inl ⟨by rfl,?_⟩) hHeld ?_ ?_
                  rotate_left
                  ·rintro w' ⟨s0,s1⟩
                   go_simp
                   with_reducible rfl
                  rotate_left
                  ·simp only [Act.put,List.setIfInBounds_toArray,List.set_cons_zero,List.set_cons_succ,i64_w,i32_w]
                   rfl
                  refine one_ (i:=11) (N:=some 87) #[true,true,true,true,true,true,true,true,true,true,true,true,false,false] rfl rfl (by kernel_rfl) (by decide) (fun K hK => ?_)
                  refine goes_ Try.func80 (by kernel_rfl) rfl #[.slice AJ xj.f1.length cJ,.slice AI xi.f1.length cI] (by rfl) rfl rfl (by simp only [List.map_toArray,List.map_cons,List.map_nil];rfl) ?_
                  with_reducible refine (impl_holdsAll.calls k4 AJ cJ xj.f1 AI cI xi.f1 true w6 HCJ.out HLJ.out HCI.out HLI.out B.out).mono ?_
                  rintro e w9 ⟨rfl,hb9⟩
                  refine ⟨_,rfl,?_⟩
                  have HC9:=Aside0.mk (HC6.out.step hb9)
                  have HX9:=Aside0.mk (blk_below HX6.out hb9)
                  have HY9:=Aside0.mk (pw_cell_below hb9 HI1.out)
                  have HZ9:=Aside0.mk (pw_cell_below hb9 HI2.out)
                  clear hb9
                  refine hK.out _ _ ?_ (fun hHeld => ?_)
                  ·exact ⟨(blk_cell HX9.out 1).trans rfl,HY9.out⟩
                  clear hK K
                  refine norm_ (a':=?_) ?_ ?_
                  rotate_left
                  ·show Act.put _ (some 87) _ = _
                   simp only [Act.put,List.setIfInBounds_toArray,List.set_cons_zero,List.set_cons_succ,i64_w,i32_w]
                   rfl
                  refine pure_ (i:=12) (N:=some 88) (v:=?_) (a':=?_) #[true,true,true,true,true,true,true,true,true,true,true,true,true,false] rfl rfl (by kernel_rfl) (fun _ _ _ h => h) (Or.inl ⟨by rfl,?_⟩) ?_ ?_
                  rotate_left
                  ·intro w'
                   go_simp
                   with_reducible rfl
                  rotate_left
                  ·simp only [Act.put,List.setIfInBounds_toArray,List.set_cons_zero,List.set_cons_succ,i64_w,i32_w]
                   rfl
                  refine pure_ (i:=13) (N:=some 89) (v:=?_) (a':=?_) #[true,true,true,true,true,true,true,true,true,true,true,true,true,true] rfl rfl (by kernel_rfl) (fun _ _ _ h => h) (Or.inl ⟨by rfl,?_⟩) ?_ ?_
                  rotate_left
                  ·intro w'
                   go_simp
                   with_reducible rfl
                  rotate_left
                  ·simp only [Act.put,List.setIfInBounds_toArray,List.set_cons_zero,List.set_cons_succ,i64_w,i32_w]
                   rfl
                  refine done_ (by kernel_rfl) ?_
                  have hz2:=HZ9.out
                  go_upto_region 22 with (fail)
                  clear hz2
                  have HC10:=Aside0.mk (HC9.out.step (below_drew (Below.refl _ _)))
                  have HX10:=Aside0.mk (blk_drew HX9.out)
                  have HZ10:=Aside0.mk (pw_cell_below (below_drew (Below.refl _ _)) HZ9.out)
                  clear HC9 HX9 HY9 HZ9
                  refine start_ (n:=14) (S:=fun w' => True) (ds:=[]) #[false,false,false,false,false,false,false,false,false,false,false,false,false,false] (by kernel_rfl) rfl rfl ?_ (fun hHeld => ?_)
                  ·exact trivial
                  generalize hw10 : World.drew w9 = w10 at HC10 HX10 HZ10 hHeld ⊢
                  clear hw10
                  refine pure_ (i:=0) (N:=some 95) (v:=?_) (a':=?_) #[true,false,false,false,false,false,false,false,false,false,false,false,false,false] rfl rfl (by kernel_rfl) (fun _ _ _ h => h) (Or.inl ⟨by rfl,?_⟩) ?_ ?_
                  rotate_left
                  ·intro w'
                   go_simp
                   with_reducible rfl
                  rotate_left
                  ·simp only [Act.put,List.setIfInBounds_toArray,List.set_cons_zero,List.set_cons_succ,i64_w,i32_w]
                   rfl
                  refine pure_ (i:=1) (N:=some 96) (v:=?_) (a':=?_) #[true,true,false,false,false,false,false,false,false,false,false,false,false,false] rfl rfl (by kernel_rfl) (fun _ _ _ h => h) (Or.inl ⟨by rfl,?_⟩) ?_ ?_
                  rotate_left
                  ·intro w'
                   go_simp
                   with_reducible rfl
                  rotate_left
                  ·simp only [Act.put,List.setIfInBounds_toArray,List.set_cons_zero,List.set_cons_succ,i64_w,i32_w]
                   rfl
                  refine pure_ (i:=2) (N:=some 97) (v:=?_) (a':=?_) #[true,true,true,false,false,false,false,false,false,false,false,false,false,false] rfl rfl (by kernel_rfl) (fun _ _ _ h => h) (Or.inl ⟨by rfl,?_⟩) ?_ ?_
                  rotate_left
                  ·intro w'
                   go_simp
                   with_reducible rfl
                  rotate_left
                  ·simp only [Act.put,List.setIfInBounds_toArray,List.set_cons_zero,List.set_cons_succ,i64_w,i32_w]
                   rfl
                  refine pure_ (i:=3) (N:=some 98) (v:=undef) (a':=?_) #[true,true,true,true,false,false,false,false,false,false,false,false,false,false] rfl rfl (by kernel_rfl) (fun _ _ _ h => h) (Or.inr ⟨by rfl,rfl⟩) ?_ ?_
                  rotate_left
                  ·simp only [Act.put,List.setIfInBounds_toArray,List.set_cons_zero,List.set_cons_succ,i64_w,i32_w]
                   rfl
                  refine pure_ (i:=4) (N:=some 99) (v:=undef) (a':=?_) #[true,true,true,true,true,false,false,false,false,false,false,false,false,false] rfl rfl (by kernel_rfl) (fun _ _ _ h => h) (Or.inr ⟨by rfl,rfl⟩) ?_ ?_
                  rotate_left
                  ·simp only [Act.put,List.setIfInBounds_toArray,List.set_cons_zero,List.set_cons_succ,i64_w,i32_w]
                   rfl
                  refine pure_ (i:=5) (N:=some 100) (v:=undef) (a':=?_) #[true,true,true,true,true,true,false,false,false,false,false,false,false,false] rfl rfl (by kernel_rfl) (fun _ _ _ h => h) (Or.inr ⟨by rfl,rfl⟩) ?_ ?_
                  rotate_left
                  ·simp only [Act.put,List.setIfInBounds_toArray,List.set_cons_zero,List.set_cons_succ,i64_w,i32_w]
                   rfl
                  refine pure_ (i:=6) (N:=some 101) (v:=undef) (a':=?_) #[true,true,true,true,true,true,true,false,false,false,false,false,false,false] rfl rfl (by kernel_rfl) (fun _ _ _ h => h) (Or.inr ⟨by rfl,rfl⟩) ?_ ?_
                  rotate_left
                  ·simp only [Act.put,List.setIfInBounds_toArray,List.set_cons_zero,List.set_cons_succ,i64_w,i32_w]
                   rfl
                  refine pure_ (i:=7) (N:=some 102) (v:=undef) (a':=?_) #[true,true,true,true,true,true,true,true,false,false,false,false,false,false] rfl rfl (by kernel_rfl) (fun _ _ _ h => h) (Or.inr ⟨by rfl,rfl⟩) ?_ ?_
                  rotate_left
                  ·simp only [Act.put,List.setIfInBounds_toArray,List.set_cons_zero,List.set_cons_succ,i64_w,i32_w]
                   rfl
                  refine pure_ (i:=8) (N:=some 103) (v:=undef) (a':=?_) #[true,true,true,true,true,true,true,true,true,false,false,false,false,false] rfl rfl (by kernel_rfl) (fun _ _ _ h => h) (Or.inr ⟨by rfl,rfl⟩) ?_ ?_
                  rotate_left
                  ·simp only [Act.put,List.setIfInBounds_toArray,List.set_cons_zero,List.set_cons_succ,i64_w,i32_w]
                   rfl
                  refine pure_ (i:=9) (N:=some 104) (v:=undef) (a':=?_) #[true,true,true,true,true,true,true,true,true,true,false,false,false,false] rfl rfl (by kernel_rfl) (fun _ _ _ h => h) (Or.inr ⟨by rfl,rfl⟩) ?_ ?_
                  rotate_left
                  ·simp only [Act.put,List.setIfInBounds_toArray,List.set_cons_zero,List.set_cons_succ,i64_w,i32_w]
                   rfl
                  refine pure_ (i:=10) (N:=some 105) (v:=undef) (a':=?_) #[true,true,true,true,true,true,true,true,true,true,true,false,false,false] rfl rfl (by kernel_rfl) (fun _ _ _ h => h) (Or.inr ⟨by rfl,rfl⟩) ?_ ?_
                  rotate_left
                  ·simp only [Act.put,List.setIfInBounds_toArray,List.set_cons_zero,List.set_cons_succ,i64_w,i32_w]
                   rfl
                  refine pure_ (i:=11) (N:=some 106) (v:=undef) (a':=?_) #[true,true,true,true,true,true,true,true,true,true,true,true,false,false] rfl rfl (by kernel_rfl) (fun _ _ _ h => h) (Or.inr ⟨by rfl,rfl⟩) ?_ ?_
                  rotate_left
                  ·simp only [Act.put,List.setIfInBounds_toArray,List.set_cons_zero,List.set_cons_succ,i64_w,i32_w]
                   rfl
                  refine pure_ (i:=12) (N:=some 107) (v:=undef) (a':=?_) #[true,true,true,true,true,true,true,true,true,true,true,true,true,false] rfl rfl (by kernel_rfl) (fun _ _ _ h => h) (Or.inr ⟨by rfl,rfl⟩) ?_ ?_
                  rotate_left
                  ·simp only [Act.put,List.setIfInBounds_toArray,List.set_cons_zero,List.set_cons_succ,i64_w,i32_w]
                   rfl
                  refine pure_ (i:=13) (N:=some 108) (v:=?_) (a':=?_) #[true,true,true,true,true,true,true,true,true,true,true,true,true,true] rfl rfl (by kernel_rfl) (fun _ _ _ h => h) (Or.inl ⟨by rfl,?_⟩) ?_ ?_
                  rotate_left
                  ·intro w'
                   go_simp
                   with_reducible rfl
                  rotate_left
                  ·simp only [Act.put,List.setIfInBounds_toArray,List.set_cons_zero,List.set_cons_succ,i64_w,i32_w]
                   rfl
                  refine done_ (by kernel_rfl) ?_
                  have HPP:=HC10.out.put i j (of_eq_true p8) (of_eq_true p7) HBG.out
                  rw [← HXI.out] at HPP
                  have HP1:=Aside0.mk HPP.1
                  have hfz:=HPP.2
                  have hz2:=HZ10.out
                  clear HPP
                  go_wp2
                  go_roundg k4
                  case measure => have:=HK4.out;have:=HK3.out;omega
                  case rel => exact ⟨_,_,rfl,H',⟨by have:=HK4.out;have:=HK3.out;omega⟩,HP1⟩
                 ·rw [if_neg e1] at H
                  have e2 : decide (xi.f2 < 0) = false:=decide_eq_false e1
                  by_cases e3 : xi.f2 < (n : Int)
                  ·rw [if_pos e3] at H
                   obtain ⟨xu,hxu⟩ : ∃ xu,xu = rd_T58 out xi.f2:=⟨_,rfl⟩
                   rw [← hxu] at H
                   have p9 : (0 ≤ xi.f2) = True:=eq_true (by omega)
                   have p10:=eq_true e3
                   have q10 : decide (0 ≤ xi.f2) = true:=decide_eq_true (by omega)
                   have q11 : decide (xi.f2 < (n : Int)) = true:=decide_eq_true e3
                   have HXU:=Aside0.mk hxu
                   clear e1 e3 hxu
                   by_cases e4 : (xj.f1.length : Int) < (xu.f1.length : Int)
                   ·rw [if_pos e4] at H
                    have H':=Aside0.mk H
                    have e5 : decide ((xj.f1.length : Int) < (xu.f1.length : Int)) = true:=decide_eq_true e4
                    have e6 : decide (xj.f1.length < xu.f1.length) = true:=decide_eq_true (by omega)
                    clear H e4
                    refine start_ (n:=14) (S:=fun w' => w'.cell? ⟨bx,1,none⟩ = some (.slice AJ xj.f1.length cJ) ∧ w'.cell? ⟨go,i.toNat * 3 + 1,none⟩ = some (.slice AI xi.f1.length cI)) (ds:=[]) #[false,false,false,false,false,false,false,false,false,false,false,false,false,false] (by kernel_rfl) rfl rfl ?_ (fun hHeld => ?_)
                    ·exact ⟨(blk_cell HX6.out 1).trans rfl,HI1.out⟩
                    generalize hw6 : World.drew w5 = w6 at HC6 HX6 HI1 HI2 HCJ HCI hHeld ⊢
                    clear hw6
                    refine pure_ (i:=0) (N:=some 76) (v:=?_) (a':=?_) #[true,false,false,false,false,false,false,false,false,false,false,false,false,false] rfl rfl (by kernel_rfl) (fun _ _ _ h => h) (Or.inl ⟨by rfl,?_⟩) ?_ ?_
                    rotate_left
                    ·intro w'
                     go_simp
                     with_reducible rfl
                    rotate_left
                    ·simp only [Act.put,List.setIfInBounds_toArray,List.set_cons_zero,List.set_cons_succ,i64_w,i32_w]
                     rfl
                    refine pure_ (i:=1) (N:=some 77) (v:=?_) (a':=?_) #[true,true,false,false,false,false,false,false,false,false,false,false,false,false] rfl rfl (by kernel_rfl) (fun _ _ _ h => h) (Or.inl ⟨by rfl,?_⟩) ?_ ?_
                    rotate_left
                    ·intro w'
                     go_simp
                     with_reducible rfl
                    rotate_left
                    ·simp only [Act.put,List.setIfInBounds_toArray,List.set_cons_zero,List.set_cons_succ,i64_w,i32_w]
                     rfl
                    refine pure_ (i:=2) (N:=some 78) (v:=?_) (a':=?_) #[true,true,true,false,false,false,false,false,false,false,false,false,false,false] rfl rfl (by kernel_rfl) (fun _ _ _ h => h) (Or.inl ⟨by rfl,?_⟩) ?_ ?_
                    rotate_left
                    ·intro w'
                     go_simp
                     with_reducible rfl
                    rotate_left
                    ·simp only [Act.put,List.setIfInBounds_toArray,List.set_cons_zero,List.set_cons_succ,i64_w,i32_w]
                     rfl
                    refine pure_ (i:=3) (N:=some 79) (v:=?_) (a':=?_) #[true,true,true,true,false,false,false,false,false,false,false,false,false,false] rfl rfl (by kernel_rfl) (fun _ _ _ h => h) (Or.inl ⟨by rfl,?_⟩) ?_ ?_
                    rotate_left
                    ·intro w'
                     go_simp
                     with_reducible rfl
                    rotate_left
                    ·simp only [Act.put,List.setIfInBounds_toArray,List.set_cons_zero,List.set_cons_succ,i64_w,i32_w]
                     rfl
                    refine pure_ (i:=4) (N:=some 80) (v:=?_) (a':=?_) #[true,true,true,true,true,false,false,false,false,false,false,false,false,false] rfl rfl (by kernel_rfl) (fun _ _ _ h => h) (Or.inl ⟨by rfl,?_⟩) ?_ ?_
                    rotate_left
                    ·intro w'
                     go_simp
                     with_reducible rfl
                    rotate_left
                    ·simp only [Act.put,List.setIfInBounds_toArray,List.set_cons_zero,List.set_cons_succ,i64_w,i32_w]
                     rfl
                    refine pure_ (i:=6) (N:=some 82) (v:=?_) (a':=?_) #[true,true,true,true,true,false,true,false,false,false,false,false,false,false] rfl rfl (by kernel_rfl) (fun _ _ _ h => h) (Or.inl ⟨by rfl,?_⟩) ?_ ?_
                    rotate_left
                    ·intro w'
                     go_simp
                     with_reducible rfl
                    rotate_left
                    ·simp only [Act.put,List.setIfInBounds_toArray,List.set_cons_zero,List.set_cons_succ,i64_w,i32_w]
                     rfl
                    refine pure_ (i:=7) (N:=some 83) (v:=?_) (a':=?_) #[true,true,true,true,true,false,true,true,false,false,false,false,false,false] rfl rfl (by kernel_rfl) (fun _ _ _ h => h) (Or.inl ⟨by rfl,?_⟩) ?_ ?_
                    rotate_left
                    ·intro w'
                     go_simp
                     with_reducible rfl
                    rotate_left
                    ·simp only [Act.put,List.setIfInBounds_toArray,List.set_cons_zero,List.set_cons_succ,i64_w,i32_w]
                     rfl
                    refine pure_ (i:=8) (N:=some 84) (v:=?_) (a':=?_) #[true,true,true,true,true,false,true,true,true,false,false,false,false,false] rfl rfl (by kernel_rfl) (fun _ _ _ h => h) (Or.inl ⟨by rfl,?_⟩) ?_ ?_
                    rotate_left
                    ·intro w'
                     go_simp
                     with_reducible rfl
                    rotate_left
                    ·simp only [Act.put,List.setIfInBounds_toArray,List.set_cons_zero,List.set_cons_succ,i64_w,i32_w]
                     rfl
                    refine pure_ (i:=9) (N:=some 85) (v:=?_) (a':=?_) #[true,true,true,true,true,false,true,true,true,true,false,false,false,false] rfl rfl (by kernel_rfl) (fun _ _ _ h => h) (Or.inl ⟨by rfl,?_⟩) ?_ ?_
                    rotate_left
                    ·intro w'
                     go_simp
                     with_reducible rfl
                    rotate_left
                    ·simp only [Act.put,List.setIfInBounds_toArray,List.set_cons_zero,List.set_cons_succ,i64_w,i32_w]
                     rfl
                    refine take_ (i:=5) (N:=some 81) (v:=?_) (a':=?_) #[true,true,true,true,true,true,true,true,true,true,false,false,false,false] rfl rfl (by kernel_rfl) (fun _ _ _ h => h) (Or.inl ⟨by rfl,?_⟩) hHeld ?_ ?_
                    rotate_left
                    ·rintro w' ⟨s0,s1⟩
                     go_simp
                     with_reducible rfl
                    rotate_left
                    ·simp only [Act.put,List.setIfInBounds_toArray,List.set_cons_zero,List.set_cons_succ,i64_w,i32_w]
                     rfl
                    refine take_ (i:=10) (N:=some 86) (v:=?_) (a':=?_) #[true,true,true,true,true,true,true,true,true,true,true,false,false,false] rfl rfl (by kernel_rfl) (fun _ _ _ h => h) (Or.inl ⟨by rfl,?_⟩) hHeld ?_ ?_
                    rotate_left
                    ·rintro w' ⟨s0,s1⟩
                     go_simp
                     with_reducible rfl
                    rotate_left
                    ·simp only [Act.put,List.setIfInBounds_toArray,List.set_cons_zero,List.set_cons_succ,i64_w,i32_w]
                     rfl
                    refine one_ (i:=11) (N:=some 87) #[true,true,true,true,true,true,true,true,true,true,true,true,false,false] rfl rfl (by kernel_rfl) (by decide) (fun K hK => ?_)
                    refine goes_ Try.func80 (by kernel_rfl) rfl #[.slice AJ xj.f1.length cJ,.slice AI xi.f1.length cI] (by rfl) rfl rfl (by simp only [List.map_toArray,List.map_cons,List.map_nil];rfl) ?_
                    with_reducible refine (impl_holdsAll.calls k4 AJ cJ xj.f1 AI cI xi.f1 true w6 HCJ.out HLJ.out HCI.out HLI.out B.out).mono ?_
                    rintro e w9 ⟨rfl,hb9⟩
                    refine ⟨_,rfl,?_⟩
                    have HC9:=Aside0.mk (HC6.out.step hb9)
                    have HX9:=Aside0.mk (blk_below HX6.out hb9)
                    have HY9:=Aside0.mk (pw_cell_below hb9 HI1.out)
                    have HZ9:=Aside0.mk (pw_cell_below hb9 HI2.out)
                    clear hb9
                    refine hK.out _ _ ?_ (fun hHeld => ?_)
                    ·exact ⟨(blk_cell HX9.out 1).trans rfl,HY9.out⟩
                    clear hK K
                    refine norm_ (a':=?_) ?_ ?_
                    rotate_left
                    ·show Act.put _ (some 87) _ = _
                     simp only [Act.put,List.setIfInBounds_toArray,List.set_cons_zero,List.set_cons_succ,i64_w,i32_w]
                     rfl
                    refine pure_ (i:=12) (N:=some 88) (v:=?_) (a':=?_) #[true,true,true,true,true,true,true,true,true,true,true,true,true,false] rfl rfl (by kernel_rfl) (fun _ _ _ h => h) (Or.inl ⟨by rfl,?_⟩) ?_ ?_
                    rotate_left
                    ·intro w'
                     go_simp
                     with_reducible rfl
                    rotate_left
                    ·simp only [Act.put,List.setIfInBounds_toArray,List.set_cons_zero,List.set_cons_succ,i64_w,i32_w]
                     rfl
                    refine pure_ (i:=13) (N:=some 89) (v:=?_) (a':=?_) #[true,true,true,true,true,true,true,true,true,true,true,true,true,true] rfl rfl (by kernel_rfl) (fun _ _ _ h => h) (Or.inl ⟨by rfl,?_⟩) ?_ ?_
                    rotate_left
                    ·intro w'
                     go_simp
                     with_reducible rfl
                    rotate_left
                    ·simp only [Act.put,List.setIfInBounds_toArray,List.set_cons_zero,List.set_cons_succ,i64_w,i32_w]
                     rfl
                    refine done_ (by kernel_rfl) ?_
                    have hz2:=HZ9.out
                    go_upto_region 22 with (fail)
                    clear hz2
                    have HC10:=Aside0.mk (HC9.out.step (below_drew (Below.refl _ _)))
                    have HX10:=Aside0.mk (blk_drew HX9.out)
                    have HZ10:=Aside0.mk (pw_cell_below (below_drew (Below.refl _ _)) HZ9.out)
                    clear HC9 HX9 HY9 HZ9
                    obtain ⟨go'',AU,cU,eA,_,hu0,hu1,hu2,hlU,hiU⟩:=HC10.out.at xi.f2 (of_eq_true p9) (of_eq_true p10)
                    injection eA with eA
                    injection eA with eA _ _
                    subst eA
                    rw [← HXU.out] at hu0 hu1 hu2 hlU hiU
                    have HU1:=Aside0.mk hu1
                    clear hu0 hu1 hu2 hlU hiU
                    refine start_ (n:=14) (S:=fun w' => w'.cell? ⟨bx,1,none⟩ = some (.slice AJ xj.f1.length cJ) ∧ w'.cell? ⟨go,xi.f2.toNat * 3 + 1,none⟩ = some (.slice AU xu.f1.length cU)) (ds:=[]) #[false,false,false,false,false,false,false,false,false,false,false,false,false,false] (by kernel_rfl) rfl rfl ?_ (fun hHeld => ?_)
                    ·exact ⟨(blk_cell HX10.out 1).trans rfl,HU1.out⟩
                    generalize hw10 : World.drew w9 = w10 at HC10 HX10 HZ10 HU1 hHeld ⊢
                    clear hw10
                    refine pure_ (i:=0) (N:=some 95) (v:=?_) (a':=?_) #[true,false,false,false,false,false,false,false,false,false,false,false,false,false] rfl rfl (by kernel_rfl) (fun _ _ _ h => h) (Or.inl ⟨by rfl,?_⟩) ?_ ?_
                    rotate_left
                    ·intro w'
                     go_simp
                     with_reducible rfl
                    rotate_left
                    ·simp only [Act.put,List.setIfInBounds_toArray,List.set_cons_zero,List.set_cons_succ,i64_w,i32_w]
                     rfl
                    refine pure_ (i:=1) (N:=some 96) (v:=?_) (a':=?_) #[true,true,false,false,false,false,false,false,false,false,false,false,false,false] rfl rfl (by kernel_rfl) (fun _ _ _ h => h) (Or.inl ⟨by rfl,?_⟩) ?_ ?_
                    rotate_left
                    ·intro w'
                     go_simp
                     with_reducible rfl
                    rotate_left
                    ·simp only [Act.put,List.setIfInBounds_toArray,List.set_cons_zero,List.set_cons_succ,i64_w,i32_w]
                     rfl
                    refine pure_ (i:=2) (N:=some 97) (v:=?_) (a':=?_) #[true,true,true,false,false,false,false,false,false,false,false,false,false,false] rfl rfl (by kernel_rfl) (fun _ _ _ h => h) (Or.inl ⟨by rfl,?_⟩) ?_ ?_
                    rotate_left
                    ·intro w'
                     go_simp
                     with_reducible rfl
                    rotate_left
                    ·simp only [Act.put,List.setIfInBounds_toArray,List.set_cons_zero,List.set_cons_succ,i64_w,i32_w]
                     rfl
                    refine pure_ (i:=3) (N:=some 98) (v:=?_) (a':=?_) #[true,true,true,true,false,false,false,false,false,false,false,false,false,false] rfl rfl (by kernel_rfl) (fun _ _ _ h => h) (Or.inl ⟨by rfl,?_⟩) ?_ ?_
                    rotate_left
                    ·intro w'
                     go_simp
                     with_reducible rfl
                    rotate_left
                    ·simp only [Act.put,List.setIfInBounds_toArray,List.set_cons_zero,List.set_cons_succ,i64_w,i32_w]
                     rfl
                    refine pure_ (i:=6) (N:=some 101) (v:=?_) (a':=?_) #[true,true,true,true,false,false,true,false,false,false,false,false,false,false] rfl rfl (by kernel_rfl) (fun _ _ _ h => h) (Or.inl ⟨by rfl,?_⟩) ?_ ?_
                    rotate_left
                    ·intro w'
                     go_simp
                     with_reducible rfl
                    rotate_left
                    ·simp only [Act.put,List.setIfInBounds_toArray,List.set_cons_zero,List.set_cons_succ,i64_w,i32_w]
                     rfl
                    refine pure_ (i:=7) (N:=some 102) (v:=?_) (a':=?_) #[true,true,true,true,false,false,true,true,false,false,false,false,false,false] rfl rfl (by kernel_rfl) (fun _ _ _ h => h) (Or.inl ⟨by rfl,?_⟩) ?_ ?_
                    rotate_left
                    ·intro w'
                     go_simp
                     with_reducible rfl
                    rotate_left
                    ·simp only [Act.put,List.setIfInBounds_toArray,List.set_cons_zero,List.set_cons_succ,i64_w,i32_w]
                     rfl
                    refine pure_ (i:=8) (N:=some 103) (v:=?_) (a':=?_) #[true,true,true,true,false,false,true,true,true,false,false,false,false,false] rfl rfl (by kernel_rfl) (fun _ _ _ h => h) (Or.inl ⟨by rfl,?_⟩) ?_ ?_
                    rotate_left
                    ·intro w'
                     go_simp
                     with_reducible rfl
                    rotate_left
                    ·simp only [Act.put,List.setIfInBounds_toArray,List.set_cons_zero,List.set_cons_succ,i64_w,i32_w]
                     rfl
                    refine pure_ (i:=9) (N:=some 104) (v:=?_) (a':=?_) #[true,true,true,true,false,false,true,true,true,true,false,false,false,false] rfl rfl (by kernel_rfl) (fun _ _ _ h => h) (Or.inl ⟨by rfl,?_⟩) ?_ ?_
                    rotate_left
                    ·intro w'
                     go_simp
                     with_reducible rfl
                    rotate_left
                    ·simp only [Act.put,List.setIfInBounds_toArray,List.set_cons_zero,List.set_cons_succ,i64_w,i32_w]
                     rfl
                    refine take_ (i:=4) (N:=some 99) (v:=?_) (a':=?_) #[true,true,true,true,true,false,true,true,true,true,false,false,false,false] rfl rfl (by kernel_rfl) (fun _ _ _ h => h) (Or.inl ⟨by rfl,?_⟩) hHeld ?_ ?_
                    rotate_left
                    ·rintro w' ⟨s0,s1⟩
                     go_simp
                     with_reducible rfl
                    rotate_left
                    ·simp only [Act.put,List.setIfInBounds_toArray,List.set_cons_zero,List.set_cons_succ,i64_w,i32_w]
                     rfl
                    refine pure_ (i:=5) (N:=some 100) (v:=?_) (a':=?_) #[true,true,true,true,true,true,true,true,true,true,false,false,false,false] rfl rfl (by kernel_rfl) (fun _ _ _ h => h) (Or.inl ⟨by rfl,?_⟩) ?_ ?_
                    rotate_left
                    ·intro w'
                     go_simp
                     with_reducible rfl
                    rotate_left
                    ·simp only [Act.put,List.setIfInBounds_toArray,List.set_cons_zero,List.set_cons_succ,i64_w,i32_w]
                     rfl
                    refine take_ (i:=10) (N:=some 105) (v:=?_) (a':=?_) #[true,true,true,true,true,true,true,true,true,true,true,false,false,false] rfl rfl (by kernel_rfl) (fun _ _ _ h => h) (Or.inl ⟨by rfl,?_⟩) hHeld ?_ ?_
                    rotate_left
                    ·rintro w' ⟨s0,s1⟩
                     go_simp
                     with_reducible rfl
                    rotate_left
                    ·simp only [Act.put,List.setIfInBounds_toArray,List.set_cons_zero,List.set_cons_succ,i64_w,i32_w]
                     rfl
                    refine pure_ (i:=11) (N:=some 106) (v:=?_) (a':=?_) #[true,true,true,true,true,true,true,true,true,true,true,true,false,false] rfl rfl (by kernel_rfl) (fun _ _ _ h => h) (Or.inl ⟨by rfl,?_⟩) ?_ ?_
                    rotate_left
                    ·intro w'
                     go_simp
                     with_reducible rfl
                    rotate_left
                    ·simp only [Act.put,List.setIfInBounds_toArray,List.set_cons_zero,List.set_cons_succ,i64_w,i32_w]
                     rfl
                    refine pure_ (i:=12) (N:=some 107) (v:=?_) (a':=?_) #[true,true,true,true,true,true,true,true,true,true,true,true,true,false] rfl rfl (by kernel_rfl) (fun _ _ _ h => h) (Or.inl ⟨by rfl,?_⟩) ?_ ?_
                    rotate_left
                    ·intro w'
                     go_simp
                     with_reducible rfl
                    rotate_left
                    ·simp only [Act.put,List.setIfInBounds_toArray,List.set_cons_zero,List.set_cons_succ,i64_w,i32_w]
                     rfl
                    refine pure_ (i:=13) (N:=some 108) (v:=?_) (a':=?_) #[true,true,true,true,true,true,true,true,true,true,true,true,true,true] rfl rfl (by kernel_rfl) (fun _ _ _ h => h) (Or.inl ⟨by rfl,?_⟩) ?_ ?_
                    rotate_left
                    ·intro w'
                     go_simp
                     with_reducible rfl
                    rotate_left
                    ·simp only [Act.put,List.setIfInBounds_toArray,List.set_cons_zero,List.set_cons_succ,i64_w,i32_w]
                     rfl
                    refine done_ (by kernel_rfl) ?_
                    have HPP:=HC10.out.put i j (of_eq_true p8) (of_eq_true p7) HBG.out
                    rw [← HXI.out] at HPP
                    have HP1:=Aside0.mk HPP.1
                    have hfz:=HPP.2
                    have hz2:=HZ10.out
                    clear HPP
                    go_wp2
                    go_roundg k4
                    case measure => have:=HK4.out;have:=HK3.out;omega
                    case rel => exact ⟨_,_,rfl,H',⟨by have:=HK4.out;have:=HK3.out;omega⟩,HP1⟩
                   ·rw [if_neg e4] at H
                    have H':=Aside0.mk H
                    have e5 : decide ((xj.f1.length : Int) < (xu.f1.length : Int)) = false:=decide_eq_false e4
                    have e6 : decide (xj.f1.length < xu.f1.length) = false:=decide_eq_false (by omega)
                    clear H e4
                    refine start_ (n:=14) (S:=fun w' => w'.cell? ⟨bx,1,none⟩ = some (.slice AJ xj.f1.length cJ) ∧ w'.cell? ⟨go,i.toNat * 3 + 1,none⟩ = some (.slice AI xi.f1.length cI)) (ds:=[]) #[false,false,false,false,false,false,false,false,false,false,false,false,false,false] (by kernel_rfl) rfl rfl ?_ (fun hHeld => ?_)
                    ·exact ⟨(blk_cell HX6.out 1).trans rfl,HI1.out⟩
                    generalize hw6 : World.drew w5 = w6 at HC6 HX6 HI1 HI2 HCJ HCI hHeld ⊢
                    clear hw6
                    refine pure_ (i:=0) (N:=some 76) (v:=?_) (a':=?_) #[true,false,false,false,false,false,false,false,false,false,false,false,false,false] rfl rfl (by kernel_rfl) (fun _ _ _ h => h) (Or.inl ⟨by rfl,?_⟩) ?_ ?_
                    rotate_left
                    ·intro w'
                     go_simp
                     with_reducible rfl
                    rotate_left
                    ·simp only [Act.put,List.setIfInBounds_toArray,List.set_cons_zero,List.set_cons_succ,i64_w,i32_w]
                     rfl
                    refine pure_ (i:=1) (N:=some 77) (v:=?_) (a':=?_) #[true,true,false,false,false,false,false,false,false,false,false,false,false,false] rfl rfl (by kernel_rfl) (fun _ _ _ h => h) (Or.inl ⟨by rfl,?_⟩) ?_ ?_
                    rotate_left
                    ·intro w'
                     go_simp
                     with_reducible rfl
                    rotate_left
                    ·simp only [Act.put,List.setIfInBounds_toArray,List.set_cons_zero,List.set_cons_succ,i64_w,i32_w]
                     rfl
                    refine pure_ (i:=2) (N:=some 78) (v:=?_) (a':=?_) #[true,true,true,false,false,false,false,false,false,false,false,false,false,false] rfl rfl (by kernel_rfl) (fun _ _ _ h => h) (Or.inl ⟨by rfl,?_⟩) ?_ ?_
                    rotate_left
                    ·intro w'
                     go_simp
                     with_reducible rfl
                    rotate_left
                    ·simp only [Act.put,List.setIfInBounds_toArray,List.set_cons_zero,List.set_cons_succ,i64_w,i32_w]
                     rfl
                    refine pure_ (i:=3) (N:=some 79) (v:=?_) (a':=?_) #[true,true,true,true,false,false,false,false,false,false,false,false,false,false] rfl rfl (by kernel_rfl) (fun _ _ _ h => h) (Or.inl ⟨by rfl,?_⟩) ?_ ?_
                    rotate_left
                    ·intro w'
                     go_simp
                     with_reducible rfl
                    rotate_left
                    ·simp only [Act.put,List.setIfInBounds_toArray,List.set_cons_zero,List.set_cons_succ,i64_w,i32_w]
                     rfl
                    refine pure_ (i:=4) (N:=some 80) (v:=?_) (a':=?_) #[true,true,true,true,true,false,false,false,false,false,false,false,false,false] rfl rfl (by kernel_rfl) (fun _ _ _ h => h) (Or.inl ⟨by rfl,?_⟩) ?_ ?_
                    rotate_left
                    ·intro w'
                     go_simp
                     with_reducible rfl
                    rotate_left
                    ·simp only [Act.put,List.setIfInBounds_toArray,List.set_cons_zero,List.set_cons_succ,i64_w,i32_w]
                     rfl
                    refine pure_ (i:=6) (N:=some 82) (v:=?_) (a':=?_) #[true,true,true,true,true,false,true,false,false,false,false,false,false,false] rfl rfl (by kernel_rfl) (fun _ _ _ h => h) (Or.inl ⟨by rfl,?_⟩) ?_ ?_
                    rotate_left
                    ·intro w'
                     go_simp
                     with_reducible rfl
                    rotate_left
                    ·simp only [Act.put,List.setIfInBounds_toArray,List.set_cons_zero,List.set_cons_succ,i64_w,i32_w]
                     rfl
                    refine pure_ (i:=7) (N:=some 83) (v:=?_) (a':=?_) #[true,true,true,true,true,false,true,true,false,false,false,false,false,false] rfl rfl (by kernel_rfl) (fun _ _ _ h => h) (Or.inl ⟨by rfl,?_⟩) ?_ ?_
                    rotate_left
                    ·intro w'
                     go_simp
                     with_reducible rfl
                    rotate_left
                    ·simp only [Act.put,List.setIfInBounds_toArray,List.set_cons_zero,List.set_cons_succ,i64_w,i32_w]
                     rfl
                    refine pure_ (i:=8) (N:=some 84) (v:=?_) (a':=?_) #[true,true,true,true,true,false,true,true,true,false,false,false,false,false] rfl rfl (by kernel_rfl) (fun _ _ _ h => h) (Or.inl ⟨by rfl,?_⟩) ?_ ?_
                    rotate_left
                    ·intro w'
                     go_simp
                     with_reducible rfl
                    rotate_left
                    ·simp only [Act.put,List.setIfInBounds_toArray,List.set_cons_zero,List.set_cons_succ,i64_w,i32_w]
                     rfl
                    refine pure_ (i:=9) (N:=some 85) (v:=?_) (a':=?_) #[true,true,true,true,true,false,true,true,true,true,false,false,false,false] rfl rfl (by kernel_rfl) (fun _ _ _ h => h) (Or.inl ⟨by rfl,?_⟩) ?_ ?_
                    rotate_left
                    ·intro w'
                     go_simp
                     with_reducible rfl
                    rotate_left
                    ·simp only [Act.put,List.setIfInBounds_toArray,List.set_cons_zero,List.set_cons_succ,i64_w,i32_w]
                     rfl
                    refine take_ (i:=5) (N:=some 81) (v:=?_) (a':=?_) #[true,true,true,true,true,true,true,true,true,true,false,false,false,false] rfl rfl (by kernel_rfl) (fun _ _ _ h => h) (Or.inl ⟨by rfl,?_⟩) hHeld ?_ ?_
                    rotate_left
                    ·rintro w' ⟨s0,s1⟩
                     go_simp
                     with_reducible rfl
                    rotate_left
                    ·simp only [Act.put,List.setIfInBounds_toArray,List.set_cons_zero,List.set_cons_succ,i64_w,i32_w]
                     rfl
                    refine take_ (i:=10) (N:=some 86) (v:=?_) (a':=?_) #[true,true,true,true,true,true,true,true,true,true,true,false,false,false] rfl rfl (by kernel_rfl) (fun _ _ _ h => h) (Or.inl ⟨by rfl,?_⟩) hHeld ?_ ?_
                    rotate_left
                    ·rintro w' ⟨s0,s1⟩
                     go_simp
                     with_reducible rfl
                    rotate_left
                    ·simp only [Act.put,List.setIfInBounds_toArray,List.set_cons_zero,List.set_cons_succ,i64_w,i32_w]
                     rfl
                    refine one_ (i:=11) (N:=some 87) #[true,true,true,true,true,true,true,true,true,true,true,true,false,false] rfl rfl (by kernel_rfl) (by decide) (fun K hK => ?_)
                    refine goes_ Try.func80 (by kernel_rfl) rfl #[.slice AJ xj.f1.length cJ,.slice AI xi.f1.length cI] (by rfl) rfl rfl (by simp only [List.map_toArray,List.map_cons,List.map_nil];rfl) ?_
                    with_reducible refine (impl_holdsAll.calls k4 AJ cJ xj.f1 AI cI xi.f1 true w6 HCJ.out HLJ.out HCI.out HLI.out B.out).mono ?_
                    rintro e w9 ⟨rfl,hb9⟩
                    refine ⟨_,rfl,?_⟩
                    have HC9:=Aside0.mk (HC6.out.step hb9)
                    have HX9:=Aside0.mk (blk_below HX6.out hb9)
                    have HY9:=Aside0.mk (pw_cell_below hb9 HI1.out)
                    have HZ9:=Aside0.mk (pw_cell_below hb9 HI2.out)
                    clear hb9
                    refine hK.out _ _ ?_ (fun hHeld => ?_)
                    ·exact ⟨(blk_cell HX9.out 1).trans rfl,HY9.out⟩
                    clear hK K
                    refine norm_ (a':=?_) ?_ ?_
                    rotate_left
                    ·show Act.put _ (some 87) _ = _
                     simp only [Act.put,List.setIfInBounds_toArray,List.set_cons_zero,List.set_cons_succ,i64_w,i32_w]
                     rfl
                    refine pure_ (i:=12) (N:=some 88) (v:=?_) (a':=?_) #[true,true,true,true,true,true,true,true,true,true,true,true,true,false] rfl rfl (by kernel_rfl) (fun _ _ _ h => h) (Or.inl ⟨by rfl,?_⟩) ?_ ?_
                    rotate_left
                    ·intro w'
                     go_simp
                     with_reducible rfl
                    rotate_left
                    ·simp only [Act.put,List.setIfInBounds_toArray,List.set_cons_zero,List.set_cons_succ,i64_w,i32_w]
                     rfl
                    refine pure_ (i:=13) (N:=some 89) (v:=?_) (a':=?_) #[true,true,true,true,true,true,true,true,true,true,true,true,true,true] rfl rfl (by kernel_rfl) (fun _ _ _ h => h) (Or.inl ⟨by rfl,?_⟩) ?_ ?_
                    rotate_left
                    ·intro w'
                     go_simp
                     with_reducible rfl
                    rotate_left
                    ·simp only [Act.put,List.setIfInBounds_toArray,List.set_cons_zero,List.set_cons_succ,i64_w,i32_w]
                     rfl
                    refine done_ (by kernel_rfl) ?_
                    have hz2:=HZ9.out
                    go_upto_region 22 with (fail)
                    clear hz2
                    have HC10:=Aside0.mk (HC9.out.step (below_drew (Below.refl _ _)))
                    have HX10:=Aside0.mk (blk_drew HX9.out)
                    have HZ10:=Aside0.mk (pw_cell_below (below_drew (Below.refl _ _)) HZ9.out)
                    clear HC9 HX9 HY9 HZ9
                    obtain ⟨go'',AU,cU,eA,_,hu0,hu1,hu2,hlU,hiU⟩:=HC10.out.at xi.f2 (of_eq_true p9) (of_eq_true p10)
                    injection eA with eA
                    injection eA with eA _ _
                    subst eA
                    rw [← HXU.out] at hu0 hu1 hu2 hlU hiU
                    have HU1:=Aside0.mk hu1
                    clear hu0 hu1 hu2 hlU hiU
                    refine start_ (n:=14) (S:=fun w' => w'.cell? ⟨bx,1,none⟩ = some (.slice AJ xj.f1.length cJ) ∧ w'.cell? ⟨go,xi.f2.toNat * 3 + 1,none⟩ = some (.slice AU xu.f1.length cU)) (ds:=[]) #[false,false,false,false,false,false,false,false,false,false,false,false,false,false] (by kernel_rfl) rfl rfl ?_ (fun hHeld => ?_)
                    ·exact ⟨(blk_cell HX10.out 1).trans rfl,HU1.out⟩
                    generalize hw10 : World.drew w9 = w10 at HC10 HX10 HZ10 HU1 hHeld ⊢
                    clear hw10
                    refine pure_ (i:=0) (N:=some 95) (v:=?_) (a':=?_) #[true,false,false,false,false,false,false,false,false,false,false,false,false,false] rfl rfl (by kernel_rfl) (fun _ _ _ h => h) (Or.inl ⟨by rfl,?_⟩) ?_ ?_
                    rotate_left
                    ·intro w'
                     go_simp
                     with_reducible rfl
                    rotate_left
                    ·simp only [Act.put,List.setIfInBounds_toArray,List.set_cons_zero,List.set_cons_succ,i64_w,i32_w]
                     rfl
                    refine pure_ (i:=1) (N:=some 96) (v:=?_) (a':=?_) #[true,true,false,false,false,false,false,false,false,false,false,false,false,false] rfl rfl (by kernel_rfl) (fun _ _ _ h => h) (Or.inl ⟨by rfl,?_⟩) ?_ ?_
                    rotate_left
                    ·intro w'
                     go_simp
                     with_reducible rfl
                    rotate_left
                    ·simp only [Act.put,List.setIfInBounds_toArray,List.set_cons_zero,List.set_cons_succ,i64_w,i32_w]
                     rfl
                    refine pure_ (i:=2) (N:=some 97) (v:=?_) (a':=?_) #[true,true,true,false,false,false,false,false,false,false,false,false,false,false] rfl rfl (by kernel_rfl) (fun _ _ _ h => h) (Or.inl ⟨by rfl,?_⟩) ?_ ?_
                    rotate_left
                    ·intro w'
                     go_simp
                     with_reducible rfl
                    rotate_left
                    ·simp only [Act.put,List.setIfInBounds_toArray,List.set_cons_zero,List.set_cons_succ,i64_w,i32_w]
                     rfl
                    refine pure_ (i:=3) (N:=some 98) (v:=?_) (a':=?_) #[true,true,true,true,false,false,false,false,false,false,false,false,false,false] rfl rfl (by kernel_rfl) (fun _ _ _ h => h) (Or.inl ⟨by rfl,?_⟩) ?_ ?_
                    rotate_left
                    ·intro w'
                     go_simp
                     with_reducible rfl
                    rotate_left
                    ·simp only [Act.put,List.setIfInBounds_toArray,List.set_cons_zero,List.set_cons_succ,i64_w,i32_w]
                     rfl
                    refine pure_ (i:=6) (N:=some 101) (v:=?_) (a':=?_) #[true,true,true,true,false,false,true,false,false,false,false,false,false,false] rfl rfl (by kernel_rfl) (fun _ _ _ h => h) (Or.inl ⟨by rfl,?_⟩) ?_ ?_
                    rotate_left
                    ·intro w'
                     go_simp
                     with_reducible rfl
                    rotate_left
                    ·simp only [Act.put,List.setIfInBounds_toArray,List.set_cons_zero,List.set_cons_succ,i64_w,i32_w]
                     rfl
                    refine pure_ (i:=7) (N:=some 102) (v:=?_) (a':=?_) #[true,true,true,true,false,false,true,true,false,false,false,false,false,false] rfl rfl (by kernel_rfl) (fun _ _ _ h => h) (Or.inl ⟨by rfl,?_⟩) ?_ ?_
                    rotate_left
                    ·intro w'
                     go_simp
                     with_reducible rfl
                    rotate_left
                    ·simp only [Act.put,List.setIfInBounds_toArray,List.set_cons_zero,List.set_cons_succ,i64_w,i32_w]
                     rfl
                    refine pure_ (i:=8) (N:=some 103) (v:=?_) (a':=?_) #[true,true,true,true,false,false,true,true,true,false,false,false,false,false] rfl rfl (by kernel_rfl) (fun _ _ _ h => h) (Or.inl ⟨by rfl,?_⟩) ?_ ?_
                    rotate_left
                    ·intro w'
                     go_simp
                     with_reducible rfl
                    rotate_left
                    ·simp only [Act.put,List.setIfInBounds_toArray,List.set_cons_zero,List.set_cons_succ,i64_w,i32_w]
                     rfl
                    refine pure_ (i:=9) (N:=some 104) (v:=?_) (a':=?_) #[true,true,true,true,false,false,true,true,true,true,false,false,false,false] rfl rfl (by kernel_rfl) (fun _ _ _ h => h) (Or.inl ⟨by rfl,?_⟩) ?_ ?_
                    rotate_left
                    ·intro w'
                     go_simp
                     with_reducible rfl
                    rotate_left
                    ·simp only [Act.put,List.setIfInBounds_toArray,List.set_cons_zero,List.set_cons_succ,i64_w,i32_w]
                     rfl
                    refine take_ (i:=4) (N:=some 99) (v:=?_) (a':=?_) #[true,true,true,true,true,false,true,true,true,true,false,false,false,false] rfl rfl (by kernel_rfl) (fun _ _ _ h => h) (Or.inl ⟨by rfl,?_⟩) hHeld ?_ ?_
                    rotate_left
                    ·rintro w' ⟨s0,s1⟩
                     go_simp
                     with_reducible rfl
                    rotate_left
                    ·simp only [Act.put,List.setIfInBounds_toArray,List.set_cons_zero,List.set_cons_succ,i64_w,i32_w]
                     rfl
                    refine pure_ (i:=5) (N:=some 100) (v:=?_) (a':=?_) #[true,true,true,true,true,true,true,true,true,true,false,false,false,false] rfl rfl (by kernel_rfl) (fun _ _ _ h => h) (Or.inl ⟨by rfl,?_⟩) ?_ ?_
                    rotate_left
                    ·intro w'
                     go_simp
                     with_reducible rfl
                    rotate_left
                    ·simp only [Act.put,List.setIfInBounds_toArray,List.set_cons_zero,List.set_cons_succ,i64_w,i32_w]
                     rfl
                    refine take_ (i:=10) (N:=some 105) (v:=?_) (a':=?_) #[true,true,true,true,true,true,true,true,true,true,true,false,false,false] rfl rfl (by kernel_rfl) (fun _ _ _ h => h) (Or.inl ⟨by rfl,?_⟩) hHeld ?_ ?_
                    rotate_left
                    ·rintro w' ⟨s0,s1⟩
                     go_simp
                     with_reducible rfl
                    rotate_left
                    ·simp only [Act.put,List.setIfInBounds_toArray,List.set_cons_zero,List.set_cons_succ,i64_w,i32_w]
                     rfl
                    refine pure_ (i:=11) (N:=some 106) (v:=?_) (a':=?_) #[true,true,true,true,true,true,true,true,true,true,true,true,false,false] rfl rfl (by kernel_rfl) (fun _ _ _ h => h) (Or.inl ⟨by rfl,?_⟩) ?_ ?_
                    rotate_left
                    ·intro w'
                     go_simp
                     with_reducible rfl
                    rotate_left
                    ·simp only [Act.put,List.setIfInBounds_toArray,List.set_cons_zero,List.set_cons_succ,i64_w,i32_w]
                     rfl
                    refine pure_ (i:=12) (N:=some 107) (v:=?_) (a':=?_) #[true,true,true,true,true,true,true,true,true,true,true,true,true,false] rfl rfl (by kernel_rfl) (fun _ _ _ h => h) (Or.inl ⟨by rfl,?_⟩) ?_ ?_
                    rotate_left
                    ·intro w'
                     go_simp
                     with_reducible rfl
                    rotate_left
                    ·simp only [Act.put,List.setIfInBounds_toArray,List.set_cons_zero,List.set_cons_succ,i64_w,i32_w]
                     rfl
                    refine pure_ (i:=13) (N:=some 108) (v:=?_) (a':=?_) #[true,true,true,true,true,true,true,true,true,true,true,true,true,true] rfl rfl (by kernel_rfl) (fun _ _ _ h => h) (Or.inl ⟨by rfl,?_⟩) ?_ ?_
                    rotate_left
                    ·intro w'
                     go_simp
                     with_reducible rfl
                    rotate_left
                    ·simp only [Act.put,List.setIfInBounds_toArray,List.set_cons_zero,List.set_cons_succ,i64_w,i32_w]
                     rfl
                    refine done_ (by kernel_rfl) ?_
                    go_wp2
                    go_roundg k4
                    case measure => have:=HK4.out;have:=HK3.out;omega
                    case rel => exact ⟨_,_,rfl,H',⟨by have:=HK4.out;have:=HK3.out;omega⟩,HC10⟩
                  ·rw [if_neg e3] at H;exact absurd H (by simp)
              ·rw [if_neg d2] at H;exact absurd H (by simp)
             ·rw [if_neg d1] at H
              have H':=Aside0.mk H
              have q5 : decide (j < (n : Int)) = false:=decide_eq_false d1
              clear H d1 hnl
              go_wp2
              go_roundg k4
              case measure => have:=HK4.out;have:=HK3.out;omega
              case rel => exact ⟨_,_,rfl,H',⟨by have:=HK4.out;have:=HK3.out;omega⟩,HC⟩
          ·rw [if_neg c4] at H;exact absurd H (by simp)
         ·rw [if_neg c3] at H
          obtain rfl:=Option.some.inj H
          have q3 : decide (i < (n : Int)) = false:=decide_eq_false c3
          clear H c3 hnl
          go_wp2
          go_ret
          exact ⟨_,rfl,HC.out.out,HC.out.below⟩

end Go.Proofs.Ytbmnoenbhlfjaaa.Q
