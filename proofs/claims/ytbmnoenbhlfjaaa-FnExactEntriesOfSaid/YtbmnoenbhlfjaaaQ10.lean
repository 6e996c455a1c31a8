-- WRITTEN BY A PROGRAM OF THIS SESSION
import Derived.Test.YtbmnoenbhlfjaaaQ0
import Derived.Test.YtbmnoenbhlfjaaaQ8
namespace Go.Proofs.Ytbmnoenbhlfjaaa.Q
open Go.RowKit Go.Proofs.YtbmnoenbhlfjaaaW.PrintWords Go.Proofs.YtbmnoenbhlfjaaaW.PrintLast Go.Proofs.YtbmnoenbhlfjaaaW.PrintMore
attribute [local go_sem] max2_int min2_int max_two min_two max_three min_three max_four min_four   -- for this text's walks alone
set_option linter.unusedVariables false
set_option linter.unusedSimpArgs false

/-! ### impl_Graph_backEdges: function 78 (by hand: a pointer's row is handed on) -/
mutual
def impl_Graph_backEdges.l0 : Nat → List (List Int) → List (List Bool) → List (List Int) → Int → Option (List (List Int))
 | 0,_,_,_,_ => none
 | k + 1,g,dm,x,i => if i < (g.length : Int) then (if 0 ≤ i then (impl_Graph_backEdges.l1 k g dm x i (g.getD i.toNat []) 0) else none) else some x
def impl_Graph_backEdges.l1 : Nat → List (List Int) → List (List Bool) → List (List Int) → Int → List Int → Int → Option (List (List Int))
 | 0,_,_,_,_,_,_ => none
 | k + 1,g,dm,x,i,row,j => if j < (row.length : Int) then (if 0 ≤ j then (if i < (dm.length : Int) then (if 0 ≤ rd row j then (if rd row j < ((dm.getD i.toNat []).length : Int) then (if rdOf false (dm.getD i.toNat []) (rd row j) = true then (if x.length < 5864062014805 then (impl_Graph_backEdges.l1 k g dm (x ++ [[i,rd row j]]) i row (wrap64 (j + 1))) else none) else (impl_Graph_backEdges.l1 k g dm x i row (wrap64 (j + 1)))) else none) else none) else none) else none) else impl_Graph_backEdges.l0 k g dm x (wrap64 (i + 1))
end
def impl_Graph_backEdges.f (k : Nat) (g : List (List Int)) : Option (List (List Int)):=(impl_dominators.f k g).bind fun dm => (impl_Graph_backEdges.l0 k g dm [] 0)
theorem impl_Graph_backEdges.mono_l : ∀ k,(∀ y0 y1 y2 y3,LeO (impl_Graph_backEdges.l0 k y0 y1 y2 y3) (impl_Graph_backEdges.l0 (k + 1) y0 y1 y2 y3)) ∧ (∀ y0 y1 y2 y3 y4 y5,LeO (impl_Graph_backEdges.l1 k y0 y1 y2 y3 y4 y5) (impl_Graph_backEdges.l1 (k + 1) y0 y1 y2 y3 y4 y5))
 | 0 => ⟨fun _ _ _ _ r h => by simp [impl_Graph_backEdges.l0] at h,fun _ _ _ _ _ _ r h => by simp [impl_Graph_backEdges.l1] at h⟩
 | k + 1 => by
  obtain ⟨ih0,ih1⟩:=impl_Graph_backEdges.mono_l k
  refine ⟨?_,?_⟩
  ·intro y0 y1 y2 y3
   unfold impl_Graph_backEdges.l0
   repeat' first
   | (with_reducible exact ih0 _ _ _ _)
   | (with_reducible exact ih1 _ _ _ _ _ _)
   | (with_reducible exact impl_dominators.mono _ _)
   | (with_reducible exact LeO.refl _)
   | (with_reducible exact LeO.none _)
   | (with_reducible refine LeO.ite ?_ ?_)
   | (with_reducible refine LeO.bind ?_ (fun _ => ?_))
  ·intro y0 y1 y2 y3 y4 y5
   unfold impl_Graph_backEdges.l1
   repeat' first
   | (with_reducible exact ih0 _ _ _ _)
   | (with_reducible exact ih1 _ _ _ _ _ _)
   | (with_reducible exact impl_dominators.mono _ _)
   | (with_reducible exact LeO.refl _)
   | (with_reducible exact LeO.none _)
   | (with_reducible refine LeO.ite ?_ ?_)
   | (with_reducible refine LeO.bind ?_ (fun _ => ?_))
theorem impl_Graph_backEdges.mono : ∀ a0 k,LeO (impl_Graph_backEdges.f k a0) (impl_Graph_backEdges.f (k + 1) a0):=by
 intro a0 k
 obtain ⟨ih0,ih1⟩:=impl_Graph_backEdges.mono_l k
 unfold impl_Graph_backEdges.f
 repeat' first
   | (with_reducible exact ih0 _ _ _ _)
   | (with_reducible exact ih1 _ _ _ _ _ _)
   | (with_reducible exact impl_dominators.mono _ _)
   | (with_reducible exact LeO.refl _)
   | (with_reducible exact LeO.none _)
   | (with_reducible refine LeO.ite ?_ ?_)
   | (with_reducible refine LeO.bind ?_ (fun _ => ?_))
/-- What holds between the rounds. -/
structure BInv (w W : World) (b : Nat) (A0 : Option Addr) (n c : Nat) (vx vd : Value) (x : List (List Int)) (dm : List (List Bool)) : Prop where
 box : W.heap[b]? = some (.cells #[.slice A0 n c] 28 (0,0))
 below : Below w.heap.size w W
 out : Kd.S (Kd.slice 3 (Kd.int .i64)) 43 W w.heap.size (fun _ => True) vx x
 dom : Kd.S (Kd.slice 4 Kd.bool) 85 W w.heap.size (fun _ => True) vd dm
theorem BInv.step {w W W' : World} {b : Nat} {A0 : Option Addr} {n c : Nat} {vx vd : Value} {x : List (List Int)} {dm : List (List Bool)} (h : BInv w W b A0 n c vx vd x dm) (hb : Below W.heap.size W W') : BInv w W' b A0 n c vx vd x dm :=
 ⟨blk_below h.box hb,below_step h.below hb,Kd.S_below h.out hb,Kd.S_below h.dom hb⟩
set_option maxHeartbeats 8000000 in
set_option maxRecDepth 100000 in
theorem impl_Graph_backEdges.calls (k : Nat) (b : Nat) (A0 : Option Addr) (c0 : Nat) (l0 : List (List Int)) (r : List (List Int)) (w : World) (hbox : w.heap[b]? = some (.cells #[.slice A0 l0.length c0] 28 (0,0))) (hr0 : Kd.C (Kd.slice 3 (Kd.int .i64)) w A0 l0.length l0) (hc0 : l0.length ≤ c0) (h : impl_Graph_backEdges.f k l0 = some r) :
  Calls Try.prog 78 #[.pointer (some ⟨b,0,none⟩)] w fun e w' => ∃ v0_ : Value,e = .returned (v0_) ∧ Kd.S (Kd.slice 3 (Kd.int .i64)) 43 w' w.heap.size (fun _ => True) v0_ r ∧ Below w.heap.size w w':=by
 have hu27:=Try.underlying28
 have HR0:=Aside0.mk hr0
 have HC0:=Aside0.mk hc0
 have HBX:=Aside0.mk hbox
 clear hr0 hc0 hbox
 unfold impl_Graph_backEdges.f at h
 obtain ⟨dm,A1,H⟩:=Option.bind_eq_some_iff.mp h
 have A:=Aside0.mk A1
 have H':=Aside0.mk H
 have HGB:=Aside0.mk (blk_lt HBX.out)
 clear h A1 H
 have hcz : (w.alloc (.cells #[] 43)).cell? ⟨b,0,none⟩ = some (.slice A0 l0.length c0):=(blk_cell (blk_alloc HBX.out _) 0).trans rfl
 go_enter Try.func78,Try.ntmps78
 go_wp2_with (first | (go_at_call 66;(refine (impl_dominators.calls k _ _ l0 dm _ (Kd.C_below HR0.out (below_alloc (Below.refl _ _) _)) HC0.out A.out).mono ?_);rintro e w3 ⟨vd,rfl,ho,hb⟩;have HI:=Aside0.mk (show BInv w w3 b A0 l0.length c0 _ vd [] dm from ⟨blk_below (blk_alloc HBX.out _) hb,below_step (below_alloc (Below.refl _ _) _) hb,Kd.S_below (S_lit0 (Kd.slice 3 (Kd.int .i64)) 43 w) hb,Kd.S_lower ho (by simp)⟩);have hcz3 : w3.cell? ⟨b,0,none⟩ = some (.slice A0 l0.length c0):=(blk_cell HI.out.box 0).trans rfl;have hfz3:=blk_frozen HI.out.box 0;clear ho hb))
 obtain ⟨Ad,cd,ed⟩:=Kd.S_slice HI.out.dom
 subst ed
 go_loopg [3,20] k (fun kq v3 v20 w' => ∃ (x : List (List Int)) (i : Int),v20 = .int .i64 i ∧ Aside0 (impl_Graph_backEdges.l0 kq l0 dm x i = some r) ∧ Aside0 (kq ≤ k) ∧ Aside0 (BInv w w' b A0 l0.length c0 v3 (.slice Ad dm.length cd) x dm))
 case atStart => exact ⟨[],0,rfl,H',⟨Nat.le_refl _⟩,HI⟩
 case round =>
  clear H' HI hcz3 hfz3
  obtain ⟨x,i,rfl,HA,HK1,HI⟩:=hrel
  cases gk with
  | zero => exact absurd HA.out (by simp [impl_Graph_backEdges.l0])
  | succ k1 =>
   have H:=HA.out
   clear HA
   simp only [impl_Graph_backEdges.l0] at H
   by_cases c3 : i < (l0.length : Int)
   ·rw [if_pos c3] at H
    by_cases c4 : 0 ≤ i
    ·rw [if_pos c4] at H
     obtain ⟨ad,AL,cL,eA,hx0,hl0,hi0⟩:=at_row HR0.out i c4 c3
     obtain ⟨row,hrow⟩ : ∃ row,row = l0.getD i.toNat []:=⟨_,rfl⟩
     rw [← hrow] at hx0 hl0 hi0 H
     cases eA
     have H':=Aside0.mk H
     have HRR:=Aside0.mk hi0
     have c3b : decide (i < (l0.length : Int)) = true:=decide_eq_true c3
     have c4b : decide (0 ≤ i) = true:=decide_eq_true c4
     have p3:=eq_true c3
     have p4:=eq_true c4
     have hx1 : wr.cell? (ad.add i.toNat) = some (.slice AL row.length cL):=pw_cell_below HI.out.below hx0
     clear H hi0 hl0 hrow c3 c4 hx0
     go_wp2
     go_loopg [3,27] k1 (fun kq v3 v27 w' => ∃ (x : List (List Int)) (j : Int),v27 = .int .i64 j ∧ Aside0 (impl_Graph_backEdges.l1 kq l0 dm x i row j = some r) ∧ Aside0 (kq ≤ k1) ∧ Aside0 (BInv w w' b (some ad) l0.length c0 v3 (.slice Ad dm.length cd) x dm))
     case atStart => exact ⟨x,0,rfl,H',⟨Nat.le_refl _⟩,HI⟩
     case round =>
      clear H' HI hx1
      obtain ⟨x,j,rfl,HA,HK2,HI⟩:=hrel
      cases gk with
      | zero => exact absurd HA.out (by simp [impl_Graph_backEdges.l1])
      | succ k2 =>
       have H:=HA.out
       clear HA
       simp only [impl_Graph_backEdges.l1] at H
       by_cases d1 : j < (row.length : Int)
       ·rw [if_pos d1] at H
        by_cases d2 : 0 ≤ j
        ·rw [if_pos d2] at H
         by_cases d3 : i < (dm.length : Int)
         ·rw [if_pos d3] at H
          obtain ⟨m,hm⟩ : ∃ m,m = rd row j:=⟨_,rfl⟩
          rw [← hm] at H
          by_cases d4 : 0 ≤ m
          ·rw [if_pos d4] at H
           by_cases d5 : m < ((dm.getD i.toNat []).length : Int)
           ·rw [if_pos d5] at H
            obtain ⟨a1,e1,hy1⟩:=Kd.at_int (Kd.C_below HRR.out HI.out.below) j d2 d1
            rw [← hm] at hy1
            cases e1
            have d6 : 0 ≤ i:=of_decide_eq_true c4b
            obtain ⟨a2,A2,c2,e2,hy2,hl2,hi2⟩:=at_row (Kd.S_reads' HI.out.dom).2.2 i d6 d3
            cases e2
            obtain ⟨a3,e3,hy3⟩:=Kd.at_bool hi2 m d4 d5
            cases e3
            obtain ⟨y,hy⟩ : ∃ y,y = dm.getD i.toNat []:=⟨_,rfl⟩
            rw [← hy] at H hy2 hl2 hi2 hy3 d5
            have q1 : decide (j < (row.length : Int)) = true:=decide_eq_true d1
            have q2 : decide (0 ≤ j) = true:=decide_eq_true d2
            have p1:=eq_true d1
            have p2:=eq_true d2
            have p3':=eq_true d3
            have p4':=eq_true d4
            have p5':=eq_true d5
            have HM:=Aside0.mk hm
            clear d1 d2 d3 d4 d5 d6 hl2 hi2 hy hm
            by_cases d7 : rdOf false y m = true
            ·rw [if_pos d7] at H
             by_cases d8 : x.length < 5864062014805
             ·rw [if_pos d8] at H
              rw [d7] at hy3
              have H':=Aside0.mk H
              have HLM:=Aside0.mk d8
              clear H d7 d8
              go_wp2_with (first | ((with_reducible refine gate_dst (N:=41) rfl ?_);refine Kd.R_lit (Kd.int .i64) _ 3 ?hg (N:=41) ?hd (xs:=([i,m] : List Int)) (inner:=[.int .i64 i,.int .i64 m]) (ok:=fun _ => True) (okp:=fun _ => True) ?hr ?hp (fun _ hk => hk) trivial (Below.refl _ _) (Nat.le_refl _) (by simp) ?_;(case hd => rfl);(case hg => rfl);(case hr => first | (go_simp;done) | (go_simp;rfl));(case hp => exact (Reps.one (show Kd.M (Kd.int .i64) _ _ _ i [.int .i64 i] from rfl) (Reps.one (show Kd.M (Kd.int .i64) _ _ _ m [.int .i64 m] from rfl) (Reps.none _ _))));intro v41 w16 ho17 hb hg_ hnew_;clear hg_ hnew_;have HI2:=Aside0.mk (HI.out.step hb);have HOX:=Aside0.mk (Kd.S_elder' HI.out.out (Kd.R_base ho17) hb);have HOD:=Aside0.mk (Kd.S_elder' HI.out.dom (Kd.R_base ho17) hb);have HL41:=Aside0.mk (Kd.R_lower ho17 HI.out.below.size);have HT:=Aside0.mk (Kd.S_typed HI2.out.out);clear hb ho17 HI hy1 hy2 hy3;obtain ⟨Ao19,co19,eo19⟩:=Kd.R_slice HL41.out;subst eo19) | ((with_reducible refine gate_builtin (b:=.append) (xs:=#[.tmp 38,.tmp 42]) rfl ?_);at_builtin;refine Kd.S_append (Kd.slice 3 (Kd.int .i64)) (w0:=w) w.heap.size rfl (.tmp 38) (.tmp 42) 22 43 (.slice none 0 0) 24 rfl Try.underlying22 (by kernel_rfl) rfl (by decide) (by omega) _ x [i,m] [.slice Ao19 [i,m].length co19] (fun _ => True) (fun k_ => some k_ = (.slice Ao19 [i,m].length co19 : Value).ownBlock) rfl rfl ?aP ?aK ?aF ?aO ?aB ?aS ?aL ?_;(case aP => exact Kd.M_row (Kd.R_tight rfl HL41.out));(case aK => exact (fun k_ hk_ => ⟨trivial,fun e_ => (Kd.S_R HOX.out).1 k_ e_.symm |>.2 hk_⟩));(case aB => exact HI2.out.below);(case aF => exact (fun _ _ => trivial));(case aO => exact Kd.S_mono HOX.out (fun k_ hk_ => hk_));(case aS => exact HI2.out.below.size);(case aL => have:=HLM.out;omega);intro v43 w18 ho hb hg hat;have HI3:=Aside0.mk (show BInv w w18 b (some ad) l0.length c0 v43 (.slice (some a2) dm.length cd) (x ++ [[i,m]]) dm from ⟨blk_grown HI2.out.box hg (fun e_ => Kd.S_ne HOX.out HI2.out.box (by decide) e_),hb,ho,Kd.S_over' HI2.out.dom HT.out (by decide) hg⟩);clear ho hb hg hat HI2 HOX HOD HL41 HT))
              go_roundg k2
              case measure => have:=HK2.out;omega
              case rel => exact ⟨_,_,rfl,H',⟨by have:=HK2.out;omega⟩,HI3⟩
             ·rw [if_neg d8] at H;exact absurd H (by simp)
            ·rw [if_neg d7] at H
             have d7' : rdOf false y m = false:=by simpa using d7
             rw [d7'] at hy3
             have H':=Aside0.mk H
             clear H d7 d7'
             go_wp2
             go_roundg k2
             case measure => have:=HK2.out;omega
             case rel => exact ⟨x,_,rfl,H',⟨by have:=HK2.out;omega⟩,HI⟩
           ·rw [if_neg d5] at H;exact absurd H (by simp)
          ·rw [if_neg d4] at H;exact absurd H (by simp)
         ·rw [if_neg d3] at H;exact absurd H (by simp)
        ·rw [if_neg d2] at H;exact absurd H (by simp)
       ·rw [if_neg d1] at H
        have H':=Aside0.mk H
        have q1 : decide (j < (row.length : Int)) = false:=decide_eq_false d1
        clear H d1
        go_wp2
        go_roundg k2
        case measure => have:=HK2.out;have:=HK1.out;omega
        case rel => exact ⟨x,_,rfl,H',⟨by have:=HK2.out;have:=HK1.out;omega⟩,HI⟩
    ·rw [if_neg c4] at H;exact absurd H (by simp)
   ·rw [if_neg c3] at H
    obtain rfl:=Option.some.inj H
    have c3b : decide (i < (l0.length : Int)) = false:=decide_eq_false c3
    clear c3
    go_wp2
    go_ret
    exact ⟨_,rfl,HI.out.out,HI.out.below⟩

-- NOT PRINTED: function 96 (slices_IndexFunc_slices_IndexFunc_int_int_96)

-- NOT PRINTED: function 93 (slices_ContainsFunc_slices_ContainsFunc_int_int_93)

-- NOT PRINTED: function 94 (impl_Graph_body_1)

end Go.Proofs.Ytbmnoenbhlfjaaa.Q
