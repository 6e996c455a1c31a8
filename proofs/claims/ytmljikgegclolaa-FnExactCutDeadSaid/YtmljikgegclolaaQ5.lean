-- WRITTEN BY A PROGRAM OF THIS SESSION
import Derived.Test.YtmljikgegclolaaQ0
import Derived.Test.YtmljikgegclolaaQ4
namespace Go.Proofs.Ytmljikgegclolaa.Q
open Go.RowKit Go.Proofs.YtmljikgegclolaaW.PrintWords Go.Proofs.YtmljikgegclolaaW.PrintLast Go.Proofs.YtmljikgegclolaaW.PrintMore
attribute [local go_sem] max2_int min2_int max_two min_two max_three min_three max_four min_four   -- for this text's walks alone
set_option linter.unusedVariables false
set_option linter.unusedSimpArgs false

/-! ### spec_l3Ends: function 48 -/
mutual
def spec_l3Ends.l0 : Nat → List (S56) → List Int → List Int → List (S56) → Int → Int → Option (List Int × Bool)
 | 0,_,_,_,_,_,_ => none
 | k + 1,x0,x4,x5,x10,x11,x12 => if x12 < x11 then (if 0 ≤ x12 then (if x12 < (x10.length : Int) then (if x4.length < 17592186044416 then ((some (x4 ++ [(-1)] : List Int)).bind fun y155 => ((spec_l3One.f k ((rd_T56 x10 x12).f0) ((rd_T56 x10 x12).f1) ((rd_T56 x10 x12).f2)).bind fun t158 => (if t158 = true then ((spec_l3Within.f k ((rd_T56 x10 x12).f0) ((rd_T56 x10 x12).f1) ((rd_T56 x10 x12).f2) (x5.length : Int)).bind fun t159 => (spec_l3Ends.j1 k x0 y155 x5 x12 (x5.length : Int) x10 x11 x12 (!t159) ((rd_T56 x10 x12).f0) ((rd_T56 x10 x12).f1) ((rd_T56 x10 x12).f2))) else (spec_l3Ends.j1 k x0 y155 x5 x12 (x5.length : Int) x10 x11 x12 true ((rd_T56 x10 x12).f0) ((rd_T56 x10 x12).f1) ((rd_T56 x10 x12).f2))))) else (none)) else (none)) else (none)) else (if (x5.length : Int) = 0 then (some (x4,decide ((x0.length : Int) ≤ 60))) else (some (x4,false)))
def spec_l3Ends.j1 : Nat → List (S56) → List Int → List Int → Int → Int → List (S56) → Int → Int → Bool → Int → Int → List Int → Option (List Int × Bool)
 | 0,_,_,_,_,_,_,_,_,_,_,_,_ => none
 | k + 1,x0,x4,x5,x6,x8,x10,x11,x12,x30,x155000,x155001,x155002 => if x30 = true then (some (([] : List Int),false)) else ((spec_l3Opens.f x155000).bind fun t160 => (if t160 = true then (if x8 = 8 then (some (([] : List Int),false)) else (if x5.length < 17592186044416 then (spec_l3Ends.l0 k x0 x4 (x5 ++ [x6]) x10 x11 (wrap64 (x12 + 1))) else (none))) else (if x155000 = 18 then (if x8 = 0 then (some (([] : List Int),false)) else (if 0 ≤ (wrap64 (x8 - 1)) then (if (wrap64 (x8 - 1)) < (x5.length : Int) then (if 0 ≤ (rd x5 (wrap64 (x8 - 1))) then (if (rd x5 (wrap64 (x8 - 1))) < (x0.length : Int) then (if ((rd_T56 x0 (rd x5 (wrap64 (x8 - 1)))).f0) = 17 then (if (rd x5 (wrap64 (x8 - 1))) < (x4.length : Int) then (if (rd x4 (rd x5 (wrap64 (x8 - 1)))) ≥ 0 then (some (([] : List Int),false)) else (spec_l3Ends.l0 k x0 (x4.set ((rd x5 (wrap64 (x8 - 1))) : Int).toNat x6) x5 x10 x11 (wrap64 (x12 + 1)))) else (none)) else (some (([] : List Int),false))) else (none)) else (none)) else (none)) else (none))) else (if x155000 = 19 then (if x8 = 0 then (some (([] : List Int),false)) else (if 0 ≤ (wrap64 (x8 - 1)) then (if (wrap64 (x8 - 1)) < (x5.length : Int) then (if (wrap64 (x8 - 1)) ≤ (x5.length : Int) then ((some (x5.take ((wrap64 (x8 - 1)) : Int).toNat : List Int)).bind fun y171 => (if 0 ≤ (rd x5 (wrap64 (x8 - 1))) then (if (rd x5 (wrap64 (x8 - 1))) < (x4.length : Int) then (if (rd x4 (rd x5 (wrap64 (x8 - 1)))) ≥ 0 then (if 0 ≤ (rd x4 (rd x5 (wrap64 (x8 - 1)))) then (if (rd x4 (rd x5 (wrap64 (x8 - 1)))) < (x4.length : Int) then (if 0 ≤ x6 then (if x6 < (x4.length : Int) then (spec_l3Ends.l0 k x0 (((x4.set ((rd x4 (rd x5 (wrap64 (x8 - 1)))) : Int).toNat x6).set ((rd x5 (wrap64 (x8 - 1))) : Int).toNat x6).set (x6 : Int).toNat (rd x5 (wrap64 (x8 - 1)))) y171 x10 x11 (wrap64 (x12 + 1))) else (none)) else (none)) else (none)) else (none)) else (if 0 ≤ x6 then (if x6 < (x4.length : Int) then (spec_l3Ends.l0 k x0 ((x4.set ((rd x5 (wrap64 (x8 - 1))) : Int).toNat x6).set (x6 : Int).toNat (rd x5 (wrap64 (x8 - 1)))) y171 x10 x11 (wrap64 (x12 + 1))) else (none)) else (none))) else (none)) else (none))) else (none)) else (none)) else (none))) else (spec_l3Ends.l0 k x0 x4 x5 x10 x11 (wrap64 (x12 + 1)))))))
end
def spec_l3Ends.f (k : Nat) (l0 : List (S56)) : Option (List Int × Bool):=spec_l3Ends.l0 k l0 ([] : List Int) ([] : List Int) l0 (l0.length : Int) 0
theorem spec_l3Ends.mono_l : ∀ k,(∀ y0 y1 y2 y3 y4 y5,LeO (spec_l3Ends.l0 k y0 y1 y2 y3 y4 y5) (spec_l3Ends.l0 (k + 1) y0 y1 y2 y3 y4 y5)) ∧ (∀ y0 y1 y2 y3 y4 y5 y6 y7 y8 y9 y10 y11,LeO (spec_l3Ends.j1 k y0 y1 y2 y3 y4 y5 y6 y7 y8 y9 y10 y11) (spec_l3Ends.j1 (k + 1) y0 y1 y2 y3 y4 y5 y6 y7 y8 y9 y10 y11))
 | 0 => ⟨fun _ _ _ _ _ _ r h => by simp [spec_l3Ends.l0] at h,fun _ _ _ _ _ _ _ _ _ _ _ _ r h => by simp [spec_l3Ends.j1] at h⟩
 | k + 1 => by
  obtain ⟨ih0,ih1⟩:=spec_l3Ends.mono_l k
  refine ⟨?_,?_⟩
  ·intro y0 y1 y2 y3 y4 y5
   unfold spec_l3Ends.l0
   repeat' first
   | (with_reducible exact ih0 _ _ _ _ _ _)
   | (with_reducible exact ih1 _ _ _ _ _ _ _ _ _ _ _ _)
   | (with_reducible exact spec_l3One.mono _ _ _ _)
   | (with_reducible exact spec_l3Within.mono _ _ _ _ _)
   | (with_reducible exact LeO.refl _)
   | (with_reducible exact LeO.none _)
   | (with_reducible refine LeO.ite ?_ ?_)
   | (with_reducible refine LeO.bind ?_ (fun _ => ?_))
   | exact ih0 _ _ _ _ _ _
   | exact ih1 _ _ _ _ _ _ _ _ _ _ _ _
   | exact spec_l3One.mono _ _ _ _
   | exact spec_l3Within.mono _ _ _ _ _
   | exact LeO.none _
   | refine LeO.ite ?_ ?_
   | refine LeO.bind ?_ (fun _ => ?_)
  ·intro y0 y1 y2 y3 y4 y5 y6 y7 y8 y9 y10 y11
   unfold spec_l3Ends.j1
   repeat' first
   | (with_reducible exact ih0 _ _ _ _ _ _)
   | (with_reducible exact ih1 _ _ _ _ _ _ _ _ _ _ _ _)
   | (with_reducible exact spec_l3One.mono _ _ _ _)
   | (with_reducible exact spec_l3Within.mono _ _ _ _ _)
   | (with_reducible exact LeO.refl _)
   | (with_reducible exact LeO.none _)
   | (with_reducible refine LeO.ite ?_ ?_)
   | (with_reducible refine LeO.bind ?_ (fun _ => ?_))
   | exact ih0 _ _ _ _ _ _
   | exact ih1 _ _ _ _ _ _ _ _ _ _ _ _
   | exact spec_l3One.mono _ _ _ _
   | exact spec_l3Within.mono _ _ _ _ _
   | exact LeO.none _
   | refine LeO.ite ?_ ?_
   | refine LeO.bind ?_ (fun _ => ?_)
theorem spec_l3Ends.mono : ∀ a0 k,LeO (spec_l3Ends.f k a0) (spec_l3Ends.f (k + 1) a0):=by
 intro a0 k
 obtain ⟨ih0,ih1⟩:=spec_l3Ends.mono_l k
 unfold spec_l3Ends.f
 repeat' first
   | (with_reducible exact ih0 _ _ _ _ _ _)
   | (with_reducible exact ih1 _ _ _ _ _ _ _ _ _ _ _ _)
   | (with_reducible exact spec_l3One.mono _ _ _ _)
   | (with_reducible exact spec_l3Within.mono _ _ _ _ _)
   | (with_reducible exact LeO.refl _)
   | (with_reducible exact LeO.none _)
   | (with_reducible refine LeO.ite ?_ ?_)
   | (with_reducible refine LeO.bind ?_ (fun _ => ?_))
   | exact ih0 _ _ _ _ _ _
   | exact ih1 _ _ _ _ _ _ _ _ _ _ _ _
   | exact spec_l3One.mono _ _ _ _
   | exact spec_l3Within.mono _ _ _ _ _
   | exact LeO.none _
   | refine LeO.ite ?_ ?_
   | refine LeO.bind ?_ (fun _ => ?_)
set_option maxHeartbeats 8000000 in
set_option maxRecDepth 100000 in
theorem spec_l3Ends.calls (k : Nat) (A0 : Option Addr) (c0 : Nat) (l0 : List (S56)) (r1 : List Int) (r2 : Bool) (w : World) (hr0 : Kd.C k56 w A0 l0.length l0) (hc0 : l0.length ≤ c0) (h : spec_l3Ends.f k l0 = some (r1,r2)) :
  Calls Try.prog 48 #[.slice A0 l0.length c0] w fun e w' => ∃ v0_ : Value,e = .returned (.tuple #[v0_,.bool r2]) ∧ Kd.R (Kd.int .i64) 3 w' w.heap.size (fun _ => True) v0_ r1 ∧ Below w.heap.size w w':=by
 have hu56:=Try.underlying56
 have HR0:=Aside0.mk hr0
 have HC0:=Aside0.mk hc0
 clear hr0 hc0
 have HB:=Aside0.mk (Below.refl w.heap.size w)
 have H : (spec_l3Ends.l0 k l0 ([] : List Int) ([] : List Int) l0 (l0.length : Int) 0) = some (r1,r2):=h
 clear h
 have H':=Aside0.mk H
 clear H
 go_enter Try.func48,Try.ntmps48
 go_wp2
 go_loopg [4,5,12] k (fun kq v4 v5 v12 w' => ∃ (x4_1 : List Int) (x5_1 : List Int) (x12_1 : Int),v12 = .int .i64 x12_1 ∧ Aside0 (spec_l3Ends.l0 kq l0 x4_1 x5_1 l0 (l0.length : Int) x12_1 = some (r1,r2)) ∧ Aside0 (kq ≤ k) ∧ Aside0 (Kd.R (Kd.int .i64) 3 w' w.heap.size (fun k_ => some k_ ≠ (v5 : Value).ownBlock) v4 x4_1) ∧ Aside0 (Kd.R (Kd.int .i64) 3 w' w.heap.size (fun k_ => some k_ ≠ (v4 : Value).ownBlock) v5 x5_1) ∧ Aside0 (Below w.heap.size w w'))
 case atStart => exact ⟨(([] : List Int)),(([] : List Int)),(0),(by first | rfl | (simp;done) | (simp [*];done)),H',⟨Nat.le_refl _⟩,⟨by first | exact Kd.R_nil _ _ _ _ _ | exact Kd.N_nil _ _ _ _ _ | exact Kd.V_nil _ _ _ _ _ | exact Kd.Q_nil _ _ _ _ _ | exact Kd.S_nil _ _ _ _ _⟩,⟨by first | exact Kd.R_nil _ _ _ _ _ | exact Kd.N_nil _ _ _ _ _ | exact Kd.V_nil _ _ _ _ _ | exact Kd.Q_nil _ _ _ _ _ | exact Kd.S_nil _ _ _ _ _⟩,⟨by repeat (first | (with_reducible first | exact HB.out | apply below_alloc | apply pw_below_drewN | apply below_drew1) | exact HB.out)⟩⟩
 case round =>
  clear H'
  obtain ⟨x4_1,x5_1,x12_1,rfl,HA,HK1,HO_4,HO_5,HB⟩:=hrel
  cases gk with
  | zero => exact absurd HA.out (by simp [spec_l3Ends.l0])
  | succ k1 =>
   have H:=HA.out
   clear HA
   simp only [spec_l3Ends.l0] at H
   by_cases c2 : x12_1 < (l0.length : Int)
   ·rw [if_pos c2] at H
    have c2b0 : decide (x12_1 < (l0.length : Int)) = true:=decide_eq_true c2
    clear c2
    by_cases c3 : 0 ≤ x12_1
    ·rw [if_pos c3] at H
     have c3b0 : decide (0 ≤ x12_1) = true:=decide_eq_true c3
     clear c3
     by_cases c4 : x12_1 < (l0.length : Int)
     ·rw [if_pos c4] at H
      have c4b0 : decide (x12_1 < (l0.length : Int)) = true:=decide_eq_true c4
      clear c4
      by_cases c5 : x4_1.length < 17592186044416
      ·rw [if_pos c5] at H
       have LMc5:=Aside0.mk c5
       clear c5
       obtain ⟨y155,hy155⟩ : ∃ y_ : List Int,y_ = (x4_1 ++ [(-1)]):=⟨_,rfl⟩
       replace H : ((spec_l3One.f k1 ((rd_T56 l0 x12_1).f0) ((rd_T56 l0 x12_1).f1) ((rd_T56 l0 x12_1).f2)).bind fun t158 => (if t158 = true then ((spec_l3Within.f k1 ((rd_T56 l0 x12_1).f0) ((rd_T56 l0 x12_1).f1) ((rd_T56 l0 x12_1).f2) (x5_1.length : Int)).bind fun t159 => (spec_l3Ends.j1 k1 l0 y155 x5_1 x12_1 (x5_1.length : Int) l0 (l0.length : Int) x12_1 (!t159) ((rd_T56 l0 x12_1).f0) ((rd_T56 l0 x12_1).f1) ((rd_T56 l0 x12_1).f2))) else (spec_l3Ends.j1 k1 l0 y155 x5_1 x12_1 (x5_1.length : Int) l0 (l0.length : Int) x12_1 true ((rd_T56 l0 x12_1).f0) ((rd_T56 l0 x12_1).f1) ((rd_T56 l0 x12_1).f2)))) = some (r1,r2):=by first | (rw [hy155];with_reducible exact H) | (have H2_:=(Option.bind_some _ _).symm.trans H;rw [hy155];with_reducible exact H2_) | (have H2_:=(Option.bind_some _ _).symm.trans H;with_reducible exact H2_) | with_reducible exact H | (rw [hy155];exact H) | exact H
       have Ny155:=Aside0.mk hy155
       clear hy155
       have HC6:=Aside0.mk H
       clear H
       have p153 : 0 ≤ (x12_1 : Int):=of_decide_eq_true (by first | (with_reducible assumption) | assumption)
       have q153 : x12_1 < (l0.length : Int):=of_decide_eq_true (by first | (with_reducible assumption) | assumption)
       obtain ⟨ad153,A153_2,c153_2,e153,hx153_0,hx153_1,hx153_2,hl153_2,hi153_2⟩:=at_T56 HR0.out x12_1 p153 q153
       cases e153
       replace hx153_0:=(HB.out.cell (World.block_lt_of_cell? w _ hx153_0)).trans hx153_0
       replace hx153_1:=(HB.out.cell (World.block_lt_of_cell? w _ hx153_1)).trans hx153_1
       replace hx153_2:=(HB.out.cell (World.block_lt_of_cell? w _ hx153_2)).trans hx153_2
       have HR153_2:=Aside0.mk hi153_2
       have HC153_2:=Aside0.mk hl153_2
       clear hi153_2 hl153_2
       replace p153:=eq_true p153
       replace q153:=eq_true q153
       go_upto_region 7 with (first | ((with_reducible refine gate_dst (N:=7) rfl ?_);(try (refine gate_guard (by rfl) ?_;dsimp only));refine box_event ?hg (N:=7) ?hd (cs:=#[.int .i64 0,.int .i64 0,.slice none 0 0]) (t:=56) ?hr ?_;(case hd => rfl);(case hg => rfl);(case hr => first | (go_simp;done) | (go_simp;rfl));intro gb154 hg w7 hbox hb;have n0_:=Aside0.mk (Kd.R_below (by (with_reducible repeat (first | apply Kd.R_alloc | apply Kd.R_drewN | apply Kd.R_drew));exact HO_4.out) hb);have n1_:=Aside0.mk (Kd.R_below (by (with_reducible repeat (first | apply Kd.R_alloc | apply Kd.R_drewN | apply Kd.R_drew));exact HO_5.out) hb);have n2_:=Aside0.mk (below_step (by repeat (first | (with_reducible first | exact HB.out | apply below_alloc | apply pw_below_drewN | apply below_drew1) | exact HB.out)) hb);have n3_:=Aside0.mk (hbox);have n4_:=Aside0.mk ((by rw [hg];exact (below_size (by repeat (first | (with_reducible first | exact HB.out | apply below_alloc | apply pw_below_drewN | apply below_drew1) | exact HB.out))) : w.heap.size ≤ gb154));have n5_:=Aside0.mk ((by rw [hg];exact (below_size (by repeat (first | (with_reducible first | exact HB.out | apply below_alloc | apply pw_below_drewN | apply below_drew1) | exact HB.out))) : w.heap.size ≤ gb154));clear HO_4;clear HO_5;clear HB;have HO_4:=n0_;have HO_5:=n1_;have HB:=n2_;have BK154:=n3_;have GW154:=n4_;have GE154:=n5_;clear n0_ n1_ n2_ n3_ n4_ n5_;clear hb hbox hg;have hcz8_0 : w7.cell? ⟨gb154,0,none⟩ = some (.int .i64 0):=(blk_cell BK154.out 0).trans rfl;have hcz8_1 : w7.cell? ⟨gb154,1,none⟩ = some (.int .i64 0):=(blk_cell BK154.out 1).trans rfl;have hcz8_2 : w7.cell? ⟨gb154,2,none⟩ = some (.slice none 0 0):=(blk_cell BK154.out 2).trans rfl;have hfz8_0:=blk_frozen BK154.out 0;have hfz8_1:=blk_frozen BK154.out 1;have hfz8_2:=blk_frozen BK154.out 2) | ((with_reducible refine gate_builtin (b:=.append) (xs:=#[.tmp 17,.tmp 18]) rfl ?_);(try (refine gate_guard (by rfl) ?_;dsimp only));at_builtin;refine Kd.R_append (Kd.int .i64) (w0:=w) w.heap.size rfl (.tmp 17) (.tmp 18) 29 3 (.int .i64 0) 8 rfl Try.underlying29 info3 rfl (by decide) (by omega) u4 x4_1 (-1) [.int .i64 (-1)] (fun k_ => some k_ ≠ (u5 : Value).ownBlock) (fun _ => False) rfl (by first | (go_simp;done) | (go_simp;rfl)) ?aP (fun _ hk => hk.elim) ?aF ?aO ?aB ?aS ?aL ?_;(case aP => exact rfl);(case aB => exact (by repeat (first | (with_reducible first | exact HB.out | apply below_alloc | apply pw_below_drewN | apply below_drew1 | refine below_set ?_ GE154.out) | exact HB.out)));(case aF => exact (fun k_ hk => Kd.fresh' (Kd.R_lt (by (with_reducible repeat (first | apply Kd.R_alloc | apply Kd.R_drewN | apply Kd.R_drew));exact (Kd.R_mono (Kd.R_far (p:=⟨gb154,2,none⟩) (Kd.R_far (p:=⟨gb154,1,none⟩) (Kd.R_far (p:=⟨gb154,0,none⟩) (Kd.R_types HO_5.out BK154.out (by decide)) (fun _ hk => hk.2) (.int .i64 ((rd_T56 l0 x12_1).f0))) (fun _ hk => hk.2) (.int .i64 ((rd_T56 l0 x12_1).f1))) (fun _ hk => hk.2) (.slice A153_2 ((rd_T56 l0 x12_1).f2).length c153_2)) (fun _ h_ => h_.1)))) k_ hk));(case aO => exact (by (with_reducible repeat (first | apply Kd.R_alloc | apply Kd.R_drewN | apply Kd.R_drew));exact Kd.R_mono (Kd.R_far (p:=⟨gb154,2,none⟩) (Kd.R_far (p:=⟨gb154,1,none⟩) (Kd.R_far (p:=⟨gb154,0,none⟩) (Kd.R_types HO_4.out BK154.out (by decide)) (fun _ hk => hk.2) (.int .i64 ((rd_T56 l0 x12_1).f0))) (fun _ hk => hk.2) (.int .i64 ((rd_T56 l0 x12_1).f1))) (fun _ hk => hk.2) (.slice A153_2 ((rd_T56 l0 x12_1).f2).length c153_2)) (fun _ hk => hk.1)));(case aS => exact (below_size (by repeat (first | (with_reducible first | exact HB.out | apply below_alloc | apply pw_below_drewN | apply below_drew1 | refine below_set ?_ GE154.out) | exact HB.out))));(case aL => have:=LMc5.out;omega);intro v156 w9 ho hb hg hat;rw [← Ny155.out] at ho;have n0_:=Aside0.mk (Kd.R_after (ok:=(fun _ => True)) (by (with_reducible repeat (first | apply Kd.R_alloc | apply Kd.R_drewN | apply Kd.R_drew));exact Kd.R_mono (Kd.R_far (p:=⟨gb154,2,none⟩) (Kd.R_far (p:=⟨gb154,1,none⟩) (Kd.R_far (p:=⟨gb154,0,none⟩) (Kd.R_types HO_5.out BK154.out (by decide)) (fun _ hk => hk.2) (.int .i64 ((rd_T56 l0 x12_1).f0))) (fun _ hk => hk.2) (.int .i64 ((rd_T56 l0 x12_1).f1))) (fun _ hk => hk.2) (.slice A153_2 ((rd_T56 l0 x12_1).f2).length c153_2)) (fun _ hk => ⟨trivial,hk.1⟩)) hg hat);have n1_:=Aside0.mk (blk_grown (g:=gb154) (o:=.cells #[.int .i64 ((rd_T56 l0 x12_1).f0),.int .i64 ((rd_T56 l0 x12_1).f1),.slice A153_2 ((rd_T56 l0 x12_1).f2).length c153_2] 56 (0,0)) (by (with_reducible repeat (first | refine blk_drewN ?_ _ | refine blk_drew ?_ | refine blk_alloc ?_ _));refine blk_put (cs:=#[.int .i64 ((rd_T56 l0 x12_1).f0),.int .i64 ((rd_T56 l0 x12_1).f1),.slice none 0 0]) ?_ 2 _ rfl;(with_reducible repeat (first | refine blk_drewN ?_ _ | refine blk_drew ?_ | refine blk_alloc ?_ _));refine blk_put (cs:=#[.int .i64 ((rd_T56 l0 x12_1).f0),.int .i64 0,.slice none 0 0]) ?_ 1 _ rfl;(with_reducible repeat (first | refine blk_drewN ?_ _ | refine blk_drew ?_ | refine blk_alloc ?_ _));refine blk_put (cs:=#[.int .i64 0,.int .i64 0,.slice none 0 0]) ?_ 0 _ rfl;(with_reducible repeat (first | refine blk_drewN ?_ _ | refine blk_drew ?_ | refine blk_alloc ?_ _));exact BK154.out) hg (Kd.R_ne HO_4.out BK154.out (by decide)));have n2_:=Aside0.mk (hb);have n3_:=Aside0.mk (ho);clear HO_5;clear BK154;clear HB;clear HO_4;have HO_5:=n0_;have BK154:=n1_;have HB:=n2_;have HO157:=n3_;clear n0_ n1_ n2_ n3_;clear ho hb hg hat;obtain ⟨Ao10,co10,eo10⟩:=Kd.R_slice HO_5.out;subst eo10))
       (try simp only [Act.put,List.setIfInBounds_toArray,List.set_cons_zero,List.set_cons_succ])
       go_cut [30] (fun v30 wc => ∃ (kq : Nat) (x30_5 : Bool),v30 = .bool x30_5 ∧ Aside0 (spec_l3Ends.j1 kq l0 y155 x5_1 x12_1 (x5_1.length : Int) l0 (l0.length : Int) x12_1 x30_5 ((rd_T56 l0 x12_1).f0) ((rd_T56 l0 x12_1).f1) ((rd_T56 l0 x12_1).f2) = some (r1,r2)) ∧ Aside0 (kq ≤ k1) ∧ Aside0 (Kd.R (Kd.int .i64) 3 wc w.heap.size (fun k_ => some k_ ≠ ((.slice Ao10 x5_1.length co10) : Value).ownBlock) v156 y155) ∧ Aside0 (Kd.R (Kd.int .i64) 3 wc w.heap.size (fun k_ => some k_ ≠ (v156 : Value).ownBlock) (.slice Ao10 x5_1.length co10) x5_1) ∧ Aside0 (wc.heap[gb154]? = some (.cells #[.int .i64 ((rd_T56 l0 x12_1).f0),.int .i64 ((rd_T56 l0 x12_1).f1),(.slice A153_2 ((rd_T56 l0 x12_1).f2).length c153_2)] 56 (0,0))) ∧ Aside0 (Below w.heap.size w wc))
       case first =>
        have H:=HC6.out
        clear HC6
        replace H:=Option.bind_eq_some_iff.mp H
        obtain ⟨t158,A110,H⟩:=H
        replace H : (if t158 = true then ((spec_l3Within.f k1 ((rd_T56 l0 x12_1).f0) ((rd_T56 l0 x12_1).f1) ((rd_T56 l0 x12_1).f2) (x5_1.length : Int)).bind fun t159 => (spec_l3Ends.j1 k1 l0 y155 x5_1 x12_1 (x5_1.length : Int) l0 (l0.length : Int) x12_1 (!t159) ((rd_T56 l0 x12_1).f0) ((rd_T56 l0 x12_1).f1) ((rd_T56 l0 x12_1).f2))) else (spec_l3Ends.j1 k1 l0 y155 x5_1 x12_1 (x5_1.length : Int) l0 (l0.length : Int) x12_1 true ((rd_T56 l0 x12_1).f0) ((rd_T56 l0 x12_1).f1) ((rd_T56 l0 x12_1).f2))) = some (r1,r2):=H
        have A11:=Aside0.mk A110
        clear A110
        by_cases c12 : t158 = true
        ·subst c12
         have H1 : ((spec_l3Within.f k1 ((rd_T56 l0 x12_1).f0) ((rd_T56 l0 x12_1).f1) ((rd_T56 l0 x12_1).f2) (x5_1.length : Int)).bind fun t159 => (spec_l3Ends.j1 k1 l0 y155 x5_1 x12_1 (x5_1.length : Int) l0 (l0.length : Int) x12_1 (!t159) ((rd_T56 l0 x12_1).f0) ((rd_T56 l0 x12_1).f1) ((rd_T56 l0 x12_1).f2))) = some (r1,r2):=by rw [if_pos rfl] at H;exact H
         clear H
         have H:=H1
         clear H1
         replace H:=Option.bind_eq_some_iff.mp H
         obtain ⟨t159,A130,H⟩:=H
         replace H : (spec_l3Ends.j1 k1 l0 y155 x5_1 x12_1 (x5_1.length : Int) l0 (l0.length : Int) x12_1 (!t159) ((rd_T56 l0 x12_1).f0) ((rd_T56 l0 x12_1).f1) ((rd_T56 l0 x12_1).f2)) = some (r1,r2):=H
         have A13:=Aside0.mk A130
         clear A130
         have H':=Aside0.mk H
         clear H
         have hcz14_0 : w9.cell? ⟨gb154,0,none⟩ = some (.int .i64 ((rd_T56 l0 x12_1).f0)):=(blk_cell BK154.out 0).trans rfl
         have hcz14_1 : w9.cell? ⟨gb154,1,none⟩ = some (.int .i64 ((rd_T56 l0 x12_1).f1)):=(blk_cell BK154.out 1).trans rfl
         have hcz14_2 : w9.cell? ⟨gb154,2,none⟩ = some (.slice A153_2 ((rd_T56 l0 x12_1).f2).length c153_2):=(blk_cell BK154.out 2).trans rfl
         have hfz14_0:=blk_frozen BK154.out 0
         have hfz14_1:=blk_frozen BK154.out 1
         have hfz14_2:=blk_frozen BK154.out 2
         go_wp2_with (first | ((with_reducible refine gate_callee (f:=72) rfl ?_);refine goesL_ (some 23) rfl rfl Try.func72 (by kernel_rfl) rfl #[.agg #[.int .i64 ((rd_T56 l0 x12_1).f0),.int .i64 ((rd_T56 l0 x12_1).f1),.slice A153_2 ((rd_T56 l0 x12_1).f2).length c153_2]] rfl (by (try simp only [List.map_toArray,List.map_cons,List.map_nil]);first | done | rfl | (simp only [List.length_drop,List.length_take];rfl)) ?_;(with_reducible refine (spec_l3One.calls k1 ((rd_T56 l0 x12_1).f0) ((rd_T56 l0 x12_1).f1) _ _ ((rd_T56 l0 x12_1).f2) true _ ?side1 ?side2 A11.out).mono ?_);(case side1 => repeat (first | exact (Kd.C_below HR153_2.out HB.out) | (with_reducible refine Kd.C_alloc ?_ _) | (with_reducible refine Kd.C_drewN ?_ _) | (with_reducible refine Kd.C_drew ?_)));(case side2 => exact HC153_2.out);rintro e w15 ⟨rfl,hb⟩;refine ⟨_,rfl,?_⟩;have n0_:=Aside0.mk (Kd.R_below (by (with_reducible repeat (first | apply Kd.R_alloc | apply Kd.R_drewN | apply Kd.R_drew));exact HO_5.out) hb);have n1_:=Aside0.mk (Kd.R_below (by (with_reducible repeat (first | apply Kd.R_alloc | apply Kd.R_drewN | apply Kd.R_drew));exact HO157.out) hb);have n2_:=Aside0.mk (blk_below (g:=gb154) (o:=.cells #[.int .i64 ((rd_T56 l0 x12_1).f0),.int .i64 ((rd_T56 l0 x12_1).f1),.slice A153_2 ((rd_T56 l0 x12_1).f2).length c153_2] 56 (0,0)) (by (with_reducible repeat (first | refine blk_drewN ?_ _ | refine blk_drew ?_ | refine blk_alloc ?_ _));exact BK154.out) hb);have n3_:=Aside0.mk (below_step (by repeat (first | (with_reducible first | exact HB.out | apply below_alloc | apply pw_below_drewN | apply below_drew1 | refine below_set ?_ GE154.out) | exact HB.out)) hb);clear HO_5;clear HO157;clear BK154;clear HB;have HO_5:=n0_;have HO157:=n1_;have BK154:=n2_;have HB:=n3_;clear n0_ n1_ n2_ n3_;(try clear hb);(try clear hb2);(try clear hk);(try clear hi);have hcz16_0 : w15.cell? ⟨gb154,0,none⟩ = some (.int .i64 ((rd_T56 l0 x12_1).f0)):=(blk_cell BK154.out 0).trans rfl;have hcz16_1 : w15.cell? ⟨gb154,1,none⟩ = some (.int .i64 ((rd_T56 l0 x12_1).f1)):=(blk_cell BK154.out 1).trans rfl;have hcz16_2 : w15.cell? ⟨gb154,2,none⟩ = some (.slice A153_2 ((rd_T56 l0 x12_1).f2).length c153_2):=(blk_cell BK154.out 2).trans rfl;have hfz16_0:=blk_frozen BK154.out 0;have hfz16_1:=blk_frozen BK154.out 1;have hfz16_2:=blk_frozen BK154.out 2) | (go_at_call 73;(with_reducible refine (spec_l3Within.calls k1 ((rd_T56 l0 x12_1).f0) ((rd_T56 l0 x12_1).f1) _ _ ((rd_T56 l0 x12_1).f2) (x5_1.length : Int) t159 _ ?side1 ?side2 A13.out).mono ?_);(case side1 => repeat (first | exact (Kd.C_below HR153_2.out HB.out) | (with_reducible refine Kd.C_alloc ?_ _) | (with_reducible refine Kd.C_drewN ?_ _) | (with_reducible refine Kd.C_drew ?_)));(case side2 => exact HC153_2.out);rintro e w17 ⟨rfl,hb⟩;have n0_:=Aside0.mk (Kd.R_below (by (with_reducible repeat (first | apply Kd.R_alloc | apply Kd.R_drewN | apply Kd.R_drew));exact HO_5.out) hb);have n1_:=Aside0.mk (Kd.R_below (by (with_reducible repeat (first | apply Kd.R_alloc | apply Kd.R_drewN | apply Kd.R_drew));exact HO157.out) hb);have n2_:=Aside0.mk (blk_below (g:=gb154) (o:=.cells #[.int .i64 ((rd_T56 l0 x12_1).f0),.int .i64 ((rd_T56 l0 x12_1).f1),.slice A153_2 ((rd_T56 l0 x12_1).f2).length c153_2] 56 (0,0)) (by (with_reducible repeat (first | refine blk_drewN ?_ _ | refine blk_drew ?_ | refine blk_alloc ?_ _));exact BK154.out) hb);have n3_:=Aside0.mk (below_step (by repeat (first | (with_reducible first | exact HB.out | apply below_alloc | apply pw_below_drewN | apply below_drew1 | refine below_set ?_ GE154.out) | exact HB.out)) hb);clear HO_5;clear HO157;clear BK154;clear HB;have HO_5:=n0_;have HO157:=n1_;have BK154:=n2_;have HB:=n3_;clear n0_ n1_ n2_ n3_;(try clear hb);(try clear hb2);(try clear hk);(try clear hi)))
         go_meet
         case rel => exact ⟨_,(!t159),(by first | rfl | (simp;done) | (simp [*];done)),H',⟨by have:=HK1.out;first | omega | exact Nat.le_refl _⟩,⟨by (with_reducible repeat (first | apply Kd.R_alloc | apply Kd.R_drewN | apply Kd.R_drew));exact HO157.out⟩,⟨by (with_reducible repeat (first | apply Kd.R_alloc | apply Kd.R_drewN | apply Kd.R_drew));exact Kd.R_mono HO_5.out (fun _ hk => hk.2)⟩,⟨by (with_reducible repeat (first | refine blk_drewN ?_ _ | refine blk_drew ?_ | refine blk_alloc ?_ _));exact BK154.out⟩,⟨by repeat (first | (with_reducible first | exact HB.out | apply below_alloc | apply pw_below_drewN | apply below_drew1 | refine below_set ?_ GE154.out) | exact HB.out)⟩⟩
        ·replace c12:=Bool.eq_false_iff.mpr c12
         subst c12
         have H1 : (spec_l3Ends.j1 k1 l0 y155 x5_1 x12_1 (x5_1.length : Int) l0 (l0.length : Int) x12_1 true ((rd_T56 l0 x12_1).f0) ((rd_T56 l0 x12_1).f1) ((rd_T56 l0 x12_1).f2)) = some (r1,r2):=by rw [if_neg (show ¬ (false = true) by decide)] at H;exact H
         clear H
         have H:=H1
         clear H1
         have H':=Aside0.mk H
         clear H
         have hcz18_0 : w9.cell? ⟨gb154,0,none⟩ = some (.int .i64 ((rd_T56 l0 x12_1).f0)):=(blk_cell BK154.out 0).trans rfl
         have hcz18_1 : w9.cell? ⟨gb154,1,none⟩ = some (.int .i64 ((rd_T56 l0 x12_1).f1)):=(blk_cell BK154.out 1).trans rfl
         have hcz18_2 : w9.cell? ⟨gb154,2,none⟩ = some (.slice A153_2 ((rd_T56 l0 x12_1).f2).length c153_2):=(blk_cell BK154.out 2).trans rfl
         have hfz18_0:=blk_frozen BK154.out 0
         have hfz18_1:=blk_frozen BK154.out 1
         have hfz18_2:=blk_frozen BK154.out 2
         go_wp2_with (first | ((with_reducible refine gate_callee (f:=72) rfl ?_);refine goesL_ (some 23) rfl rfl Try.func72 (by kernel_rfl) rfl #[.agg #[.int .i64 ((rd_T56 l0 x12_1).f0),.int .i64 ((rd_T56 l0 x12_1).f1),.slice A153_2 ((rd_T56 l0 x12_1).f2).length c153_2]] rfl (by (try simp only [List.map_toArray,List.map_cons,List.map_nil]);first | done | rfl | (simp only [List.length_drop,List.length_take];rfl)) ?_;(with_reducible refine (spec_l3One.calls k1 ((rd_T56 l0 x12_1).f0) ((rd_T56 l0 x12_1).f1) _ _ ((rd_T56 l0 x12_1).f2) false _ ?side1 ?side2 A11.out).mono ?_);(case side1 => repeat (first | exact (Kd.C_below HR153_2.out HB.out) | (with_reducible refine Kd.C_alloc ?_ _) | (with_reducible refine Kd.C_drewN ?_ _) | (with_reducible refine Kd.C_drew ?_)));(case side2 => exact HC153_2.out);rintro e w19 ⟨rfl,hb⟩;refine ⟨_,rfl,?_⟩;have n0_:=Aside0.mk (Kd.R_below (by (with_reducible repeat (first | apply Kd.R_alloc | apply Kd.R_drewN | apply Kd.R_drew));exact HO_5.out) hb);have n1_:=Aside0.mk (Kd.R_below (by (with_reducible repeat (first | apply Kd.R_alloc | apply Kd.R_drewN | apply Kd.R_drew));exact HO157.out) hb);have n2_:=Aside0.mk (blk_below (g:=gb154) (o:=.cells #[.int .i64 ((rd_T56 l0 x12_1).f0),.int .i64 ((rd_T56 l0 x12_1).f1),.slice A153_2 ((rd_T56 l0 x12_1).f2).length c153_2] 56 (0,0)) (by (with_reducible repeat (first | refine blk_drewN ?_ _ | refine blk_drew ?_ | refine blk_alloc ?_ _));exact BK154.out) hb);have n3_:=Aside0.mk (below_step (by repeat (first | (with_reducible first | exact HB.out | apply below_alloc | apply pw_below_drewN | apply below_drew1 | refine below_set ?_ GE154.out) | exact HB.out)) hb);clear HO_5;clear HO157;clear BK154;clear HB;have HO_5:=n0_;have HO157:=n1_;have BK154:=n2_;have HB:=n3_;clear n0_ n1_ n2_ n3_;(try clear hb);(try clear hb2);(try clear hk);(try clear hi)))
         go_meet
         case rel => exact ⟨_,(true),(by first | rfl | (simp;done) | (simp [*];done)),H',⟨by have:=HK1.out;first | omega | exact Nat.le_refl _⟩,⟨by (with_reducible repeat (first | apply Kd.R_alloc | apply Kd.R_drewN | apply Kd.R_drew));exact HO157.out⟩,⟨by (with_reducible repeat (first | apply Kd.R_alloc | apply Kd.R_drewN | apply Kd.R_drew));exact Kd.R_mono HO_5.out (fun _ hk => hk.2)⟩,⟨by (with_reducible repeat (first | refine blk_drewN ?_ _ | refine blk_drew ?_ | refine blk_alloc ?_ _));exact BK154.out⟩,⟨by repeat (first | (with_reducible first | exact HB.out | apply below_alloc | apply pw_below_drewN | apply below_drew1 | refine below_set ?_ GE154.out) | exact HB.out)⟩⟩
       case rest =>
        clear HC6
        try clear c1
        try clear p1
        try clear q1
        try clear hx1
        try clear c2
        try clear c2b0
        try clear p2
        try clear c3
        try clear c3b0
        try clear c4
        try clear c4b0
        try clear c5
        try clear c7
        try clear c12
        try clear c15
        try clear p15
        try clear q15
        try clear hx15
        try clear hcz14_0
        try clear hcz14_1
        try clear hcz14_2
        try clear hcz16_0
        try clear hcz16_1
        try clear hcz16_2
        try clear hcz18_0
        try clear hcz18_1
        try clear hcz18_2
        try clear hcz8_0
        try clear hcz8_1
        try clear hcz8_2
        try clear hfz14_0
        try clear hfz14_1
        try clear hfz14_2
        try clear hfz16_0
        try clear hfz16_1
        try clear hfz16_2
        try clear hfz18_0
        try clear hfz18_1
        try clear hfz18_2
        try clear hfz8_0
        try clear hfz8_1
        try clear hfz8_2
        try clear hx153_0
        try clear hx153_1
        try clear hx153_2
        try clear p153
        try clear q153
        obtain ⟨kq,x30_5,rfl,HA,HJ5,HO_4,HO_5,BK154,HB⟩:=hcut
        cases kq with
        | zero => exact absurd HA.out (by simp [spec_l3Ends.j1])
        | succ kj5 =>
         have H:=HA.out
         clear HA
         simp only [spec_l3Ends.j1] at H
         by_cases c20 : x30_5 = true
         ·subst c20
          have H1 : (some (([] : List Int),false)) = some (r1,r2):=by rw [if_pos rfl] at H;exact H
          clear H
          have H:=H1
          clear H1
          simp only [Option.some.injEq,Prod.mk.injEq] at H
          obtain ⟨rfl,rfl⟩:=H
          go_wp2
          go_ret2
          exact ⟨_,by first | rfl | (simp [errW_none,errW_some] <;> rfl) | (simp [*,errW_none,errW_some] <;> rfl),by first | exact Kd.R_nil _ _ _ _ _ | exact Kd.N_nil _ _ _ _ _ | exact Kd.V_nil _ _ _ _ _ | exact Kd.Q_nil _ _ _ _ _ | exact Kd.S_nil _ _ _ _ _,by repeat (first | (with_reducible first | exact HB.out | apply below_alloc | apply pw_below_drewN | apply below_drew1 | refine below_set ?_ GE154.out) | exact HB.out)⟩
         ·replace c20:=Bool.eq_false_iff.mpr c20
          subst c20
          have H1 : ((spec_l3Opens.f ((rd_T56 l0 x12_1).f0)).bind fun t160 => (if t160 = true then (if (x5_1.length : Int) = 8 then (some (([] : List Int),false)) else (if x5_1.length < 17592186044416 then (spec_l3Ends.l0 kj5 l0 y155 (x5_1 ++ [x12_1]) l0 (l0.length : Int) (wrap64 (x12_1 + 1))) else (none))) else (if ((rd_T56 l0 x12_1).f0) = 18 then (if (x5_1.length : Int) = 0 then (some (([] : List Int),false)) else (if 0 ≤ (wrap64 ((x5_1.length : Int) - 1)) then (if (wrap64 ((x5_1.length : Int) - 1)) < (x5_1.length : Int) then (if 0 ≤ (rd x5_1 (wrap64 ((x5_1.length : Int) - 1))) then (if (rd x5_1 (wrap64 ((x5_1.length : Int) - 1))) < (l0.length : Int) then (if ((rd_T56 l0 (rd x5_1 (wrap64 ((x5_1.length : Int) - 1)))).f0) = 17 then (if (rd x5_1 (wrap64 ((x5_1.length : Int) - 1))) < (y155.length : Int) then (if (rd y155 (rd x5_1 (wrap64 ((x5_1.length : Int) - 1)))) ≥ 0 then (some (([] : List Int),false)) else (spec_l3Ends.l0 kj5 l0 (y155.set ((rd x5_1 (wrap64 ((x5_1.length : Int) - 1))) : Int).toNat x12_1) x5_1 l0 (l0.length : Int) (wrap64 (x12_1 + 1)))) else (none)) else (some (([] : List Int),false))) else (none)) else (none)) else (none)) else (none))) else (if ((rd_T56 l0 x12_1).f0) = 19 then (if (x5_1.length : Int) = 0 then (some (([] : List Int),false)) else (if 0 ≤ (wrap64 ((x5_1.length : Int) - 1)) then (if (wrap64 ((x5_1.length : Int) - 1)) < (x5_1.length : Int) then (if (wrap64 ((x5_1.length : Int) - 1)) ≤ (x5_1.length : Int) then ((some (x5_1.take ((wrap64 ((x5_1.length : Int) - 1)) : Int).toNat : List Int)).bind fun y171 => (if 0 ≤ (rd x5_1 (wrap64 ((x5_1.length : Int) - 1))) then (if (rd x5_1 (wrap64 ((x5_1.length : Int) - 1))) < (y155.length : Int) then (if (rd y155 (rd x5_1 (wrap64 ((x5_1.length : Int) - 1)))) ≥ 0 then (if 0 ≤ (rd y155 (rd x5_1 (wrap64 ((x5_1.length : Int) - 1)))) then (if (rd y155 (rd x5_1 (wrap64 ((x5_1.length : Int) - 1)))) < (y155.length : Int) then (if 0 ≤ x12_1 then (if x12_1 < (y155.length : Int) then (spec_l3Ends.l0 kj5 l0 (((y155.set ((rd y155 (rd x5_1 (wrap64 ((x5_1.length : Int) - 1)))) : Int).toNat x12_1).set ((rd x5_1 (wrap64 ((x5_1.length : Int) - 1))) : Int).toNat x12_1).set (x12_1 : Int).toNat (rd x5_1 (wrap64 ((x5_1.length : Int) - 1)))) y171 l0 (l0.length : Int) (wrap64 (x12_1 + 1))) else (none)) else (none)) else (none)) else (none)) else (if 0 ≤ x12_1 then (if x12_1 < (y155.length : Int) then (spec_l3Ends.l0 kj5 l0 ((y155.set ((rd x5_1 (wrap64 ((x5_1.length : Int) - 1))) : Int).toNat x12_1).set (x12_1 : Int).toNat (rd x5_1 (wrap64 ((x5_1.length : Int) - 1)))) y171 l0 (l0.length : Int) (wrap64 (x12_1 + 1))) else (none)) else (none))) else (none)) else (none))) else (none)) else (none)) else (none))) else (spec_l3Ends.l0 kj5 l0 y155 x5_1 l0 (l0.length : Int) (wrap64 (x12_1 + 1))))))) = some (r1,r2):=by rw [if_neg (show ¬ (false = true) by decide)] at H;exact H
          clear H
          have H:=H1
          clear H1
          replace H:=Option.bind_eq_some_iff.mp H
          obtain ⟨t160,A210,H⟩:=H
          replace H : (if t160 = true then (if (x5_1.length : Int) = 8 then (some (([] : List Int),false)) else (if x5_1.length < 17592186044416 then (spec_l3Ends.l0 kj5 l0 y155 (x5_1 ++ [x12_1]) l0 (l0.length : Int) (wrap64 (x12_1 + 1))) else (none))) else (if ((rd_T56 l0 x12_1).f0) = 18 then (if (x5_1.length : Int) = 0 then (some (([] : List Int),false)) else (if 0 ≤ (wrap64 ((x5_1.length : Int) - 1)) then (if (wrap64 ((x5_1.length : Int) - 1)) < (x5_1.length : Int) then (if 0 ≤ (rd x5_1 (wrap64 ((x5_1.length : Int) - 1))) then (if (rd x5_1 (wrap64 ((x5_1.length : Int) - 1))) < (l0.length : Int) then (if ((rd_T56 l0 (rd x5_1 (wrap64 ((x5_1.length : Int) - 1)))).f0) = 17 then (if (rd x5_1 (wrap64 ((x5_1.length : Int) - 1))) < (y155.length : Int) then (if (rd y155 (rd x5_1 (wrap64 ((x5_1.length : Int) - 1)))) ≥ 0 then (some (([] : List Int),false)) else (spec_l3Ends.l0 kj5 l0 (y155.set ((rd x5_1 (wrap64 ((x5_1.length : Int) - 1))) : Int).toNat x12_1) x5_1 l0 (l0.length : Int) (wrap64 (x12_1 + 1)))) else (none)) else (some (([] : List Int),false))) else (none)) else (none)) else (none)) else (none))) else (if ((rd_T56 l0 x12_1).f0) = 19 then (if (x5_1.length : Int) = 0 then (some (([] : List Int),false)) else (if 0 ≤ (wrap64 ((x5_1.length : Int) - 1)) then (if (wrap64 ((x5_1.length : Int) - 1)) < (x5_1.length : Int) then (if (wrap64 ((x5_1.length : Int) - 1)) ≤ (x5_1.length : Int) then ((some (x5_1.take ((wrap64 ((x5_1.length : Int) - 1)) : Int).toNat : List Int)).bind fun y171 => (if 0 ≤ (rd x5_1 (wrap64 ((x5_1.length : Int) - 1))) then (if (rd x5_1 (wrap64 ((x5_1.length : Int) - 1))) < (y155.length : Int) then (if (rd y155 (rd x5_1 (wrap64 ((x5_1.length : Int) - 1)))) ≥ 0 then (if 0 ≤ (rd y155 (rd x5_1 (wrap64 ((x5_1.length : Int) - 1)))) then (if (rd y155 (rd x5_1 (wrap64 ((x5_1.length : Int) - 1)))) < (y155.length : Int) then (if 0 ≤ x12_1 then (if x12_1 < (y155.length : Int) then (spec_l3Ends.l0 kj5 l0 (((y155.set ((rd y155 (rd x5_1 (wrap64 ((x5_1.length : Int) - 1)))) : Int).toNat x12_1).set ((rd x5_1 (wrap64 ((x5_1.length : Int) - 1))) : Int).toNat x12_1).set (x12_1 : Int).toNat (rd x5_1 (wrap64 ((x5_1.length : Int) - 1)))) y171 l0 (l0.length : Int) (wrap64 (x12_1 + 1))) else (none)) else (none)) else (none)) else (none)) else (if 0 ≤ x12_1 then (if x12_1 < (y155.length : Int) then (spec_l3Ends.l0 kj5 l0 ((y155.set ((rd x5_1 (wrap64 ((x5_1.length : Int) - 1))) : Int).toNat x12_1).set (x12_1 : Int).toNat (rd x5_1 (wrap64 ((x5_1.length : Int) - 1)))) y171 l0 (l0.length : Int) (wrap64 (x12_1 + 1))) else (none)) else (none))) else (none)) else (none))) else (none)) else (none)) else (none))) else (spec_l3Ends.l0 kj5 l0 y155 x5_1 l0 (l0.length : Int) (wrap64 (x12_1 + 1)))))) = some (r1,r2):=H
          have A21:=Aside0.mk A210
          clear A210
          by_cases c22 : t160 = true
          ·subst c22
           have H1 : (if (x5_1.length : Int) = 8 then (some (([] : List Int),false)) else (if x5_1.length < 17592186044416 then (spec_l3Ends.l0 kj5 l0 y155 (x5_1 ++ [x12_1]) l0 (l0.length : Int) (wrap64 (x12_1 + 1))) else (none))) = some (r1,r2):=by rw [if_pos rfl] at H;exact H
           clear H
           have H:=H1
           clear H1
           by_cases c23 : (x5_1.length : Int) = 8
           ·rw [if_pos c23] at H
            have c23b0 : ((x5_1.length : Int) == 8) = true:=beq_iff_eq.mpr c23
            have c23b1 : ((x5_1.length : Int) != 8) = false:=bne_eq_false_iff_eq.mpr c23
            clear c23
            simp only [Option.some.injEq,Prod.mk.injEq] at H
            obtain ⟨rfl,rfl⟩:=H
            have hcz24_0 : wc.cell? ⟨gb154,0,none⟩ = some (.int .i64 ((rd_T56 l0 x12_1).f0)):=(blk_cell BK154.out 0).trans rfl
            have hcz24_1 : wc.cell? ⟨gb154,1,none⟩ = some (.int .i64 ((rd_T56 l0 x12_1).f1)):=(blk_cell BK154.out 1).trans rfl
            have hcz24_2 : wc.cell? ⟨gb154,2,none⟩ = some (.slice A153_2 ((rd_T56 l0 x12_1).f2).length c153_2):=(blk_cell BK154.out 2).trans rfl
            have hfz24_0:=blk_frozen BK154.out 0
            have hfz24_1:=blk_frozen BK154.out 1
            have hfz24_2:=blk_frozen BK154.out 2
            go_wp2_with (first | ((with_reducible refine gate_callee (f:=74) rfl ?_);refine goesL_ (some 34) rfl rfl Try.func74 (by kernel_rfl) rfl #[.int .i64 ((rd_T56 l0 x12_1).f0)] rfl (by (try simp only [List.map_toArray,List.map_cons,List.map_nil]);first | done | rfl | (simp only [List.length_drop,List.length_take];rfl)) ?_;(with_reducible refine (spec_l3Opens.calls ((rd_T56 l0 x12_1).f0) true _ A21.out).mono ?_);rintro e w' ⟨rfl,⟨nd,rfl⟩⟩;refine ⟨_,rfl,?_⟩))
            go_ret2
            exact ⟨_,by first | rfl | (simp [errW_none,errW_some] <;> rfl) | (simp [*,errW_none,errW_some] <;> rfl),by first | exact Kd.R_nil _ _ _ _ _ | exact Kd.N_nil _ _ _ _ _ | exact Kd.V_nil _ _ _ _ _ | exact Kd.Q_nil _ _ _ _ _ | exact Kd.S_nil _ _ _ _ _,by repeat (first | (with_reducible first | exact HB.out | apply below_alloc | apply pw_below_drewN | apply below_drew1 | refine below_set ?_ GE154.out) | exact HB.out)⟩
           ·rw [if_neg c23] at H
            have c23b0 : ((x5_1.length : Int) == 8) = false:=beq_eq_false_iff_ne.mpr c23
            have c23b1 : ((x5_1.length : Int) != 8) = true:=bne_iff_ne.mpr c23
            by_cases c25 : x5_1.length < 17592186044416
            ·rw [if_pos c25] at H
             have LMc25:=Aside0.mk c25
             clear c25
             obtain ⟨y161,hy161⟩ : ∃ y_ : List Int,y_ = (x5_1 ++ [x12_1]):=⟨_,rfl⟩
             replace H : (spec_l3Ends.l0 kj5 l0 y155 y161 l0 (l0.length : Int) (wrap64 (x12_1 + 1))) = some (r1,r2):=by first | (rw [hy161];with_reducible exact H) | (have H2_:=(Option.bind_some _ _).symm.trans H;rw [hy161];with_reducible exact H2_) | (have H2_:=(Option.bind_some _ _).symm.trans H;with_reducible exact H2_) | with_reducible exact H | (rw [hy161];exact H) | exact H
             have Ny161:=Aside0.mk hy161
             clear hy161
             have H':=Aside0.mk H
             clear H
             have hcz26_0 : wc.cell? ⟨gb154,0,none⟩ = some (.int .i64 ((rd_T56 l0 x12_1).f0)):=(blk_cell BK154.out 0).trans rfl
             have hcz26_1 : wc.cell? ⟨gb154,1,none⟩ = some (.int .i64 ((rd_T56 l0 x12_1).f1)):=(blk_cell BK154.out 1).trans rfl
             have hcz26_2 : wc.cell? ⟨gb154,2,none⟩ = some (.slice A153_2 ((rd_T56 l0 x12_1).f2).length c153_2):=(blk_cell BK154.out 2).trans rfl
             have hfz26_0:=blk_frozen BK154.out 0
             have hfz26_1:=blk_frozen BK154.out 1
             have hfz26_2:=blk_frozen BK154.out 2
             go_wp2_with (first | ((with_reducible refine gate_callee (f:=74) rfl ?_);refine goesL_ (some 34) rfl rfl Try.func74 (by kernel_rfl) rfl #[.int .i64 ((rd_T56 l0 x12_1).f0)] rfl (by (try simp only [List.map_toArray,List.map_cons,List.map_nil]);first | done | rfl | (simp only [List.length_drop,List.length_take];rfl)) ?_;(with_reducible refine (spec_l3Opens.calls ((rd_T56 l0 x12_1).f0) true _ A21.out).mono ?_);rintro e w' ⟨rfl,⟨nd,rfl⟩⟩;refine ⟨_,rfl,?_⟩) | ((with_reducible refine gate_builtin (b:=.append) (xs:=#[.tmp 37,.tmp 39]) rfl ?_);(try (refine gate_guard (by rfl) ?_;dsimp only));at_builtin;refine Kd.R_append (Kd.int .i64) (w0:=w) w.heap.size rfl (.tmp 37) (.tmp 39) 29 3 (.int .i64 0) 8 rfl Try.underlying29 info3 rfl (by decide) (by omega) (.slice Ao10 x5_1.length co10) x5_1 x12_1 [.int .i64 x12_1] (fun k_ => some k_ ≠ (v156 : Value).ownBlock) (fun _ => False) rfl rfl ?aP (fun _ hk => hk.elim) ?aF ?aO ?aB ?aS ?aL ?_;(case aP => exact rfl);(case aB => exact (by repeat (first | (with_reducible first | exact HB.out | apply below_alloc | apply pw_below_drewN | apply below_drew1 | refine below_set ?_ GE154.out) | exact HB.out)));(case aF => exact (fun k_ hk => Kd.fresh' (Kd.R_lt (by (with_reducible repeat (first | apply Kd.R_alloc | apply Kd.R_drewN | apply Kd.R_drew));exact HO_4.out)) k_ hk));(case aO => exact (by (with_reducible repeat (first | apply Kd.R_alloc | apply Kd.R_drewN | apply Kd.R_drew));exact HO_5.out));(case aS => exact (below_size (by repeat (first | (with_reducible first | exact HB.out | apply below_alloc | apply pw_below_drewN | apply below_drew1 | refine below_set ?_ GE154.out) | exact HB.out))));(case aL => have:=LMc25.out;omega);intro v162 w27 ho hb hg hat;rw [← Ny161.out] at ho;have n0_:=Aside0.mk (Kd.R_after (ok:=(fun _ => True)) (by (with_reducible repeat (first | apply Kd.R_alloc | apply Kd.R_drewN | apply Kd.R_drew));exact Kd.R_mono HO_4.out (fun _ hk => ⟨trivial,hk⟩)) hg hat);have n1_:=Aside0.mk (blk_grown (g:=gb154) (o:=.cells #[.int .i64 ((rd_T56 l0 x12_1).f0),.int .i64 ((rd_T56 l0 x12_1).f1),.slice A153_2 ((rd_T56 l0 x12_1).f2).length c153_2] 56 (0,0)) (by (with_reducible repeat (first | refine blk_drewN ?_ _ | refine blk_drew ?_ | refine blk_alloc ?_ _));exact BK154.out) hg (Kd.R_ne HO_5.out BK154.out (by decide)));have n2_:=Aside0.mk (hb);have n3_:=Aside0.mk (ho);clear HO_4;clear BK154;clear HB;clear HO_5;have HO_4:=n0_;have BK154:=n1_;have HB:=n2_;have HO163:=n3_;clear n0_ n1_ n2_ n3_;clear ho hb hg hat))
             go_roundg kj5
             case measure => have:=HK1.out;have:=HJ5.out;omega
             case rel => exact ⟨(y155),(y161),(wrap64 (x12_1 + 1)),(by first | rfl | (simp;done) | (simp [*];done)),H',⟨by have:=HK1.out;have:=HJ5.out;omega⟩,⟨by (with_reducible repeat (first | apply Kd.R_alloc | apply Kd.R_drewN | apply Kd.R_drew));exact Kd.R_mono HO_4.out (fun _ hk => hk.2)⟩,⟨by (with_reducible repeat (first | apply Kd.R_alloc | apply Kd.R_drewN | apply Kd.R_drew));exact HO163.out⟩,⟨by repeat (first | (with_reducible first | exact HB.out | apply below_alloc | apply pw_below_drewN | apply below_drew1 | refine below_set ?_ GE154.out) | exact HB.out)⟩⟩
            ·rw [if_neg c25] at H
             exact absurd H (by simp)
          ·replace c22:=Bool.eq_false_iff.mpr c22
           subst c22
           have H1 : (if ((rd_T56 l0 x12_1).f0) = 18 then (if (x5_1.length : Int) = 0 then (some (([] : List Int),false)) else (if 0 ≤ (wrap64 ((x5_1.length : Int) - 1)) then (if (wrap64 ((x5_1.length : Int) - 1)) < (x5_1.length : Int) then (if 0 ≤ (rd x5_1 (wrap64 ((x5_1.length : Int) - 1))) then (if (rd x5_1 (wrap64 ((x5_1.length : Int) - 1))) < (l0.length : Int) then (if ((rd_T56 l0 (rd x5_1 (wrap64 ((x5_1.length : Int) - 1)))).f0) = 17 then (if (rd x5_1 (wrap64 ((x5_1.length : Int) - 1))) < (y155.length : Int) then (if (rd y155 (rd x5_1 (wrap64 ((x5_1.length : Int) - 1)))) ≥ 0 then (some (([] : List Int),false)) else (spec_l3Ends.l0 kj5 l0 (y155.set ((rd x5_1 (wrap64 ((x5_1.length : Int) - 1))) : Int).toNat x12_1) x5_1 l0 (l0.length : Int) (wrap64 (x12_1 + 1)))) else (none)) else (some (([] : List Int),false))) else (none)) else (none)) else (none)) else (none))) else (if ((rd_T56 l0 x12_1).f0) = 19 then (if (x5_1.length : Int) = 0 then (some (([] : List Int),false)) else (if 0 ≤ (wrap64 ((x5_1.length : Int) - 1)) then (if (wrap64 ((x5_1.length : Int) - 1)) < (x5_1.length : Int) then (if (wrap64 ((x5_1.length : Int) - 1)) ≤ (x5_1.length : Int) then ((some (x5_1.take ((wrap64 ((x5_1.length : Int) - 1)) : Int).toNat : List Int)).bind fun y171 => (if 0 ≤ (rd x5_1 (wrap64 ((x5_1.length : Int) - 1))) then (if (rd x5_1 (wrap64 ((x5_1.length : Int) - 1))) < (y155.length : Int) then (if (rd y155 (rd x5_1 (wrap64 ((x5_1.length : Int) - 1)))) ≥ 0 then (if 0 ≤ (rd y155 (rd x5_1 (wrap64 ((x5_1.length : Int) - 1)))) then (if (rd y155 (rd x5_1 (wrap64 ((x5_1.length : Int) - 1)))) < (y155.length : Int) then (if 0 ≤ x12_1 then (if x12_1 < (y155.length : Int) then (spec_l3Ends.l0 kj5 l0 (((y155.set ((rd y155 (rd x5_1 (wrap64 ((x5_1.length : Int) - 1)))) : Int).toNat x12_1).set ((rd x5_1 (wrap64 ((x5_1.length : Int) - 1))) : Int).toNat x12_1).set (x12_1 : Int).toNat (rd x5_1 (wrap64 ((x5_1.length : Int) - 1)))) y171 l0 (l0.length : Int) (wrap64 (x12_1 + 1))) else (none)) else (none)) else (none)) else (none)) else (if 0 ≤ x12_1 then (if x12_1 < (y155.length : Int) then (spec_l3Ends.l0 kj5 l0 ((y155.set ((rd x5_1 (wrap64 ((x5_1.length : Int) - 1))) : Int).toNat x12_1).set (x12_1 : Int).toNat (rd x5_1 (wrap64 ((x5_1.length : Int) - 1)))) y171 l0 (l0.length : Int) (wrap64 (x12_1 + 1))) else (none)) else (none))) else (none)) else (none))) else (none)) else (none)) else (none))) else (spec_l3Ends.l0 kj5 l0 y155 x5_1 l0 (l0.length : Int) (wrap64 (x12_1 + 1))))) = some (r1,r2):=by rw [if_neg (show ¬ (false = true) by decide)] at H;exact H
           clear H
           have H:=H1
           clear H1
           by_cases c28 : ((rd_T56 l0 x12_1).f0) = 18
           ·rw [if_pos c28] at H
            have c28b0 : (((rd_T56 l0 x12_1).f0) == 18) = true:=beq_iff_eq.mpr c28
            have c28b1 : (((rd_T56 l0 x12_1).f0) != 18) = false:=bne_eq_false_iff_eq.mpr c28
            clear c28
            by_cases c29 : (x5_1.length : Int) = 0
            ·rw [if_pos c29] at H
             have c29b0 : ((x5_1.length : Int) == 0) = true:=beq_iff_eq.mpr c29
             have c29b1 : ((x5_1.length : Int) != 0) = false:=bne_eq_false_iff_eq.mpr c29
             clear c29
             simp only [Option.some.injEq,Prod.mk.injEq] at H
             obtain ⟨rfl,rfl⟩:=H
             have hcz30_0 : wc.cell? ⟨gb154,0,none⟩ = some (.int .i64 ((rd_T56 l0 x12_1).f0)):=(blk_cell BK154.out 0).trans rfl
             have hcz30_1 : wc.cell? ⟨gb154,1,none⟩ = some (.int .i64 ((rd_T56 l0 x12_1).f1)):=(blk_cell BK154.out 1).trans rfl
             have hcz30_2 : wc.cell? ⟨gb154,2,none⟩ = some (.slice A153_2 ((rd_T56 l0 x12_1).f2).length c153_2):=(blk_cell BK154.out 2).trans rfl
             have hfz30_0:=blk_frozen BK154.out 0
             have hfz30_1:=blk_frozen BK154.out 1
             have hfz30_2:=blk_frozen BK154.out 2
             go_wp2_with (first | ((with_reducible refine gate_callee (f:=74) rfl ?_);refine goesL_ (some 34) rfl rfl Try.func74 (by kernel_rfl) rfl #[.int .i64 ((rd_T56 l0 x12_1).f0)] rfl (by (try simp only [List.map_toArray,List.map_cons,List.map_nil]);first | done | rfl | (simp only [List.length_drop,List.length_take];rfl)) ?_;(with_reducible refine (spec_l3Opens.calls ((rd_T56 l0 x12_1).f0) false _ A21.out).mono ?_);rintro e w' ⟨rfl,⟨nd,rfl⟩⟩;refine ⟨_,rfl,?_⟩))
             go_ret2
             exact ⟨_,by first | rfl | (simp [errW_none,errW_some] <;> rfl) | (simp [*,errW_none,errW_some] <;> rfl),by first | exact Kd.R_nil _ _ _ _ _ | exact Kd.N_nil _ _ _ _ _ | exact Kd.V_nil _ _ _ _ _ | exact Kd.Q_nil _ _ _ _ _ | exact Kd.S_nil _ _ _ _ _,by repeat (first | (with_reducible first | exact HB.out | apply below_alloc | apply pw_below_drewN | apply below_drew1 | refine below_set ?_ GE154.out) | exact HB.out)⟩
            ·rw [if_neg c29] at H
             have c29b0 : ((x5_1.length : Int) == 0) = false:=beq_eq_false_iff_ne.mpr c29
             have c29b1 : ((x5_1.length : Int) != 0) = true:=bne_iff_ne.mpr c29
             have c29b2 : ¬ (x5_1 = []):=fun h_ => c29 (by rw [h_];rfl)
             obtain ⟨ji31,hji31⟩ : ∃ j_ : Int,(wrap64 ((x5_1.length : Int) - 1)) = j_:=⟨_,rfl⟩
             replace H : (if 0 ≤ (ji31) then (if (ji31) < (x5_1.length : Int) then (if 0 ≤ (rd x5_1 (ji31)) then (if (rd x5_1 (ji31)) < (l0.length : Int) then (if ((rd_T56 l0 (rd x5_1 (ji31))).f0) = 17 then (if (rd x5_1 (ji31)) < (y155.length : Int) then (if (rd y155 (rd x5_1 (ji31))) ≥ 0 then (some (([] : List Int),false)) else (spec_l3Ends.l0 kj5 l0 (y155.set ((rd x5_1 (ji31)) : Int).toNat x12_1) x5_1 l0 (l0.length : Int) (wrap64 (x12_1 + 1)))) else (none)) else (some (([] : List Int),false))) else (none)) else (none)) else (none)) else (none)) = some (r1,r2):=by first | (rw [hji31] at H;exact H) | (simp only [hji31] at H ⊢;exact H)
             (try rw [hji31] at A21)
             have hji31w : (IntKind.i64.wrap ((x5_1.length : Int) - 1)) = ji31:=(i64_w _).trans hji31
             by_cases c32 : 0 ≤ (ji31)
             ·rw [if_pos c32] at H
              have c32b0 : decide (0 ≤ (ji31)) = true:=decide_eq_true c32
              clear c32
              by_cases c33 : (ji31) < (x5_1.length : Int)
              ·rw [if_pos c33] at H
               have c33b0 : decide ((ji31) < (x5_1.length : Int)) = true:=decide_eq_true c33
               clear c33
               by_cases c34 : 0 ≤ (rd x5_1 (ji31))
               ·rw [if_pos c34] at H
                have c34b0 : decide (0 ≤ (rd x5_1 (ji31))) = true:=decide_eq_true c34
                clear c34
                by_cases c35 : (rd x5_1 (ji31)) < (l0.length : Int)
                ·rw [if_pos c35] at H
                 have c35b0 : decide ((rd x5_1 (ji31)) < (l0.length : Int)) = true:=decide_eq_true c35
                 clear c35
                 by_cases c36 : ((rd_T56 l0 (rd x5_1 (ji31))).f0) = 17
                 ·rw [if_pos c36] at H
                  have c36b0 : (((rd_T56 l0 (rd x5_1 (ji31))).f0) == 17) = true:=beq_iff_eq.mpr c36
                  have c36b1 : (((rd_T56 l0 (rd x5_1 (ji31))).f0) != 17) = false:=bne_eq_false_iff_eq.mpr c36
                  clear c36
                  by_cases c37 : (rd x5_1 (ji31)) < (y155.length : Int)
                  ·rw [if_pos c37] at H
                   have c37b0 : decide ((rd x5_1 (ji31)) < (y155.length : Int)) = true:=decide_eq_true c37
                   clear c37
                   by_cases c38 : (rd y155 (rd x5_1 (ji31))) ≥ 0
                   ·rw [if_pos c38] at H
                    have c38b0 : decide (0 ≤ (rd y155 (rd x5_1 (ji31)))) = true:=decide_eq_true c38
                    clear c38
                    simp only [Option.some.injEq,Prod.mk.injEq] at H
                    obtain ⟨rfl,rfl⟩:=H
                    have hcz39_0 : wc.cell? ⟨gb154,0,none⟩ = some (.int .i64 ((rd_T56 l0 x12_1).f0)):=(blk_cell BK154.out 0).trans rfl
                    have hcz39_1 : wc.cell? ⟨gb154,1,none⟩ = some (.int .i64 ((rd_T56 l0 x12_1).f1)):=(blk_cell BK154.out 1).trans rfl
                    have hcz39_2 : wc.cell? ⟨gb154,2,none⟩ = some (.slice A153_2 ((rd_T56 l0 x12_1).f2).length c153_2):=(blk_cell BK154.out 2).trans rfl
                    have hfz39_0:=blk_frozen BK154.out 0
                    have hfz39_1:=blk_frozen BK154.out 1
                    have hfz39_2:=blk_frozen BK154.out 2
                    go_wp2_with (first | ((with_reducible refine gate_callee (f:=74) rfl ?_);refine goesL_ (some 34) rfl rfl Try.func74 (by kernel_rfl) rfl #[.int .i64 ((rd_T56 l0 x12_1).f0)] rfl (by (try simp only [List.map_toArray,List.map_cons,List.map_nil]);first | done | rfl | (simp only [List.length_drop,List.length_take];rfl)) ?_;(with_reducible refine (spec_l3Opens.calls ((rd_T56 l0 x12_1).f0) false _ A21.out).mono ?_);rintro e w' ⟨rfl,⟨nd,rfl⟩⟩;refine ⟨_,rfl,?_⟩;have p164 : 0 ≤ ((ji31) : Int):=of_decide_eq_true (by first | (with_reducible assumption) | assumption);have q164 : (ji31) < (x5_1.length : Int):=of_decide_eq_true (by first | (with_reducible assumption) | assumption);obtain ⟨ad164,e164,hx164_0⟩:=Kd.at_int (Kd.R_reads' HO_5.out).2.2 (ji31) p164 q164;cases e164;replace p164:=eq_true p164;replace q164:=eq_true q164;have p165 : 0 ≤ ((rd x5_1 (ji31)) : Int):=of_decide_eq_true (by first | (with_reducible assumption) | assumption);have q165 : (rd x5_1 (ji31)) < (l0.length : Int):=of_decide_eq_true (by first | (with_reducible assumption) | assumption);obtain ⟨ad165,A165_2,c165_2,e165,hx165_0,hx165_1,hx165_2,hl165_2,hi165_2⟩:=at_T56 HR0.out (rd x5_1 (ji31)) p165 q165;obtain rfl : ad153 = ad165:=(by injection e165);replace hx165_0:=(HB.out.cell (World.block_lt_of_cell? w _ hx165_0)).trans hx165_0;replace hx165_1:=(HB.out.cell (World.block_lt_of_cell? w _ hx165_1)).trans hx165_1;replace hx165_2:=(HB.out.cell (World.block_lt_of_cell? w _ hx165_2)).trans hx165_2;have HR165_2:=Aside0.mk hi165_2;have HC165_2:=Aside0.mk hl165_2;clear hi165_2 hl165_2;replace p165:=eq_true p165;replace q165:=eq_true q165;have p166 : 0 ≤ ((ji31) : Int):=of_decide_eq_true (by first | (with_reducible assumption) | assumption);have q166 : (ji31) < (x5_1.length : Int):=of_decide_eq_true (by first | (with_reducible assumption) | assumption);obtain ⟨ad166,e166,hx166_0⟩:=Kd.at_int (Kd.R_reads' HO_5.out).2.2 (ji31) p166 q166;obtain rfl : ad164 = ad166:=(by injection e166);replace p166:=eq_true p166;replace q166:=eq_true q166;obtain ⟨Ao40,co40,eo40⟩:=Kd.R_slice HO_4.out;subst eo40;have p167 : 0 ≤ ((rd x5_1 (ji31)) : Int):=of_decide_eq_true (by first | (with_reducible assumption) | assumption);have q167 : (rd x5_1 (ji31)) < (y155.length : Int):=of_decide_eq_true (by first | (with_reducible assumption) | assumption);obtain ⟨ad167,e167,hx167_0⟩:=Kd.at_int (Kd.R_reads' HO_4.out).2.2 (rd x5_1 (ji31)) p167 q167;cases e167;replace p167:=eq_true p167;replace q167:=eq_true q167))
                    go_ret2
                    exact ⟨_,by first | rfl | (simp [errW_none,errW_some] <;> rfl) | (simp only [← hji31];first | rfl | (simp [errW_none,errW_some] <;> rfl)) | (simp [*,errW_none,errW_some] <;> rfl),by first | exact Kd.R_nil _ _ _ _ _ | exact Kd.N_nil _ _ _ _ _ | exact Kd.V_nil _ _ _ _ _ | exact Kd.Q_nil _ _ _ _ _ | exact Kd.S_nil _ _ _ _ _,by repeat (first | (with_reducible first | exact HB.out | apply below_alloc | apply pw_below_drewN | apply below_drew1 | refine below_set ?_ GE154.out) | exact HB.out)⟩
                   ·rw [if_neg c38] at H
                    have c38b0 : decide (0 ≤ (rd y155 (rd x5_1 (ji31)))) = false:=decide_eq_false c38
                    clear c38
                    obtain ⟨y169,hy169⟩ : ∃ y_ : List Int,y_ = (y155.set ((rd x5_1 (ji31)) : Int).toNat x12_1):=⟨_,rfl⟩
                    replace H : (spec_l3Ends.l0 kj5 l0 y169 x5_1 l0 (l0.length : Int) (wrap64 (x12_1 + 1))) = some (r1,r2):=by first | (rw [hy169];with_reducible exact H) | (have H2_:=(Option.bind_some _ _).symm.trans H;rw [hy169];with_reducible exact H2_) | (have H2_:=(Option.bind_some _ _).symm.trans H;with_reducible exact H2_) | with_reducible exact H | (rw [hy169];exact H) | exact H
                    have Ny169:=Aside0.mk hy169
                    clear hy169
                    have H':=Aside0.mk H
                    clear H
                    have hcz42_0 : wc.cell? ⟨gb154,0,none⟩ = some (.int .i64 ((rd_T56 l0 x12_1).f0)):=(blk_cell BK154.out 0).trans rfl
                    have hcz42_1 : wc.cell? ⟨gb154,1,none⟩ = some (.int .i64 ((rd_T56 l0 x12_1).f1)):=(blk_cell BK154.out 1).trans rfl
                    have hcz42_2 : wc.cell? ⟨gb154,2,none⟩ = some (.slice A153_2 ((rd_T56 l0 x12_1).f2).length c153_2):=(blk_cell BK154.out 2).trans rfl
                    have hfz42_0:=blk_frozen BK154.out 0
                    have hfz42_1:=blk_frozen BK154.out 1
                    have hfz42_2:=blk_frozen BK154.out 2
                    go_wp2_with (first | ((with_reducible refine gate_callee (f:=74) rfl ?_);refine goesL_ (some 34) rfl rfl Try.func74 (by kernel_rfl) rfl #[.int .i64 ((rd_T56 l0 x12_1).f0)] rfl (by (try simp only [List.map_toArray,List.map_cons,List.map_nil]);first | done | rfl | (simp only [List.length_drop,List.length_take];rfl)) ?_;(with_reducible refine (spec_l3Opens.calls ((rd_T56 l0 x12_1).f0) false _ A21.out).mono ?_);rintro e w' ⟨rfl,⟨nd,rfl⟩⟩;refine ⟨_,rfl,?_⟩;(try (rw [drewN_self wc];generalize hq_ : World.drewN wc _ = wc;have n0_ : Aside0 (Kd.R (Kd.int .i64) 3 wc w.heap.size (fun k_ => some k_ ≠ (.slice Ao10 x5_1.length co10 : Value).ownBlock) v156 y155):=⟨by rw [← hq_];exact (by (with_reducible repeat (first | apply Kd.R_alloc | apply Kd.R_drewN | apply Kd.R_drew));exact HO_4.out)⟩;have n1_ : Aside0 (Kd.R (Kd.int .i64) 3 wc w.heap.size (fun k_ => some k_ ≠ (v156 : Value).ownBlock) (.slice Ao10 x5_1.length co10) x5_1):=⟨by rw [← hq_];exact (by (with_reducible repeat (first | apply Kd.R_alloc | apply Kd.R_drewN | apply Kd.R_drew));exact HO_5.out)⟩;have n2_ : Aside0 (wc.heap[gb154]? = some (.cells #[.int .i64 ((rd_T56 l0 x12_1).f0),.int .i64 ((rd_T56 l0 x12_1).f1),.slice A153_2 ((rd_T56 l0 x12_1).f2).length c153_2] 56 (0,0))):=⟨by rw [← hq_];exact (by (with_reducible repeat (first | refine blk_drewN ?_ _ | refine blk_drew ?_ | refine blk_alloc ?_ _));exact BK154.out)⟩;have n3_ : Aside0 (Below w.heap.size w wc):=⟨by rw [← hq_];exact (by repeat (first | (with_reducible first | exact HB.out | apply below_alloc | apply pw_below_drewN | apply below_drew1 | refine below_set ?_ GE154.out) | exact HB.out))⟩;clear HO_4 HO_5 BK154 HB hq_;have HO_4:=n0_;have HO_5:=n1_;have BK154:=n2_;have HB:=n3_;clear n0_ n1_ n2_ n3_;(try clear hcz42_0 hcz42_1 hcz42_2 hfz42_0 hfz42_1 hfz42_2);have hcz42_0 : wc.cell? ⟨gb154,0,none⟩ = some (.int .i64 ((rd_T56 l0 x12_1).f0)):=(blk_cell BK154.out 0).trans rfl;have hcz42_1 : wc.cell? ⟨gb154,1,none⟩ = some (.int .i64 ((rd_T56 l0 x12_1).f1)):=(blk_cell BK154.out 1).trans rfl;have hcz42_2 : wc.cell? ⟨gb154,2,none⟩ = some (.slice A153_2 ((rd_T56 l0 x12_1).f2).length c153_2):=(blk_cell BK154.out 2).trans rfl;have hfz42_0:=blk_frozen BK154.out 0;have hfz42_1:=blk_frozen BK154.out 1;have hfz42_2:=blk_frozen BK154.out 2));have p164 : 0 ≤ ((ji31) : Int):=of_decide_eq_true (by first | (with_reducible assumption) | assumption);have q164 : (ji31) < (x5_1.length : Int):=of_decide_eq_true (by first | (with_reducible assumption) | assumption);obtain ⟨ad164,e164,hx164_0⟩:=Kd.at_int (Kd.R_reads' HO_5.out).2.2 (ji31) p164 q164;cases e164;replace p164:=eq_true p164;replace q164:=eq_true q164;have p165 : 0 ≤ ((rd x5_1 (ji31)) : Int):=of_decide_eq_true (by first | (with_reducible assumption) | assumption);have q165 : (rd x5_1 (ji31)) < (l0.length : Int):=of_decide_eq_true (by first | (with_reducible assumption) | assumption);obtain ⟨ad165,A165_2,c165_2,e165,hx165_0,hx165_1,hx165_2,hl165_2,hi165_2⟩:=at_T56 HR0.out (rd x5_1 (ji31)) p165 q165;obtain rfl : ad153 = ad165:=(by injection e165);replace hx165_0:=(HB.out.cell (World.block_lt_of_cell? w _ hx165_0)).trans hx165_0;replace hx165_1:=(HB.out.cell (World.block_lt_of_cell? w _ hx165_1)).trans hx165_1;replace hx165_2:=(HB.out.cell (World.block_lt_of_cell? w _ hx165_2)).trans hx165_2;have HR165_2:=Aside0.mk hi165_2;have HC165_2:=Aside0.mk hl165_2;clear hi165_2 hl165_2;replace p165:=eq_true p165;replace q165:=eq_true q165;have p166 : 0 ≤ ((ji31) : Int):=of_decide_eq_true (by first | (with_reducible assumption) | assumption);have q166 : (ji31) < (x5_1.length : Int):=of_decide_eq_true (by first | (with_reducible assumption) | assumption);obtain ⟨ad166,e166,hx166_0⟩:=Kd.at_int (Kd.R_reads' HO_5.out).2.2 (ji31) p166 q166;obtain rfl : ad164 = ad166:=(by injection e166);replace p166:=eq_true p166;replace q166:=eq_true q166;obtain ⟨Ao43,co43,eo43⟩:=Kd.R_slice HO_4.out;subst eo43;have p167 : 0 ≤ ((rd x5_1 (ji31)) : Int):=of_decide_eq_true (by first | (with_reducible assumption) | assumption);have q167 : (rd x5_1 (ji31)) < (y155.length : Int):=of_decide_eq_true (by first | (with_reducible assumption) | assumption);obtain ⟨ad167,e167,hx167_0⟩:=Kd.at_int (Kd.R_reads' HO_4.out).2.2 (rd x5_1 (ji31)) p167 q167;cases e167;replace p167:=eq_true p167;replace q167:=eq_true q167;have p168 : 0 ≤ ((ji31) : Int):=of_decide_eq_true (by first | (with_reducible assumption) | assumption);have q168 : (ji31) < (x5_1.length : Int):=of_decide_eq_true (by first | (with_reducible assumption) | assumption);obtain ⟨ad168,e168,hx168_0⟩:=Kd.at_int (Kd.R_reads' HO_5.out).2.2 (ji31) p168 q168;obtain rfl : ad164 = ad168:=(by injection e168);replace p168:=eq_true p168;replace q168:=eq_true q168;have p41 : 0 ≤ ((rd x5_1 (ji31)) : Int):=of_decide_eq_true (by first | (with_reducible assumption) | assumption);have q41 : ((rd x5_1 (ji31)) : Int) < ((y155.length : Int) : Int):=of_decide_eq_true (by first | (with_reducible assumption) | assumption);obtain ⟨go41,co41,eo41,gb41,gl41,cl41,HG41⟩:=Kd.R_form HO_4.out (by omega);(first | cases eo41 | (injection eo41 with ea_ en_ ec_;(first | subst ea_ | (injection ea_ with ea_;subst ea_));subst ec_;clear en_));have GB41:=Aside0.mk gb41;have GG41:=Aside0.mk HG41;clear gb41 gl41 HG41;(first | simp only [add_plain] at hx167_0 | skip);obtain ⟨hx41_0,hf41_0⟩:=Kd.R_celln 0 HO_4.out ((rd x5_1 (ji31)) : Int) p41 q41;replace p41:=eq_true p41;replace q41:=eq_true q41;obtain ⟨hy44_,hz44_⟩:=Kd.R_celln 0 HO_4.out ((rd x5_1 (ji31)) : Int) (of_decide_eq_true (by first | (with_reducible assumption) | assumption)) (of_decide_eq_true (by first | (with_reducible assumption) | assumption));have HP44:=Kd.R_putg HO_4.out ((rd x5_1 (ji31)) : Int) x12_1) | ((with_reducible refine gate_store (t:=3) (p:=77) rfl ?_);refine store_event (t:=3) (p:=77) (v:=?vo_w45) (w1:=(wc.setCell ⟨go41,((rd x5_1 (ji31)) : Int).toNat,none⟩ (.int .i64 x12_1))) ?hg ?ho ?hn ?hr ?_;(case ho => rfl);(case hg => rfl);(case hn => rfl);(case hr => first | (go_simp;done) | (go_simp;rfl));intro w45 hw;have hg : wc.grownBy w45 (some go41):=(by rw [hw];exact HP44.2);have hp_ : Kd.R (Kd.int .i64) 3 w45 w.heap.size (fun k_ => some k_ ≠ (.slice (some ad164) x5_1.length co10 : Value).ownBlock) (.slice (some ⟨go41,0,none⟩) y155.length co43) y169:=(by rw [hw,Ny169.out];exact HP44.1);clear HP44;have n0_:=Aside0.mk (hp_);have n1_:=Aside0.mk (Kd.R_after (v:=(.slice (some ⟨go41,0,none⟩) y155.length co43)) (v1:=(.slice (some ⟨go41,0,none⟩) y155.length co43)) (ok:=(fun _ => True)) (by (with_reducible repeat (first | apply Kd.R_alloc | apply Kd.R_drewN | apply Kd.R_drew));exact Kd.R_mono HO_5.out (fun _ hk => ⟨trivial,hk⟩)) hg (.inl rfl));have n2_:=Aside0.mk (blk_grown (g:=gb154) (o:=.cells #[.int .i64 ((rd_T56 l0 x12_1).f0),.int .i64 ((rd_T56 l0 x12_1).f1),.slice A153_2 ((rd_T56 l0 x12_1).f2).length c153_2] 56 (0,0)) (by (with_reducible repeat (first | refine blk_drewN ?_ _ | refine blk_drew ?_ | refine blk_alloc ?_ _));exact BK154.out) hg (Kd.R_ne HO_4.out BK154.out (by decide)));have n3_:=Aside0.mk ((by rw [hw];exact below_set (HB.out) GB41.out : Below w.heap.size w w45));clear HO_4;clear HO_5;clear BK154;clear HB;have HO_4:=n0_;have HO_5:=n1_;have BK154:=n2_;have HB:=n3_;clear n0_ n1_ n2_ n3_;clear hg hw hp_))
                    go_roundg kj5
                    case measure => have:=HK1.out;have:=HJ5.out;omega
                    case rel => exact ⟨(y169),(x5_1),(wrap64 (x12_1 + 1)),(by first | rfl | (simp;done) | (simp [*];done)),H',⟨by have:=HK1.out;have:=HJ5.out;omega⟩,⟨by (with_reducible repeat (first | apply Kd.R_alloc | apply Kd.R_drewN | apply Kd.R_drew));exact HO_4.out⟩,⟨by (with_reducible repeat (first | apply Kd.R_alloc | apply Kd.R_drewN | apply Kd.R_drew));exact Kd.R_mono HO_5.out (fun _ hk => hk.2)⟩,⟨by repeat (first | (with_reducible first | exact HB.out | apply below_alloc | apply pw_below_drewN | apply below_drew1 | refine below_set ?_ GE154.out) | exact HB.out)⟩⟩
                  ·rw [if_neg c37] at H
                   exact absurd H (by simp)
                 ·rw [if_neg c36] at H
                  have c36b0 : (((rd_T56 l0 (rd x5_1 (ji31))).f0) == 17) = false:=beq_eq_false_iff_ne.mpr c36
                  have c36b1 : (((rd_T56 l0 (rd x5_1 (ji31))).f0) != 17) = true:=bne_iff_ne.mpr c36
                  simp only [Option.some.injEq,Prod.mk.injEq] at H
                  obtain ⟨rfl,rfl⟩:=H
                  have hcz46_0 : wc.cell? ⟨gb154,0,none⟩ = some (.int .i64 ((rd_T56 l0 x12_1).f0)):=(blk_cell BK154.out 0).trans rfl
                  have hcz46_1 : wc.cell? ⟨gb154,1,none⟩ = some (.int .i64 ((rd_T56 l0 x12_1).f1)):=(blk_cell BK154.out 1).trans rfl
                  have hcz46_2 : wc.cell? ⟨gb154,2,none⟩ = some (.slice A153_2 ((rd_T56 l0 x12_1).f2).length c153_2):=(blk_cell BK154.out 2).trans rfl
                  have hfz46_0:=blk_frozen BK154.out 0
                  have hfz46_1:=blk_frozen BK154.out 1
                  have hfz46_2:=blk_frozen BK154.out 2
                  go_wp2_with (first | ((with_reducible refine gate_callee (f:=74) rfl ?_);refine goesL_ (some 34) rfl rfl Try.func74 (by kernel_rfl) rfl #[.int .i64 ((rd_T56 l0 x12_1).f0)] rfl (by (try simp only [List.map_toArray,List.map_cons,List.map_nil]);first | done | rfl | (simp only [List.length_drop,List.length_take];rfl)) ?_;(with_reducible refine (spec_l3Opens.calls ((rd_T56 l0 x12_1).f0) false _ A21.out).mono ?_);rintro e w' ⟨rfl,⟨nd,rfl⟩⟩;refine ⟨_,rfl,?_⟩;have p164 : 0 ≤ ((ji31) : Int):=of_decide_eq_true (by first | (with_reducible assumption) | assumption);have q164 : (ji31) < (x5_1.length : Int):=of_decide_eq_true (by first | (with_reducible assumption) | assumption);obtain ⟨ad164,e164,hx164_0⟩:=Kd.at_int (Kd.R_reads' HO_5.out).2.2 (ji31) p164 q164;cases e164;replace p164:=eq_true p164;replace q164:=eq_true q164;have p165 : 0 ≤ ((rd x5_1 (ji31)) : Int):=of_decide_eq_true (by first | (with_reducible assumption) | assumption);have q165 : (rd x5_1 (ji31)) < (l0.length : Int):=of_decide_eq_true (by first | (with_reducible assumption) | assumption);obtain ⟨ad165,A165_2,c165_2,e165,hx165_0,hx165_1,hx165_2,hl165_2,hi165_2⟩:=at_T56 HR0.out (rd x5_1 (ji31)) p165 q165;obtain rfl : ad153 = ad165:=(by injection e165);replace hx165_0:=(HB.out.cell (World.block_lt_of_cell? w _ hx165_0)).trans hx165_0;replace hx165_1:=(HB.out.cell (World.block_lt_of_cell? w _ hx165_1)).trans hx165_1;replace hx165_2:=(HB.out.cell (World.block_lt_of_cell? w _ hx165_2)).trans hx165_2;have HR165_2:=Aside0.mk hi165_2;have HC165_2:=Aside0.mk hl165_2;clear hi165_2 hl165_2;replace p165:=eq_true p165;replace q165:=eq_true q165))
                  go_ret2
                  exact ⟨_,by first | rfl | (simp [errW_none,errW_some] <;> rfl) | (simp only [← hji31];first | rfl | (simp [errW_none,errW_some] <;> rfl)) | (simp [*,errW_none,errW_some] <;> rfl),by first | exact Kd.R_nil _ _ _ _ _ | exact Kd.N_nil _ _ _ _ _ | exact Kd.V_nil _ _ _ _ _ | exact Kd.Q_nil _ _ _ _ _ | exact Kd.S_nil _ _ _ _ _,by repeat (first | (with_reducible first | exact HB.out | apply below_alloc | apply pw_below_drewN | apply below_drew1 | refine below_set ?_ GE154.out) | exact HB.out)⟩
                ·rw [if_neg c35] at H
                 exact absurd H (by simp)
               ·rw [if_neg c34] at H
                exact absurd H (by simp)
              ·rw [if_neg c33] at H
               exact absurd H (by simp)
             ·rw [if_neg c32] at H
              exact absurd H (by simp)
           ·rw [if_neg c28] at H
            have c28b0 : (((rd_T56 l0 x12_1).f0) == 18) = false:=beq_eq_false_iff_ne.mpr c28
            have c28b1 : (((rd_T56 l0 x12_1).f0) != 18) = true:=bne_iff_ne.mpr c28
            by_cases c47 : ((rd_T56 l0 x12_1).f0) = 19
            ·rw [if_pos c47] at H
             have c47b0 : (((rd_T56 l0 x12_1).f0) == 19) = true:=beq_iff_eq.mpr c47
             have c47b1 : (((rd_T56 l0 x12_1).f0) != 19) = false:=bne_eq_false_iff_eq.mpr c47
             clear c47
             by_cases c48 : (x5_1.length : Int) = 0
             ·rw [if_pos c48] at H
              have c48b0 : ((x5_1.length : Int) == 0) = true:=beq_iff_eq.mpr c48
              have c48b1 : ((x5_1.length : Int) != 0) = false:=bne_eq_false_iff_eq.mpr c48
              clear c48
              simp only [Option.some.injEq,Prod.mk.injEq] at H
              obtain ⟨rfl,rfl⟩:=H
              have hcz49_0 : wc.cell? ⟨gb154,0,none⟩ = some (.int .i64 ((rd_T56 l0 x12_1).f0)):=(blk_cell BK154.out 0).trans rfl
              have hcz49_1 : wc.cell? ⟨gb154,1,none⟩ = some (.int .i64 ((rd_T56 l0 x12_1).f1)):=(blk_cell BK154.out 1).trans rfl
              have hcz49_2 : wc.cell? ⟨gb154,2,none⟩ = some (.slice A153_2 ((rd_T56 l0 x12_1).f2).length c153_2):=(blk_cell BK154.out 2).trans rfl
              have hfz49_0:=blk_frozen BK154.out 0
              have hfz49_1:=blk_frozen BK154.out 1
              have hfz49_2:=blk_frozen BK154.out 2
              go_wp2_with (first | ((with_reducible refine gate_callee (f:=74) rfl ?_);refine goesL_ (some 34) rfl rfl Try.func74 (by kernel_rfl) rfl #[.int .i64 ((rd_T56 l0 x12_1).f0)] rfl (by (try simp only [List.map_toArray,List.map_cons,List.map_nil]);first | done | rfl | (simp only [List.length_drop,List.length_take];rfl)) ?_;(with_reducible refine (spec_l3Opens.calls ((rd_T56 l0 x12_1).f0) false _ A21.out).mono ?_);rintro e w' ⟨rfl,⟨nd,rfl⟩⟩;refine ⟨_,rfl,?_⟩))
              go_ret2
              exact ⟨_,by first | rfl | (simp [errW_none,errW_some] <;> rfl) | (simp [*,errW_none,errW_some] <;> rfl),by first | exact Kd.R_nil _ _ _ _ _ | exact Kd.N_nil _ _ _ _ _ | exact Kd.V_nil _ _ _ _ _ | exact Kd.Q_nil _ _ _ _ _ | exact Kd.S_nil _ _ _ _ _,by repeat (first | (with_reducible first | exact HB.out | apply below_alloc | apply pw_below_drewN | apply below_drew1 | refine below_set ?_ GE154.out) | exact HB.out)⟩
             ·rw [if_neg c48] at H
              have c48b0 : ((x5_1.length : Int) == 0) = false:=beq_eq_false_iff_ne.mpr c48
              have c48b1 : ((x5_1.length : Int) != 0) = true:=bne_iff_ne.mpr c48
              have c48b2 : ¬ (x5_1 = []):=fun h_ => c48 (by rw [h_];rfl)
              obtain ⟨ji50,hji50⟩ : ∃ j_ : Int,(wrap64 ((x5_1.length : Int) - 1)) = j_:=⟨_,rfl⟩
              replace H : (if 0 ≤ (ji50) then (if (ji50) < (x5_1.length : Int) then (if (ji50) ≤ (x5_1.length : Int) then ((some (x5_1.take ((ji50) : Int).toNat : List Int)).bind fun y171 => (if 0 ≤ (rd x5_1 (ji50)) then (if (rd x5_1 (ji50)) < (y155.length : Int) then (if (rd y155 (rd x5_1 (ji50))) ≥ 0 then (if 0 ≤ (rd y155 (rd x5_1 (ji50))) then (if (rd y155 (rd x5_1 (ji50))) < (y155.length : Int) then (if 0 ≤ x12_1 then (if x12_1 < (y155.length : Int) then (spec_l3Ends.l0 kj5 l0 (((y155.set ((rd y155 (rd x5_1 (ji50))) : Int).toNat x12_1).set ((rd x5_1 (ji50)) : Int).toNat x12_1).set (x12_1 : Int).toNat (rd x5_1 (ji50))) y171 l0 (l0.length : Int) (wrap64 (x12_1 + 1))) else (none)) else (none)) else (none)) else (none)) else (if 0 ≤ x12_1 then (if x12_1 < (y155.length : Int) then (spec_l3Ends.l0 kj5 l0 ((y155.set ((rd x5_1 (ji50)) : Int).toNat x12_1).set (x12_1 : Int).toNat (rd x5_1 (ji50))) y171 l0 (l0.length : Int) (wrap64 (x12_1 + 1))) else (none)) else (none))) else (none)) else (none))) else (none)) else (none)) else (none)) = some (r1,r2):=by first | (rw [hji50] at H;exact H) | (simp only [hji50] at H ⊢;exact H)
              (try rw [hji50] at A21)
              have hji50w : (IntKind.i64.wrap ((x5_1.length : Int) - 1)) = ji50:=(i64_w _).trans hji50
              by_cases c51 : 0 ≤ (ji50)
              ·rw [if_pos c51] at H
               have c51b0 : decide (0 ≤ (ji50)) = true:=decide_eq_true c51
               clear c51
               by_cases c52 : (ji50) < (x5_1.length : Int)
               ·rw [if_pos c52] at H
                have c52b0 : decide ((ji50) < (x5_1.length : Int)) = true:=decide_eq_true c52
                clear c52
                by_cases c53 : (ji50) ≤ (x5_1.length : Int)
                ·rw [if_pos c53] at H
                 have c53b0:=eq_true c53
                 have c53b1 : decide ((ji50) ≤ (x5_1.length : Int)) = true:=decide_eq_true c53
                 clear c53
                 obtain ⟨y171,hy171⟩ : ∃ y_ : List Int,y_ = (x5_1.take ((ji50) : Int).toNat):=⟨_,rfl⟩
                 replace H : (if 0 ≤ (rd x5_1 (ji50)) then (if (rd x5_1 (ji50)) < (y155.length : Int) then (if (rd y155 (rd x5_1 (ji50))) ≥ 0 then (if 0 ≤ (rd y155 (rd x5_1 (ji50))) then (if (rd y155 (rd x5_1 (ji50))) < (y155.length : Int) then (if 0 ≤ x12_1 then (if x12_1 < (y155.length : Int) then (spec_l3Ends.l0 kj5 l0 (((y155.set ((rd y155 (rd x5_1 (ji50))) : Int).toNat x12_1).set ((rd x5_1 (ji50)) : Int).toNat x12_1).set (x12_1 : Int).toNat (rd x5_1 (ji50))) y171 l0 (l0.length : Int) (wrap64 (x12_1 + 1))) else (none)) else (none)) else (none)) else (none)) else (if 0 ≤ x12_1 then (if x12_1 < (y155.length : Int) then (spec_l3Ends.l0 kj5 l0 ((y155.set ((rd x5_1 (ji50)) : Int).toNat x12_1).set (x12_1 : Int).toNat (rd x5_1 (ji50))) y171 l0 (l0.length : Int) (wrap64 (x12_1 + 1))) else (none)) else (none))) else (none)) else (none)) = some (r1,r2):=by first | (rw [hy171];with_reducible exact H) | (have H2_:=(Option.bind_some _ _).symm.trans H;rw [hy171];with_reducible exact H2_) | (have H2_:=(Option.bind_some _ _).symm.trans H;with_reducible exact H2_) | with_reducible exact H | (rw [hy171];exact H) | exact H
                 have Ny171:=Aside0.mk hy171
                 clear hy171
                 by_cases c54 : 0 ≤ (rd x5_1 (ji50))
                 ·rw [if_pos c54] at H
                  have c54b0 : decide (0 ≤ (rd x5_1 (ji50))) = true:=decide_eq_true c54
                  clear c54
                  by_cases c55 : (rd x5_1 (ji50)) < (y155.length : Int)
                  ·rw [if_pos c55] at H
                   have c55b0 : decide ((rd x5_1 (ji50)) < (y155.length : Int)) = true:=decide_eq_true c55
                   clear c55
                   by_cases c56 : (rd y155 (rd x5_1 (ji50))) ≥ 0
                   ·rw [if_pos c56] at H
                    have c56b0 : decide (0 ≤ (rd y155 (rd x5_1 (ji50)))) = true:=decide_eq_true c56
                    clear c56
                    by_cases c57 : 0 ≤ (rd y155 (rd x5_1 (ji50)))
                    ·rw [if_pos c57] at H
                     have c57b0 : decide (0 ≤ (rd y155 (rd x5_1 (ji50)))) = true:=decide_eq_true c57
                     clear c57
                     by_cases c58 : (rd y155 (rd x5_1 (ji50))) < (y155.length : Int)
                     ·rw [if_pos c58] at H
                      have c58b0 : decide ((rd y155 (rd x5_1 (ji50))) < (y155.length : Int)) = true:=decide_eq_true c58
                      clear c58
                      obtain ⟨y176,hy176⟩ : ∃ y_ : List Int,y_ = (y155.set ((rd y155 (rd x5_1 (ji50))) : Int).toNat x12_1):=⟨_,rfl⟩
                      replace H : (if 0 ≤ x12_1 then (if x12_1 < (y155.length : Int) then (spec_l3Ends.l0 kj5 l0 ((y176.set ((rd x5_1 (ji50)) : Int).toNat x12_1).set (x12_1 : Int).toNat (rd x5_1 (ji50))) y171 l0 (l0.length : Int) (wrap64 (x12_1 + 1))) else (none)) else (none)) = some (r1,r2):=by first | (rw [hy176];with_reducible exact H) | (have H2_:=(Option.bind_some _ _).symm.trans H;rw [hy176];with_reducible exact H2_) | (have H2_:=(Option.bind_some _ _).symm.trans H;with_reducible exact H2_) | with_reducible exact H | (rw [hy176];exact H) | exact H
                      have Ny176:=Aside0.mk hy176
                      clear hy176
                      obtain ⟨y177,hy177⟩ : ∃ y_ : List Int,y_ = (y176.set ((rd x5_1 (ji50)) : Int).toNat x12_1):=⟨_,rfl⟩
                      replace H : (if 0 ≤ x12_1 then (if x12_1 < (y155.length : Int) then (spec_l3Ends.l0 kj5 l0 (y177.set (x12_1 : Int).toNat (rd x5_1 (ji50))) y171 l0 (l0.length : Int) (wrap64 (x12_1 + 1))) else (none)) else (none)) = some (r1,r2):=by first | (rw [hy177];with_reducible exact H) | (have H2_:=(Option.bind_some _ _).symm.trans H;rw [hy177];with_reducible exact H2_) | (have H2_:=(Option.bind_some _ _).symm.trans H;with_reducible exact H2_) | with_reducible exact H | (rw [hy177];exact H) | exact H
                      have Ny177:=Aside0.mk hy177
                      clear hy177
                      by_cases c61 : 0 ≤ x12_1
                      ·rw [if_pos c61] at H
                       have c61b0 : decide (0 ≤ x12_1) = true:=decide_eq_true c61
                       clear c61
                       by_cases c62 : x12_1 < (y155.length : Int)
                       ·rw [if_pos c62] at H
                        have c62b0 : decide (x12_1 < (y155.length : Int)) = true:=decide_eq_true c62
                        clear c62
                        obtain ⟨y178,hy178⟩ : ∃ y_ : List Int,y_ = (y177.set (x12_1 : Int).toNat (rd x5_1 (ji50))):=⟨_,rfl⟩
                        replace H : (spec_l3Ends.l0 kj5 l0 y178 y171 l0 (l0.length : Int) (wrap64 (x12_1 + 1))) = some (r1,r2):=by first | (rw [hy178];with_reducible exact H) | (have H2_:=(Option.bind_some _ _).symm.trans H;rw [hy178];with_reducible exact H2_) | (have H2_:=(Option.bind_some _ _).symm.trans H;with_reducible exact H2_) | with_reducible exact H | (rw [hy178];exact H) | exact H
                        have Ny178:=Aside0.mk hy178
                        clear hy178
                        have H':=Aside0.mk H
                        clear H
                        have hcz64_0 : wc.cell? ⟨gb154,0,none⟩ = some (.int .i64 ((rd_T56 l0 x12_1).f0)):=(blk_cell BK154.out 0).trans rfl
                        have hcz64_1 : wc.cell? ⟨gb154,1,none⟩ = some (.int .i64 ((rd_T56 l0 x12_1).f1)):=(blk_cell BK154.out 1).trans rfl
                        have hcz64_2 : wc.cell? ⟨gb154,2,none⟩ = some (.slice A153_2 ((rd_T56 l0 x12_1).f2).length c153_2):=(blk_cell BK154.out 2).trans rfl
                        have hfz64_0:=blk_frozen BK154.out 0
                        have hfz64_1:=blk_frozen BK154.out 1
                        have hfz64_2:=blk_frozen BK154.out 2
                        go_wp2_with (first | ((with_reducible refine gate_callee (f:=74) rfl ?_);refine goesL_ (some 34) rfl rfl Try.func74 (by kernel_rfl) rfl #[.int .i64 ((rd_T56 l0 x12_1).f0)] rfl (by (try simp only [List.map_toArray,List.map_cons,List.map_nil]);first | done | rfl | (simp only [List.length_drop,List.length_take];rfl)) ?_;(with_reducible refine (spec_l3Opens.calls ((rd_T56 l0 x12_1).f0) false _ A21.out).mono ?_);rintro e w' ⟨rfl,⟨nd,rfl⟩⟩;refine ⟨_,rfl,?_⟩;(try (rw [drewN_self wc];generalize hq_ : World.drewN wc _ = wc;have n0_ : Aside0 (Kd.R (Kd.int .i64) 3 wc w.heap.size (fun k_ => some k_ ≠ (.slice Ao10 x5_1.length co10 : Value).ownBlock) v156 y155):=⟨by rw [← hq_];exact (by (with_reducible repeat (first | apply Kd.R_alloc | apply Kd.R_drewN | apply Kd.R_drew));exact HO_4.out)⟩;have n1_ : Aside0 (Kd.R (Kd.int .i64) 3 wc w.heap.size (fun k_ => some k_ ≠ (v156 : Value).ownBlock) (.slice Ao10 x5_1.length co10) x5_1):=⟨by rw [← hq_];exact (by (with_reducible repeat (first | apply Kd.R_alloc | apply Kd.R_drewN | apply Kd.R_drew));exact HO_5.out)⟩;have n2_ : Aside0 (wc.heap[gb154]? = some (.cells #[.int .i64 ((rd_T56 l0 x12_1).f0),.int .i64 ((rd_T56 l0 x12_1).f1),.slice A153_2 ((rd_T56 l0 x12_1).f2).length c153_2] 56 (0,0))):=⟨by rw [← hq_];exact (by (with_reducible repeat (first | refine blk_drewN ?_ _ | refine blk_drew ?_ | refine blk_alloc ?_ _));exact BK154.out)⟩;have n3_ : Aside0 (Below w.heap.size w wc):=⟨by rw [← hq_];exact (by repeat (first | (with_reducible first | exact HB.out | apply below_alloc | apply pw_below_drewN | apply below_drew1 | refine below_set ?_ GE154.out) | exact HB.out))⟩;clear HO_4 HO_5 BK154 HB hq_;have HO_4:=n0_;have HO_5:=n1_;have BK154:=n2_;have HB:=n3_;clear n0_ n1_ n2_ n3_;(try clear hcz64_0 hcz64_1 hcz64_2 hfz64_0 hfz64_1 hfz64_2);have hcz64_0 : wc.cell? ⟨gb154,0,none⟩ = some (.int .i64 ((rd_T56 l0 x12_1).f0)):=(blk_cell BK154.out 0).trans rfl;have hcz64_1 : wc.cell? ⟨gb154,1,none⟩ = some (.int .i64 ((rd_T56 l0 x12_1).f1)):=(blk_cell BK154.out 1).trans rfl;have hcz64_2 : wc.cell? ⟨gb154,2,none⟩ = some (.slice A153_2 ((rd_T56 l0 x12_1).f2).length c153_2):=(blk_cell BK154.out 2).trans rfl;have hfz64_0:=blk_frozen BK154.out 0;have hfz64_1:=blk_frozen BK154.out 1;have hfz64_2:=blk_frozen BK154.out 2));have p170 : 0 ≤ ((ji50) : Int):=of_decide_eq_true (by first | (with_reducible assumption) | assumption);have q170 : (ji50) < (x5_1.length : Int):=of_decide_eq_true (by first | (with_reducible assumption) | assumption);obtain ⟨ad170,e170,hx170_0⟩:=Kd.at_int (Kd.R_reads' HO_5.out).2.2 (ji50) p170 q170;cases e170;replace p170:=eq_true p170;replace q170:=eq_true q170;have q65 : ((ji50) : Int) ≤ ((x5_1.length : Int) : Int):=of_decide_eq_true (by first | (with_reducible assumption) | assumption);obtain ⟨i065,hi065,_,hsz65,_⟩:=info_parts info3;have hcut65:=cut_to (P:=Try.prog) 29 3 .i64 Try.underlying29 hi065 (some ad170) x5_1.length co10 (ji50) (of_decide_eq_true (by first | (with_reducible assumption) | assumption)) q65 (Kd.R_reads' HO_5.out).2.1;have hr65:=Kd.R_take (m:=((ji50) : Int).toNat) HO_5.out (by omega);have hy65 : y171.length = ((ji50) : Int).toNat:=(by rw [Ny171.out,List.length_take];omega);rw [← Ny171.out] at hr65;rw [← hy65] at hr65 hcut65;clear hy65 hi065 hsz65 HO_5;have HO173:=Aside0.mk hr65;clear hr65;replace q65:=eq_true q65;obtain ⟨Ao66,co66,eo66⟩:=Kd.R_slice HO_4.out;subst eo66;have p174 : 0 ≤ ((rd x5_1 (ji50)) : Int):=of_decide_eq_true (by first | (with_reducible assumption) | assumption);have q174 : (rd x5_1 (ji50)) < (y155.length : Int):=of_decide_eq_true (by first | (with_reducible assumption) | assumption);obtain ⟨ad174,e174,hx174_0⟩:=Kd.at_int (Kd.R_reads' HO_4.out).2.2 (rd x5_1 (ji50)) p174 q174;cases e174;replace p174:=eq_true p174;replace q174:=eq_true q174;have p175 : 0 ≤ ((rd x5_1 (ji50)) : Int):=of_decide_eq_true (by first | (with_reducible assumption) | assumption);have q175 : (rd x5_1 (ji50)) < (y155.length : Int):=of_decide_eq_true (by first | (with_reducible assumption) | assumption);obtain ⟨ad175,e175,hx175_0⟩:=Kd.at_int (Kd.R_reads' HO_4.out).2.2 (rd x5_1 (ji50)) p175 q175;obtain rfl : ad174 = ad175:=(by injection e175);replace p175:=eq_true p175;replace q175:=eq_true q175;have p59 : 0 ≤ ((rd y155 (rd x5_1 (ji50))) : Int):=of_decide_eq_true (by first | (with_reducible assumption) | assumption);have q59 : ((rd y155 (rd x5_1 (ji50))) : Int) < ((y155.length : Int) : Int):=of_decide_eq_true (by first | (with_reducible assumption) | assumption);obtain ⟨go59,co59,eo59,gb59,gl59,cl59,HG59⟩:=Kd.R_form HO_4.out (by omega);(first | cases eo59 | (injection eo59 with ea_ en_ ec_;(first | subst ea_ | (injection ea_ with ea_;subst ea_));subst ec_;clear en_));have GB59:=Aside0.mk gb59;have GG59:=Aside0.mk HG59;clear gb59 gl59 HG59;(first | simp only [add_plain] at hx174_0 | skip);(first | simp only [add_plain] at hx175_0 | skip);obtain ⟨hx59_0,hf59_0⟩:=Kd.R_celln 0 HO_4.out ((rd y155 (rd x5_1 (ji50))) : Int) p59 q59;replace p59:=eq_true p59;replace q59:=eq_true q59;obtain ⟨hy67_,hz67_⟩:=Kd.R_celln 0 HO_4.out ((rd y155 (rd x5_1 (ji50))) : Int) (of_decide_eq_true (by first | (with_reducible assumption) | assumption)) (of_decide_eq_true (by first | (with_reducible assumption) | assumption));have HP67:=Kd.R_putg HO_4.out ((rd y155 (rd x5_1 (ji50))) : Int) x12_1) | ((with_reducible refine gate_store (t:=3) (p:=104) rfl ?_);refine store_event (t:=3) (p:=104) (v:=?vo_w68) (w1:=(wc.setCell ⟨go59,((rd y155 (rd x5_1 (ji50))) : Int).toNat,none⟩ (.int .i64 x12_1))) ?hg ?ho ?hn ?hr ?_;(case ho => rfl);(case hg => rfl);(case hn => rfl);(case hr => first | (go_simp;done) | (go_simp;rfl));intro w68 hw;have hg : wc.grownBy w68 (some go59):=(by rw [hw];exact HP67.2);have hp_ : Kd.R (Kd.int .i64) 3 w68 w.heap.size (fun k_ => some k_ ≠ (.slice (some ad170) y171.length co10 : Value).ownBlock) (.slice (some ⟨go59,0,none⟩) y155.length co66) y176:=(by rw [hw,Ny176.out];exact HP67.1);clear HP67;have n0_:=Aside0.mk (hp_);have n1_:=Aside0.mk (Kd.R_after (v:=(.slice (some ⟨go59,0,none⟩) y155.length co66)) (v1:=(.slice (some ⟨go59,0,none⟩) y155.length co66)) (ok:=(fun _ => True)) (by (with_reducible repeat (first | apply Kd.R_alloc | apply Kd.R_drewN | apply Kd.R_drew));exact Kd.R_mono HO173.out (fun _ hk => ⟨trivial,hk⟩)) hg (.inl rfl));have n2_:=Aside0.mk (blk_grown (g:=gb154) (o:=.cells #[.int .i64 ((rd_T56 l0 x12_1).f0),.int .i64 ((rd_T56 l0 x12_1).f1),.slice A153_2 ((rd_T56 l0 x12_1).f2).length c153_2] 56 (0,0)) (by (with_reducible repeat (first | refine blk_drewN ?_ _ | refine blk_drew ?_ | refine blk_alloc ?_ _));exact BK154.out) hg (Kd.R_ne HO_4.out BK154.out (by decide)));have n3_:=Aside0.mk ((by rw [hw];exact below_set (HB.out) GB59.out : Below w.heap.size w w68));clear HO_4;clear HO173;clear BK154;clear HB;have HO_4:=n0_;have HO173:=n1_;have BK154:=n2_;have HB:=n3_;clear n0_ n1_ n2_ n3_;clear hg hw hp_;have p60 : 0 ≤ ((rd x5_1 (ji50)) : Int):=of_decide_eq_true (by first | (with_reducible assumption) | assumption);have q60 : ((rd x5_1 (ji50)) : Int) < ((y155.length : Int) : Int):=of_decide_eq_true (by first | (with_reducible assumption) | assumption);obtain ⟨hx60_0,hf60_0⟩:=Kd.R_celln 0 HO_4.out ((rd x5_1 (ji50)) : Int) p60 q60;replace p60:=eq_true p60;replace q60:=eq_true q60;obtain ⟨hy69_,hz69_⟩:=Kd.R_celln 0 HO_4.out ((rd x5_1 (ji50)) : Int) (of_decide_eq_true (by first | (with_reducible assumption) | assumption)) (of_decide_eq_true (by first | (with_reducible assumption) | assumption));have HP69:=Kd.R_putg HO_4.out ((rd x5_1 (ji50)) : Int) x12_1) | ((with_reducible refine gate_store (t:=3) (p:=108) rfl ?_);refine store_event (t:=3) (p:=108) (v:=?vo_w70) (w1:=(w68.setCell ⟨go59,((rd x5_1 (ji50)) : Int).toNat,none⟩ (.int .i64 x12_1))) ?hg ?ho ?hn ?hr ?_;(case ho => rfl);(case hg => rfl);(case hn => rfl);(case hr => first | (go_simp;done) | (go_simp;rfl));intro w70 hw;have hg : w68.grownBy w70 (some go59):=(by rw [hw];exact HP69.2);have hp_ : Kd.R (Kd.int .i64) 3 w70 w.heap.size (fun k_ => some k_ ≠ (.slice (some ad170) y171.length co10 : Value).ownBlock) (.slice (some ⟨go59,0,none⟩) y155.length co66) y177:=(by rw [hw,Ny177.out];exact HP69.1);clear HP69;have n0_:=Aside0.mk (hp_);have n1_:=Aside0.mk (Kd.R_after (v:=(.slice (some ⟨go59,0,none⟩) y155.length co66)) (v1:=(.slice (some ⟨go59,0,none⟩) y155.length co66)) (ok:=(fun _ => True)) (by (with_reducible repeat (first | apply Kd.R_alloc | apply Kd.R_drewN | apply Kd.R_drew));exact HO173.out) hg (.inl rfl));have n2_:=Aside0.mk (blk_grown (g:=gb154) (o:=.cells #[.int .i64 ((rd_T56 l0 x12_1).f0),.int .i64 ((rd_T56 l0 x12_1).f1),.slice A153_2 ((rd_T56 l0 x12_1).f2).length c153_2] 56 (0,0)) (by (with_reducible repeat (first | refine blk_drewN ?_ _ | refine blk_drew ?_ | refine blk_alloc ?_ _));exact BK154.out) hg (Kd.R_ne HO_4.out BK154.out (by decide)));have n3_:=Aside0.mk ((by rw [hw];exact below_set (HB.out) GB59.out : Below w.heap.size w w70));clear HO_4;clear HO173;clear BK154;clear HB;have HO_4:=n0_;have HO173:=n1_;have BK154:=n2_;have HB:=n3_;clear n0_ n1_ n2_ n3_;clear hg hw hp_;have p63 : 0 ≤ (x12_1 : Int):=of_decide_eq_true (by first | (with_reducible assumption) | assumption);have q63 : (x12_1 : Int) < ((y155.length : Int) : Int):=of_decide_eq_true (by first | (with_reducible assumption) | assumption);obtain ⟨hx63_0,hf63_0⟩:=Kd.R_celln 0 HO_4.out (x12_1 : Int) p63 q63;replace p63:=eq_true p63;replace q63:=eq_true q63;obtain ⟨hy71_,hz71_⟩:=Kd.R_celln 0 HO_4.out (x12_1 : Int) (of_decide_eq_true (by first | (with_reducible assumption) | assumption)) (of_decide_eq_true (by first | (with_reducible assumption) | assumption));have HP71:=Kd.R_putg HO_4.out (x12_1 : Int) (rd x5_1 (ji50))) | ((with_reducible refine gate_store (t:=3) (p:=112) rfl ?_);refine store_event (t:=3) (p:=112) (v:=?vo_w72) (w1:=(w70.setCell ⟨go59,(x12_1 : Int).toNat,none⟩ (.int .i64 (rd x5_1 (ji50))))) ?hg ?ho ?hn ?hr ?_;(case ho => rfl);(case hg => rfl);(case hn => rfl);(case hr => first | (go_simp;done) | (go_simp;rfl));intro w72 hw;have hg : w70.grownBy w72 (some go59):=(by rw [hw];exact HP71.2);have hp_ : Kd.R (Kd.int .i64) 3 w72 w.heap.size (fun k_ => some k_ ≠ (.slice (some ad170) y171.length co10 : Value).ownBlock) (.slice (some ⟨go59,0,none⟩) y155.length co66) y178:=(by rw [hw,Ny178.out];exact HP71.1);clear HP71;have n0_:=Aside0.mk (hp_);have n1_:=Aside0.mk (Kd.R_after (v:=(.slice (some ⟨go59,0,none⟩) y155.length co66)) (v1:=(.slice (some ⟨go59,0,none⟩) y155.length co66)) (ok:=(fun _ => True)) (by (with_reducible repeat (first | apply Kd.R_alloc | apply Kd.R_drewN | apply Kd.R_drew));exact HO173.out) hg (.inl rfl));have n2_:=Aside0.mk (blk_grown (g:=gb154) (o:=.cells #[.int .i64 ((rd_T56 l0 x12_1).f0),.int .i64 ((rd_T56 l0 x12_1).f1),.slice A153_2 ((rd_T56 l0 x12_1).f2).length c153_2] 56 (0,0)) (by (with_reducible repeat (first | refine blk_drewN ?_ _ | refine blk_drew ?_ | refine blk_alloc ?_ _));exact BK154.out) hg (Kd.R_ne HO_4.out BK154.out (by decide)));have n3_:=Aside0.mk ((by rw [hw];exact below_set (HB.out) GB59.out : Below w.heap.size w w72));clear HO_4;clear HO173;clear BK154;clear HB;have HO_4:=n0_;have HO173:=n1_;have BK154:=n2_;have HB:=n3_;clear n0_ n1_ n2_ n3_;clear hg hw hp_))
                        go_roundg kj5
                        case measure => have:=HK1.out;have:=HJ5.out;omega
                        case rel => exact ⟨(y178),(y171),(wrap64 (x12_1 + 1)),(by first | rfl | (simp;done) | (simp [*];done)),H',⟨by have:=HK1.out;have:=HJ5.out;omega⟩,⟨by (with_reducible repeat (first | apply Kd.R_alloc | apply Kd.R_drewN | apply Kd.R_drew));exact HO_4.out⟩,⟨by (with_reducible repeat (first | apply Kd.R_alloc | apply Kd.R_drewN | apply Kd.R_drew));exact Kd.R_mono HO173.out (fun _ hk => hk.2)⟩,⟨by repeat (first | (with_reducible first | exact HB.out | apply below_alloc | apply pw_below_drewN | apply below_drew1 | refine below_set ?_ GE154.out) | exact HB.out)⟩⟩
                       ·rw [if_neg c62] at H
                        exact absurd H (by simp)
                      ·rw [if_neg c61] at H
                       exact absurd H (by simp)
                     ·rw [if_neg c58] at H
                      exact absurd H (by simp)
                    ·rw [if_neg c57] at H
                     exact absurd H (by simp)
                   ·rw [if_neg c56] at H
                    have c56b0 : decide (0 ≤ (rd y155 (rd x5_1 (ji50)))) = false:=decide_eq_false c56
                    clear c56
                    obtain ⟨y179,hy179⟩ : ∃ y_ : List Int,y_ = (y155.set ((rd x5_1 (ji50)) : Int).toNat x12_1):=⟨_,rfl⟩
                    replace H : (if 0 ≤ x12_1 then (if x12_1 < (y155.length : Int) then (spec_l3Ends.l0 kj5 l0 (y179.set (x12_1 : Int).toNat (rd x5_1 (ji50))) y171 l0 (l0.length : Int) (wrap64 (x12_1 + 1))) else (none)) else (none)) = some (r1,r2):=by first | (rw [hy179];with_reducible exact H) | (have H2_:=(Option.bind_some _ _).symm.trans H;rw [hy179];with_reducible exact H2_) | (have H2_:=(Option.bind_some _ _).symm.trans H;with_reducible exact H2_) | with_reducible exact H | (rw [hy179];exact H) | exact H
                    have Ny179:=Aside0.mk hy179
                    clear hy179
                    by_cases c74 : 0 ≤ x12_1
                    ·rw [if_pos c74] at H
                     have c74b0 : decide (0 ≤ x12_1) = true:=decide_eq_true c74
                     clear c74
                     by_cases c75 : x12_1 < (y155.length : Int)
                     ·rw [if_pos c75] at H
                      have c75b0 : decide (x12_1 < (y155.length : Int)) = true:=decide_eq_true c75
                      clear c75
                      obtain ⟨y180,hy180⟩ : ∃ y_ : List Int,y_ = (y179.set (x12_1 : Int).toNat (rd x5_1 (ji50))):=⟨_,rfl⟩
                      replace H : (spec_l3Ends.l0 kj5 l0 y180 y171 l0 (l0.length : Int) (wrap64 (x12_1 + 1))) = some (r1,r2):=by first | (rw [hy180];with_reducible exact H) | (have H2_:=(Option.bind_some _ _).symm.trans H;rw [hy180];with_reducible exact H2_) | (have H2_:=(Option.bind_some _ _).symm.trans H;with_reducible exact H2_) | with_reducible exact H | (rw [hy180];exact H) | exact H
                      have Ny180:=Aside0.mk hy180
                      clear hy180
                      have H':=Aside0.mk H
                      clear H
                      have hcz77_0 : wc.cell? ⟨gb154,0,none⟩ = some (.int .i64 ((rd_T56 l0 x12_1).f0)):=(blk_cell BK154.out 0).trans rfl
                      have hcz77_1 : wc.cell? ⟨gb154,1,none⟩ = some (.int .i64 ((rd_T56 l0 x12_1).f1)):=(blk_cell BK154.out 1).trans rfl
                      have hcz77_2 : wc.cell? ⟨gb154,2,none⟩ = some (.slice A153_2 ((rd_T56 l0 x12_1).f2).length c153_2):=(blk_cell BK154.out 2).trans rfl
                      have hfz77_0:=blk_frozen BK154.out 0
                      have hfz77_1:=blk_frozen BK154.out 1
                      have hfz77_2:=blk_frozen BK154.out 2
                      go_wp2_with (first | ((with_reducible refine gate_callee (f:=74) rfl ?_);refine goesL_ (some 34) rfl rfl Try.func74 (by kernel_rfl) rfl #[.int .i64 ((rd_T56 l0 x12_1).f0)] rfl (by (try simp only [List.map_toArray,List.map_cons,List.map_nil]);first | done | rfl | (simp only [List.length_drop,List.length_take];rfl)) ?_;(with_reducible refine (spec_l3Opens.calls ((rd_T56 l0 x12_1).f0) false _ A21.out).mono ?_);rintro e w' ⟨rfl,⟨nd,rfl⟩⟩;refine ⟨_,rfl,?_⟩;(try (rw [drewN_self wc];generalize hq_ : World.drewN wc _ = wc;have n0_ : Aside0 (Kd.R (Kd.int .i64) 3 wc w.heap.size (fun k_ => some k_ ≠ (.slice Ao10 x5_1.length co10 : Value).ownBlock) v156 y155):=⟨by rw [← hq_];exact (by (with_reducible repeat (first | apply Kd.R_alloc | apply Kd.R_drewN | apply Kd.R_drew));exact HO_4.out)⟩;have n1_ : Aside0 (Kd.R (Kd.int .i64) 3 wc w.heap.size (fun k_ => some k_ ≠ (v156 : Value).ownBlock) (.slice Ao10 x5_1.length co10) x5_1):=⟨by rw [← hq_];exact (by (with_reducible repeat (first | apply Kd.R_alloc | apply Kd.R_drewN | apply Kd.R_drew));exact HO_5.out)⟩;have n2_ : Aside0 (wc.heap[gb154]? = some (.cells #[.int .i64 ((rd_T56 l0 x12_1).f0),.int .i64 ((rd_T56 l0 x12_1).f1),.slice A153_2 ((rd_T56 l0 x12_1).f2).length c153_2] 56 (0,0))):=⟨by rw [← hq_];exact (by (with_reducible repeat (first | refine blk_drewN ?_ _ | refine blk_drew ?_ | refine blk_alloc ?_ _));exact BK154.out)⟩;have n3_ : Aside0 (Below w.heap.size w wc):=⟨by rw [← hq_];exact (by repeat (first | (with_reducible first | exact HB.out | apply below_alloc | apply pw_below_drewN | apply below_drew1 | refine below_set ?_ GE154.out) | exact HB.out))⟩;clear HO_4 HO_5 BK154 HB hq_;have HO_4:=n0_;have HO_5:=n1_;have BK154:=n2_;have HB:=n3_;clear n0_ n1_ n2_ n3_;(try clear hcz77_0 hcz77_1 hcz77_2 hfz77_0 hfz77_1 hfz77_2);have hcz77_0 : wc.cell? ⟨gb154,0,none⟩ = some (.int .i64 ((rd_T56 l0 x12_1).f0)):=(blk_cell BK154.out 0).trans rfl;have hcz77_1 : wc.cell? ⟨gb154,1,none⟩ = some (.int .i64 ((rd_T56 l0 x12_1).f1)):=(blk_cell BK154.out 1).trans rfl;have hcz77_2 : wc.cell? ⟨gb154,2,none⟩ = some (.slice A153_2 ((rd_T56 l0 x12_1).f2).length c153_2):=(blk_cell BK154.out 2).trans rfl;have hfz77_0:=blk_frozen BK154.out 0;have hfz77_1:=blk_frozen BK154.out 1;have hfz77_2:=blk_frozen BK154.out 2));have p170 : 0 ≤ ((ji50) : Int):=of_decide_eq_true (by first | (with_reducible assumption) | assumption);have q170 : (ji50) < (x5_1.length : Int):=of_decide_eq_true (by first | (with_reducible assumption) | assumption);obtain ⟨ad170,e170,hx170_0⟩:=Kd.at_int (Kd.R_reads' HO_5.out).2.2 (ji50) p170 q170;cases e170;replace p170:=eq_true p170;replace q170:=eq_true q170;have q78 : ((ji50) : Int) ≤ ((x5_1.length : Int) : Int):=of_decide_eq_true (by first | (with_reducible assumption) | assumption);obtain ⟨i078,hi078,_,hsz78,_⟩:=info_parts info3;have hcut78:=cut_to (P:=Try.prog) 29 3 .i64 Try.underlying29 hi078 (some ad170) x5_1.length co10 (ji50) (of_decide_eq_true (by first | (with_reducible assumption) | assumption)) q78 (Kd.R_reads' HO_5.out).2.1;have hr78:=Kd.R_take (m:=((ji50) : Int).toNat) HO_5.out (by omega);have hy78 : y171.length = ((ji50) : Int).toNat:=(by rw [Ny171.out,List.length_take];omega);rw [← Ny171.out] at hr78;rw [← hy78] at hr78 hcut78;clear hy78 hi078 hsz78 HO_5;have HO173:=Aside0.mk hr78;clear hr78;replace q78:=eq_true q78;obtain ⟨Ao79,co79,eo79⟩:=Kd.R_slice HO_4.out;subst eo79;have p174 : 0 ≤ ((rd x5_1 (ji50)) : Int):=of_decide_eq_true (by first | (with_reducible assumption) | assumption);have q174 : (rd x5_1 (ji50)) < (y155.length : Int):=of_decide_eq_true (by first | (with_reducible assumption) | assumption);obtain ⟨ad174,e174,hx174_0⟩:=Kd.at_int (Kd.R_reads' HO_4.out).2.2 (rd x5_1 (ji50)) p174 q174;cases e174;replace p174:=eq_true p174;replace q174:=eq_true q174;have p73 : 0 ≤ ((rd x5_1 (ji50)) : Int):=of_decide_eq_true (by first | (with_reducible assumption) | assumption);have q73 : ((rd x5_1 (ji50)) : Int) < ((y155.length : Int) : Int):=of_decide_eq_true (by first | (with_reducible assumption) | assumption);obtain ⟨go73,co73,eo73,gb73,gl73,cl73,HG73⟩:=Kd.R_form HO_4.out (by omega);(first | cases eo73 | (injection eo73 with ea_ en_ ec_;(first | subst ea_ | (injection ea_ with ea_;subst ea_));subst ec_;clear en_));have GB73:=Aside0.mk gb73;have GG73:=Aside0.mk HG73;clear gb73 gl73 HG73;(first | simp only [add_plain] at hx174_0 | skip);obtain ⟨hx73_0,hf73_0⟩:=Kd.R_celln 0 HO_4.out ((rd x5_1 (ji50)) : Int) p73 q73;replace p73:=eq_true p73;replace q73:=eq_true q73;obtain ⟨hy80_,hz80_⟩:=Kd.R_celln 0 HO_4.out ((rd x5_1 (ji50)) : Int) (of_decide_eq_true (by first | (with_reducible assumption) | assumption)) (of_decide_eq_true (by first | (with_reducible assumption) | assumption));have HP80:=Kd.R_putg HO_4.out ((rd x5_1 (ji50)) : Int) x12_1) | ((with_reducible refine gate_store (t:=3) (p:=108) rfl ?_);refine store_event (t:=3) (p:=108) (v:=?vo_w81) (w1:=(wc.setCell ⟨go73,((rd x5_1 (ji50)) : Int).toNat,none⟩ (.int .i64 x12_1))) ?hg ?ho ?hn ?hr ?_;(case ho => rfl);(case hg => rfl);(case hn => rfl);(case hr => first | (go_simp;done) | (go_simp;rfl));intro w81 hw;have hg : wc.grownBy w81 (some go73):=(by rw [hw];exact HP80.2);have hp_ : Kd.R (Kd.int .i64) 3 w81 w.heap.size (fun k_ => some k_ ≠ (.slice (some ad170) y171.length co10 : Value).ownBlock) (.slice (some ⟨go73,0,none⟩) y155.length co79) y179:=(by rw [hw,Ny179.out];exact HP80.1);clear HP80;have n0_:=Aside0.mk (hp_);have n1_:=Aside0.mk (Kd.R_after (v:=(.slice (some ⟨go73,0,none⟩) y155.length co79)) (v1:=(.slice (some ⟨go73,0,none⟩) y155.length co79)) (ok:=(fun _ => True)) (by (with_reducible repeat (first | apply Kd.R_alloc | apply Kd.R_drewN | apply Kd.R_drew));exact Kd.R_mono HO173.out (fun _ hk => ⟨trivial,hk⟩)) hg (.inl rfl));have n2_:=Aside0.mk (blk_grown (g:=gb154) (o:=.cells #[.int .i64 ((rd_T56 l0 x12_1).f0),.int .i64 ((rd_T56 l0 x12_1).f1),.slice A153_2 ((rd_T56 l0 x12_1).f2).length c153_2] 56 (0,0)) (by (with_reducible repeat (first | refine blk_drewN ?_ _ | refine blk_drew ?_ | refine blk_alloc ?_ _));exact BK154.out) hg (Kd.R_ne HO_4.out BK154.out (by decide)));have n3_:=Aside0.mk ((by rw [hw];exact below_set (HB.out) GB73.out : Below w.heap.size w w81));clear HO_4;clear HO173;clear BK154;clear HB;have HO_4:=n0_;have HO173:=n1_;have BK154:=n2_;have HB:=n3_;clear n0_ n1_ n2_ n3_;clear hg hw hp_;have p76 : 0 ≤ (x12_1 : Int):=of_decide_eq_true (by first | (with_reducible assumption) | assumption);have q76 : (x12_1 : Int) < ((y155.length : Int) : Int):=of_decide_eq_true (by first | (with_reducible assumption) | assumption);obtain ⟨hx76_0,hf76_0⟩:=Kd.R_celln 0 HO_4.out (x12_1 : Int) p76 q76;replace p76:=eq_true p76;replace q76:=eq_true q76;obtain ⟨hy82_,hz82_⟩:=Kd.R_celln 0 HO_4.out (x12_1 : Int) (of_decide_eq_true (by first | (with_reducible assumption) | assumption)) (of_decide_eq_true (by first | (with_reducible assumption) | assumption));have HP82:=Kd.R_putg HO_4.out (x12_1 : Int) (rd x5_1 (ji50))) | ((with_reducible refine gate_store (t:=3) (p:=112) rfl ?_);refine store_event (t:=3) (p:=112) (v:=?vo_w83) (w1:=(w81.setCell ⟨go73,(x12_1 : Int).toNat,none⟩ (.int .i64 (rd x5_1 (ji50))))) ?hg ?ho ?hn ?hr ?_;(case ho => rfl);(case hg => rfl);(case hn => rfl);(case hr => first | (go_simp;done) | (go_simp;rfl));intro w83 hw;have hg : w81.grownBy w83 (some go73):=(by rw [hw];exact HP82.2);have hp_ : Kd.R (Kd.int .i64) 3 w83 w.heap.size (fun k_ => some k_ ≠ (.slice (some ad170) y171.length co10 : Value).ownBlock) (.slice (some ⟨go73,0,none⟩) y155.length co79) y180:=(by rw [hw,Ny180.out];exact HP82.1);clear HP82;have n0_:=Aside0.mk (hp_);have n1_:=Aside0.mk (Kd.R_after (v:=(.slice (some ⟨go73,0,none⟩) y155.length co79)) (v1:=(.slice (some ⟨go73,0,none⟩) y155.length co79)) (ok:=(fun _ => True)) (by (with_reducible repeat (first | apply Kd.R_alloc | apply Kd.R_drewN | apply Kd.R_drew));exact HO173.out) hg (.inl rfl));have n2_:=Aside0.mk (blk_grown (g:=gb154) (o:=.cells #[.int .i64 ((rd_T56 l0 x12_1).f0),.int .i64 ((rd_T56 l0 x12_1).f1),.slice A153_2 ((rd_T56 l0 x12_1).f2).length c153_2] 56 (0,0)) (by (with_reducible repeat (first | refine blk_drewN ?_ _ | refine blk_drew ?_ | refine blk_alloc ?_ _));exact BK154.out) hg (Kd.R_ne HO_4.out BK154.out (by decide)));have n3_:=Aside0.mk ((by rw [hw];exact below_set (HB.out) GB73.out : Below w.heap.size w w83));clear HO_4;clear HO173;clear BK154;clear HB;have HO_4:=n0_;have HO173:=n1_;have BK154:=n2_;have HB:=n3_;clear n0_ n1_ n2_ n3_;clear hg hw hp_))
                      go_roundg kj5
                      case measure => have:=HK1.out;have:=HJ5.out;omega
                      case rel => exact ⟨(y180),(y171),(wrap64 (x12_1 + 1)),(by first | rfl | (simp;done) | (simp [*];done)),H',⟨by have:=HK1.out;have:=HJ5.out;omega⟩,⟨by (with_reducible repeat (first | apply Kd.R_alloc | apply Kd.R_drewN | apply Kd.R_drew));exact HO_4.out⟩,⟨by (with_reducible repeat (first | apply Kd.R_alloc | apply Kd.R_drewN | apply Kd.R_drew));exact Kd.R_mono HO173.out (fun _ hk => hk.2)⟩,⟨by repeat (first | (with_reducible first | exact HB.out | apply below_alloc | apply pw_below_drewN | apply below_drew1 | refine below_set ?_ GE154.out) | exact HB.out)⟩⟩
                     ·rw [if_neg c75] at H
                      exact absurd H (by simp)
                    ·rw [if_neg c74] at H
                     exact absurd H (by simp)
                  ·rw [if_neg c55] at H
                   exact absurd H (by simp)
                 ·rw [if_neg c54] at H
                  exact absurd H (by simp)
                ·rw [if_neg c53] at H
                 exact absurd H (by simp)
               ·rw [if_neg c52] at H
                exact absurd H (by simp)
              ·rw [if_neg c51] at H
               exact absurd H (by simp)
            ·rw [if_neg c47] at H
             have c47b0 : (((rd_T56 l0 x12_1).f0) == 19) = false:=beq_eq_false_iff_ne.mpr c47
             have c47b1 : (((rd_T56 l0 x12_1).f0) != 19) = true:=bne_iff_ne.mpr c47
             have H':=Aside0.mk H
             clear H
             have hcz84_0 : wc.cell? ⟨gb154,0,none⟩ = some (.int .i64 ((rd_T56 l0 x12_1).f0)):=(blk_cell BK154.out 0).trans rfl
             have hcz84_1 : wc.cell? ⟨gb154,1,none⟩ = some (.int .i64 ((rd_T56 l0 x12_1).f1)):=(blk_cell BK154.out 1).trans rfl
             have hcz84_2 : wc.cell? ⟨gb154,2,none⟩ = some (.slice A153_2 ((rd_T56 l0 x12_1).f2).length c153_2):=(blk_cell BK154.out 2).trans rfl
             have hfz84_0:=blk_frozen BK154.out 0
             have hfz84_1:=blk_frozen BK154.out 1
             have hfz84_2:=blk_frozen BK154.out 2
             go_wp2_with (first | ((with_reducible refine gate_callee (f:=74) rfl ?_);refine goesL_ (some 34) rfl rfl Try.func74 (by kernel_rfl) rfl #[.int .i64 ((rd_T56 l0 x12_1).f0)] rfl (by (try simp only [List.map_toArray,List.map_cons,List.map_nil]);first | done | rfl | (simp only [List.length_drop,List.length_take];rfl)) ?_;(with_reducible refine (spec_l3Opens.calls ((rd_T56 l0 x12_1).f0) false _ A21.out).mono ?_);rintro e w' ⟨rfl,⟨nd,rfl⟩⟩;refine ⟨_,rfl,?_⟩))
             go_roundg kj5
             case measure => have:=HK1.out;have:=HJ5.out;omega
             case rel => exact ⟨(y155),(x5_1),(wrap64 (x12_1 + 1)),(by first | rfl | (simp;done) | (simp [*];done)),H',⟨by have:=HK1.out;have:=HJ5.out;omega⟩,⟨by (with_reducible repeat (first | apply Kd.R_alloc | apply Kd.R_drewN | apply Kd.R_drew));exact HO_4.out⟩,⟨by (with_reducible repeat (first | apply Kd.R_alloc | apply Kd.R_drewN | apply Kd.R_drew));exact HO_5.out⟩,⟨by repeat (first | (with_reducible first | exact HB.out | apply below_alloc | apply pw_below_drewN | apply below_drew1 | refine below_set ?_ GE154.out) | exact HB.out)⟩⟩
      ·rw [if_neg c5] at H
       exact absurd H (by simp)
     ·rw [if_neg c4] at H
      exact absurd H (by simp)
    ·rw [if_neg c3] at H
     exact absurd H (by simp)
   ·rw [if_neg c2] at H
    have c2b0 : decide (x12_1 < (l0.length : Int)) = false:=decide_eq_false c2
    clear c2
    by_cases c85 : (x5_1.length : Int) = 0
    ·rw [if_pos c85] at H
     have c85b0 : ((x5_1.length : Int) == 0) = true:=beq_iff_eq.mpr c85
     have c85b1 : ((x5_1.length : Int) != 0) = false:=bne_eq_false_iff_eq.mpr c85
     clear c85
     simp only [Option.some.injEq,Prod.mk.injEq] at H
     obtain ⟨rfl,rfl⟩:=H
     obtain ⟨Ao86,co86,eo86⟩:=Kd.R_slice HO_5.out
     subst eo86
     go_wp2
     go_ret2
     exact ⟨_,by first | rfl | (simp [errW_none,errW_some] <;> rfl) | (simp [*,errW_none,errW_some] <;> rfl),by (with_reducible repeat (first | apply Kd.R_alloc | apply Kd.R_drewN | apply Kd.R_drew));exact Kd.R_mono HO_4.out (fun _ hk => trivial),by repeat (first | (with_reducible first | exact HB.out | apply below_alloc | apply pw_below_drewN | apply below_drew1) | exact HB.out)⟩
    ·rw [if_neg c85] at H
     have c85b0 : ((x5_1.length : Int) == 0) = false:=beq_eq_false_iff_ne.mpr c85
     have c85b1 : ((x5_1.length : Int) != 0) = true:=bne_iff_ne.mpr c85
     have c85b2 : ¬ (x5_1 = []):=fun h_ => c85 (by rw [h_];rfl)
     simp only [Option.some.injEq,Prod.mk.injEq] at H
     obtain ⟨rfl,rfl⟩:=H
     obtain ⟨Ao87,co87,eo87⟩:=Kd.R_slice HO_5.out
     subst eo87
     go_wp2
     go_ret2
     exact ⟨_,by first | rfl | (simp [errW_none,errW_some] <;> rfl) | (simp [*,errW_none,errW_some] <;> rfl),by (with_reducible repeat (first | apply Kd.R_alloc | apply Kd.R_drewN | apply Kd.R_drew));exact Kd.R_mono HO_4.out (fun _ hk => trivial),by repeat (first | (with_reducible first | exact HB.out | apply below_alloc | apply pw_below_drewN | apply below_drew1) | exact HB.out)⟩

/-! ### spec_GoodSteps: function 15 -/
def spec_GoodSteps.f (k : Nat) (l0 : List (S56)) : Option (Bool):=(spec_l3Ends.f k l0).bind fun bt181 => (some bt181.2)
theorem spec_GoodSteps.mono : ∀ a0 k,LeO (spec_GoodSteps.f k a0) (spec_GoodSteps.f (k + 1) a0):=by
 intro a0 k
 unfold spec_GoodSteps.f
 repeat' first
   | (with_reducible exact spec_l3Ends.mono _ _)
   | (with_reducible exact LeO.refl _)
   | (with_reducible exact LeO.none _)
   | (with_reducible refine LeO.ite ?_ ?_)
   | (with_reducible refine LeO.bind ?_ (fun _ => ?_))
   | exact spec_l3Ends.mono _ _
   | exact LeO.none _
   | refine LeO.ite ?_ ?_
   | refine LeO.bind ?_ (fun _ => ?_)
set_option maxHeartbeats 8000000 in
set_option maxRecDepth 100000 in
theorem spec_GoodSteps.calls (k : Nat) (A0 : Option Addr) (c0 : Nat) (l0 : List (S56)) (r : Bool) (w : World) (hr0 : Kd.C k56 w A0 l0.length l0) (hc0 : l0.length ≤ c0) (h : spec_GoodSteps.f k l0 = some r) :
  Calls Try.prog 15 #[.slice A0 l0.length c0] w fun e w' => e = .returned (.bool r) ∧ Below w.heap.size w w':=by
 have HR0:=Aside0.mk hr0
 have HC0:=Aside0.mk hc0
 clear hr0 hc0
 have HB:=Aside0.mk (Below.refl w.heap.size w)
 have H : ((spec_l3Ends.f k l0).bind fun bt181 => (some bt181.2)) = some r:=h
 clear h
 replace H:=Option.bind_eq_some_iff.mp H
 obtain ⟨⟨t181,t182⟩,A20,H⟩:=H
 replace H : (some t182) = some r:=H
 have A2:=Aside0.mk A20
 clear A20
 obtain rfl:=Option.some.inj H
 go_enter Try.func15,Try.ntmps15
 go_wp2_with (first | ((with_reducible refine gate_callee (f:=48) rfl ?_);refine goesL_ (some 7) rfl rfl Try.func48 (by kernel_rfl) rfl #[.slice A0 l0.length c0] rfl (by (try simp only [List.map_toArray,List.map_cons,List.map_nil]);first | done | rfl | (simp only [List.length_drop,List.length_take];rfl)) ?_;(with_reducible refine (spec_l3Ends.calls k _ _ l0 t181 t182 _ ?side1 ?side2 A2.out).mono ?_);(case side1 => repeat (first | exact HR0.out | (with_reducible refine Kd.C_alloc ?_ _) | (with_reducible refine Kd.C_drewN ?_ _) | (with_reducible refine Kd.C_drew ?_)));(case side2 => exact HC0.out);rintro e w3 ⟨v183,rfl,ho0,hb⟩;refine ⟨_,rfl,?_⟩;have n0_:=Aside0.mk (Kd.R_lower ho0 (below_size (by repeat (first | (with_reducible first | exact HB.out | apply below_alloc | apply pw_below_drewN | apply below_drew1) | exact HB.out))));have n1_:=Aside0.mk (below_step (by repeat (first | (with_reducible first | exact HB.out | apply below_alloc | apply pw_below_drewN | apply below_drew1) | exact HB.out)) hb);clear HB;have HO184:=n0_;have HB:=n1_;clear n0_ n1_;(try clear hb);(try clear hb2);(try clear hk);(try clear hi);(try clear ho0)))
 go_ret
 exact ⟨by first | rfl | (simp [errW_none,errW_some] <;> rfl) | (simp [*,errW_none,errW_some] <;> rfl),by repeat (first | (with_reducible first | exact HB.out | apply below_alloc | apply pw_below_drewN | apply below_drew1) | exact HB.out)⟩

end Go.Proofs.Ytmljikgegclolaa.Q
