-- WRITTEN BY A PROGRAM OF THIS SESSION
import Derived.Test.YtmljikgegclolaaQ0
import Derived.Test.YtmljikgegclolaaQ5
namespace Go.Proofs.Ytmljikgegclolaa.Q
open Go.RowKit Go.Proofs.YtmljikgegclolaaW.PrintWords Go.Proofs.YtmljikgegclolaaW.PrintLast Go.Proofs.YtmljikgegclolaaW.PrintMore
attribute [local go_sem] max2_int min2_int max_two min_two max_three min_three max_four min_four   -- for this text's walks alone
set_option linter.unusedVariables false
set_option linter.unusedSimpArgs false

/-! ### spec_l4Cut: function 69 -/
def spec_l4Cut.l0 : Nat → List Bool → List Int → List (S56) → List (S56) → Int → Int → Option ((List (S56)))
 | 0,_,_,_,_,_,_ => none
 | k + 1,x1,x5,x7,x16,x17,x18 => if x18 < x17 then (if 0 ≤ x18 then (if x18 < (x16.length : Int) then (if x18 < (x1.length : Int) then (if ((rd_T56 x16 x18).f0) = 19 then (if x18 < (x5.length : Int) then (if 0 ≤ (rd x5 x18) then (if (rd x5 x18) < (x1.length : Int) then (if (rdOf false x1 (rd x5 x18) = true) then (spec_l4Cut.l0 k x1 x5 x7 x16 x17 (wrap64 (x18 + 1))) else ((some (([] : List Int) : List Int)).bind fun y236 => (if y236.length + ((rd_T56 x16 x18).f2).length < 17592186044416 then (if x7.length < 3518437208883 then (spec_l4Cut.l0 k x1 x5 (x7 ++ [(⟨(rd_T56 x16 x18).f0,(rd_T56 x16 x18).f1,(y236 ++ ((rd_T56 x16 x18).f2))⟩ : S56)]) x16 x17 (wrap64 (x18 + 1))) else (none)) else (none)))) else (none)) else (none)) else (none)) else (if ((rd_T56 x16 x18).f0) = 18 then (if x18 < (x5.length : Int) then (if 0 ≤ (rd x5 x18) then (if (rd x5 x18) < (x5.length : Int) then (if 0 ≤ (rd x5 (rd x5 x18)) then (if (rd x5 (rd x5 x18)) < (x1.length : Int) then (if (rdOf false x1 (rd x5 (rd x5 x18)) = true) then (spec_l4Cut.l0 k x1 x5 x7 x16 x17 (wrap64 (x18 + 1))) else ((some (([] : List Int) : List Int)).bind fun y248 => (if y248.length + ((rd_T56 x16 x18).f2).length < 17592186044416 then (if x7.length < 3518437208883 then (spec_l4Cut.l0 k x1 x5 (x7 ++ [(⟨(rd_T56 x16 x18).f0,(rd_T56 x16 x18).f1,(y248 ++ ((rd_T56 x16 x18).f2))⟩ : S56)]) x16 x17 (wrap64 (x18 + 1))) else (none)) else (none)))) else (none)) else (none)) else (none)) else (none)) else (none)) else (if rdOf false x1 x18 = true then (spec_l4Cut.l0 k x1 x5 x7 x16 x17 (wrap64 (x18 + 1))) else ((some (([] : List Int) : List Int)).bind fun y257 => (if y257.length + ((rd_T56 x16 x18).f2).length < 17592186044416 then (if x7.length < 3518437208883 then (spec_l4Cut.l0 k x1 x5 (x7 ++ [(⟨(rd_T56 x16 x18).f0,(rd_T56 x16 x18).f1,(y257 ++ ((rd_T56 x16 x18).f2))⟩ : S56)]) x16 x17 (wrap64 (x18 + 1))) else (none)) else (none)))))) else (none)) else (none)) else (none)) else (some x7)
def spec_l4Cut.f (k : Nat) (l0 : List (S56)) (l1 : List Bool) : Option ((List (S56))):=(spec_l3Ends.f k l0).bind fun bt227 => (spec_l4Cut.l0 k l1 bt227.1 ([] : List (S56)) l0 (l0.length : Int) 0)
theorem spec_l4Cut.mono_l : ∀ k,(∀ y0 y1 y2 y3 y4 y5,LeO (spec_l4Cut.l0 k y0 y1 y2 y3 y4 y5) (spec_l4Cut.l0 (k + 1) y0 y1 y2 y3 y4 y5))
 | 0 => fun _ _ _ _ _ _ r h => by simp [spec_l4Cut.l0] at h
 | k + 1 => by
  have ih0:=spec_l4Cut.mono_l k
  ·intro y0 y1 y2 y3 y4 y5
   unfold spec_l4Cut.l0
   repeat' first
   | (with_reducible exact ih0 _ _ _ _ _ _)
   | (with_reducible exact spec_l3Ends.mono _ _)
   | (with_reducible exact LeO.refl _)
   | (with_reducible exact LeO.none _)
   | (with_reducible refine LeO.ite ?_ ?_)
   | (with_reducible refine LeO.bind ?_ (fun _ => ?_))
   | exact ih0 _ _ _ _ _ _
   | exact spec_l3Ends.mono _ _
   | exact LeO.none _
   | refine LeO.ite ?_ ?_
   | refine LeO.bind ?_ (fun _ => ?_)
theorem spec_l4Cut.mono : ∀ a0 a1 k,LeO (spec_l4Cut.f k a0 a1) (spec_l4Cut.f (k + 1) a0 a1):=by
 intro a0 a1 k
 have ih0:=spec_l4Cut.mono_l k
 unfold spec_l4Cut.f
 repeat' first
   | (with_reducible exact ih0 _ _ _ _ _ _)
   | (with_reducible exact spec_l3Ends.mono _ _)
   | (with_reducible exact LeO.refl _)
   | (with_reducible exact LeO.none _)
   | (with_reducible refine LeO.ite ?_ ?_)
   | (with_reducible refine LeO.bind ?_ (fun _ => ?_))
   | exact ih0 _ _ _ _ _ _
   | exact spec_l3Ends.mono _ _
   | exact LeO.none _
   | refine LeO.ite ?_ ?_
   | refine LeO.bind ?_ (fun _ => ?_)
def spec_l4Cut.T13 : Bool × List (List Nat × List Nat):=(true,[([],[]),([],[]),([1],[1]),([],[]),([3],[3]),([],[]),([],[]),([6],[6]),([5,7],[5,7]),([2,4,8],[2,4,8]),([9],[9]),([0,10,8],[0,10]),([11,11,0,1,2,3,4,5,6,7,8,9,10,11],[0,11])])
def spec_l4Cut.B13 : List Nat:=[0,0,2,0,8,0,0,64,224,510,1022,2047,4095]
theorem spec_l4Cut.tab13 : rtab .any (opsOf Try.f69 13) = spec_l4Cut.T13:=by kernel_rfl
theorem spec_l4Cut.bits13 : waitsOk spec_l4Cut.T13.2 spec_l4Cut.B13 = true:=by kernel_rfl
set_option maxHeartbeats 8000000 in
set_option maxRecDepth 100000 in
theorem spec_l4Cut.calls (k : Nat) (A0 : Option Addr) (c0 : Nat) (l0 : List (S56)) (A1 : Option Addr) (c1 : Nat) (l1 : List Bool) (r : List (S56)) (w : World) (hr0 : Kd.C k56 w A0 l0.length l0) (hc0 : l0.length ≤ c0) (hr1 : Kd.C Kd.bool w A1 l1.length l1) (hc1 : l1.length ≤ c1) (h : spec_l4Cut.f k l0 l1 = some r) :
  Calls Try.prog 69 #[.slice A0 l0.length c0,.slice A1 l1.length c1] w fun e w' => ∃ v0_ : Value,e = .returned (v0_) ∧ Kd.S k56 56 w' w.heap.size (fun _ => True) v0_ r ∧ Below w.heap.size w w':=by
 have hu56:=Try.underlying56
 have HR0:=Aside0.mk hr0
 have HC0:=Aside0.mk hc0
 clear hr0 hc0
 have HR1:=Aside0.mk hr1
 have HC1:=Aside0.mk hc1
 clear hr1 hc1
 have HB:=Aside0.mk (Below.refl w.heap.size w)
 have H : ((spec_l3Ends.f k l0).bind fun bt227 => (spec_l4Cut.l0 k l1 bt227.1 ([] : List (S56)) l0 (l0.length : Int) 0)) = some r:=h
 clear h
 replace H:=Option.bind_eq_some_iff.mp H
 obtain ⟨⟨t227,t228⟩,A30,H⟩:=H
 replace H : (spec_l4Cut.l0 k l1 t227 ([] : List (S56)) l0 (l0.length : Int) 0) = some r:=H
 have A3:=Aside0.mk A30
 clear A30
 have H':=Aside0.mk H
 clear H
 go_enter Try.func69,Try.ntmps69
 go_wp2_with (first | ((with_reducible refine gate_callee (f:=48) rfl ?_);refine goesL_ (some 13) rfl rfl Try.func48 (by kernel_rfl) rfl #[.slice A0 l0.length c0] rfl (by (try simp only [List.map_toArray,List.map_cons,List.map_nil]);first | done | rfl | (simp only [List.length_drop,List.length_take];rfl)) ?_;(with_reducible refine (spec_l3Ends.calls k _ _ l0 t227 t228 _ ?side1 ?side2 A3.out).mono ?_);(case side1 => repeat (first | exact HR0.out | (with_reducible refine Kd.C_alloc ?_ _) | (with_reducible refine Kd.C_drewN ?_ _) | (with_reducible refine Kd.C_drew ?_)));(case side2 => exact HC0.out);rintro e w4 ⟨v229,rfl,ho0,hb⟩;refine ⟨_,rfl,?_⟩;have n0_:=Aside0.mk (Kd.R_lower ho0 (below_size (by repeat (first | (with_reducible first | exact HB.out | apply below_alloc | apply pw_below_drewN | apply below_drew1) | exact HB.out))));have n1_:=Aside0.mk (below_step (by repeat (first | (with_reducible first | exact HB.out | apply below_alloc | apply pw_below_drewN | apply below_drew1) | exact HB.out)) hb);clear HB;have HO230:=n0_;have HB:=n1_;clear n0_ n1_;(try clear hb);(try clear hb2);(try clear hk);(try clear hi);(try clear ho0)))
 go_loopg [7,18] k (fun kq v7 v18 w' => ∃ (x7_1 : List (S56)) (x18_1 : Int),v18 = .int .i64 x18_1 ∧ Aside0 (spec_l4Cut.l0 kq l1 t227 x7_1 l0 (l0.length : Int) x18_1 = some r) ∧ Aside0 (kq ≤ k) ∧ Aside0 (Kd.R (Kd.int .i64) 3 w' w.heap.size (fun _ => True) v229 t227) ∧ Aside0 (Kd.S k56 56 w' w.heap.size (fun k_ => some k_ ≠ (v229 : Value).ownBlock) v7 x7_1) ∧ Aside0 (Below w.heap.size w w'))
 case atStart => exact ⟨(([] : List (S56))),(0),(by first | rfl | (simp;done) | (simp [*];done)),H',⟨Nat.le_refl _⟩,⟨by (with_reducible repeat (first | apply Kd.R_alloc | apply Kd.R_drewN | apply Kd.R_drew));exact HO230.out⟩,⟨by first | exact Kd.S_nil _ _ _ _ _ | exact Kd.N_nil _ _ _ _ _ | exact Kd.V_nil _ _ _ _ _ | exact Kd.Q_nil _ _ _ _ _ | exact Kd.R_nil _ _ _ _ _⟩,⟨by repeat (first | (with_reducible first | exact HB.out | apply below_alloc | apply pw_below_drewN | apply below_drew1) | exact HB.out)⟩⟩
 case round =>
  clear H'
  try clear c1
  try clear p2
  try clear c4
  obtain ⟨x7_1,x18_1,rfl,HA,HK1,HO_5,HO_7,HB⟩:=hrel
  cases gk with
  | zero => exact absurd HA.out (by simp [spec_l4Cut.l0])
  | succ k1 =>
   have H:=HA.out
   clear HA
   simp only [spec_l4Cut.l0] at H
   by_cases c5 : x18_1 < (l0.length : Int)
   ·rw [if_pos c5] at H
    have c5b0 : decide (x18_1 < (l0.length : Int)) = true:=decide_eq_true c5
    clear c5
    by_cases c6 : 0 ≤ x18_1
    ·rw [if_pos c6] at H
     have c6b0 : decide (0 ≤ x18_1) = true:=decide_eq_true c6
     clear c6
     by_cases c7 : x18_1 < (l0.length : Int)
     ·rw [if_pos c7] at H
      have c7b0 : decide (x18_1 < (l0.length : Int)) = true:=decide_eq_true c7
      clear c7
      by_cases c8 : x18_1 < (l1.length : Int)
      ·rw [if_pos c8] at H
       have c8b0 : decide (x18_1 < (l1.length : Int)) = true:=decide_eq_true c8
       clear c8
       by_cases c9 : ((rd_T56 l0 x18_1).f0) = 19
       ·rw [if_pos c9] at H
        have c9b0 : (((rd_T56 l0 x18_1).f0) == 19) = true:=beq_iff_eq.mpr c9
        have c9b1 : (((rd_T56 l0 x18_1).f0) != 19) = false:=bne_eq_false_iff_eq.mpr c9
        clear c9
        by_cases c10 : x18_1 < (t227.length : Int)
        ·rw [if_pos c10] at H
         have c10b0 : decide (x18_1 < (t227.length : Int)) = true:=decide_eq_true c10
         clear c10
         by_cases c11 : 0 ≤ (rd t227 x18_1)
         ·rw [if_pos c11] at H
          have c11b0 : decide (0 ≤ (rd t227 x18_1)) = true:=decide_eq_true c11
          clear c11
          by_cases c12 : (rd t227 x18_1) < (l1.length : Int)
          ·rw [if_pos c12] at H
           have c12b0 : decide ((rd t227 x18_1) < (l1.length : Int)) = true:=decide_eq_true c12
           clear c12
           obtain ⟨bq13,hbq13⟩ : ∃ b_ : Bool,b_ = (rdOf false l1 (rd t227 x18_1)):=⟨_,rfl⟩
           replace H : (if (bq13 = true) then (spec_l4Cut.l0 k1 l1 t227 x7_1 l0 (l0.length : Int) (wrap64 (x18_1 + 1))) else ((some (([] : List Int) : List Int)).bind fun y236 => (if y236.length + ((rd_T56 l0 x18_1).f2).length < 17592186044416 then (if x7_1.length < 3518437208883 then (spec_l4Cut.l0 k1 l1 t227 (x7_1 ++ [(⟨(rd_T56 l0 x18_1).f0,(rd_T56 l0 x18_1).f1,(y236 ++ ((rd_T56 l0 x18_1).f2))⟩ : S56)]) l0 (l0.length : Int) (wrap64 (x18_1 + 1))) else (none)) else (none)))) = some r:=by rw [← hbq13] at H;exact H
           have Nbq13:=Aside0.mk hbq13
           clear hbq13
           by_cases c14 : (bq13 = true)
           ·subst c14
            have H1 : (spec_l4Cut.l0 k1 l1 t227 x7_1 l0 (l0.length : Int) (wrap64 (x18_1 + 1))) = some r:=by rw [if_pos rfl] at H;exact H
            clear H
            have H:=H1
            clear H1
            have H':=Aside0.mk H
            clear H
            have p231 : 0 ≤ (x18_1 : Int):=of_decide_eq_true (by first | (with_reducible assumption) | assumption)
            have q231 : x18_1 < (l0.length : Int):=of_decide_eq_true (by first | (with_reducible assumption) | assumption)
            obtain ⟨ad231,A231_2,c231_2,e231,hx231_0,hx231_1,hx231_2,hl231_2,hi231_2⟩:=at_T56 HR0.out x18_1 p231 q231
            cases e231
            replace hx231_0:=(HB.out.cell (World.block_lt_of_cell? w _ hx231_0)).trans hx231_0
            replace hx231_1:=(HB.out.cell (World.block_lt_of_cell? w _ hx231_1)).trans hx231_1
            replace hx231_2:=(HB.out.cell (World.block_lt_of_cell? w _ hx231_2)).trans hx231_2
            have HR231_2:=Aside0.mk hi231_2
            have HC231_2:=Aside0.mk hl231_2
            clear hi231_2 hl231_2
            replace p231:=eq_true p231
            replace q231:=eq_true q231
            go_wp2_with (first | ((with_reducible refine gate_dst (N:=9) rfl ?_);refine box_event ?hg (N:=9) ?hd (cs:=#[.int .i64 0,.int .i64 0,.slice none 0 0]) (t:=56) ?hr ?_;(case hd => rfl);(case hg => rfl);(case hr => first | (go_simp;done) | (go_simp;rfl));intro gb232 hg w15 hbox hb;have n0_:=Aside0.mk (Kd.R_below (by (with_reducible repeat (first | apply Kd.R_alloc | apply Kd.R_drewN | apply Kd.R_drew));exact HO_5.out) hb);have n1_:=Aside0.mk (Kd.S_below (Kd.S_elderB (by (with_reducible repeat (first | apply Kd.S_alloc | apply Kd.S_drewN | apply Kd.S_drew));exact HO_7.out) gb232 (Nat.le_of_eq hg.symm)) hb);have n2_:=Aside0.mk (below_step (by repeat (first | (with_reducible first | exact HB.out | apply below_alloc | apply pw_below_drewN | apply below_drew1) | exact HB.out)) hb);have n3_:=Aside0.mk (hbox);have n4_:=Aside0.mk ((by rw [hg];exact (below_size (by repeat (first | (with_reducible first | exact HB.out | apply below_alloc | apply pw_below_drewN | apply below_drew1) | exact HB.out))) : w.heap.size ≤ gb232));have n5_:=Aside0.mk ((by rw [hg];exact (below_size (by repeat (first | (with_reducible first | exact HB.out | apply below_alloc | apply pw_below_drewN | apply below_drew1) | exact HB.out))) : w.heap.size ≤ gb232));clear HO_5;clear HO_7;clear HB;have HO_5:=n0_;have HO_7:=n1_;have HB:=n2_;have BK232:=n3_;have GW232:=n4_;have GE232:=n5_;clear n0_ n1_ n2_ n3_ n4_ n5_;clear hb hbox hg;have hcz16_0 : w15.cell? ⟨gb232,0,none⟩ = some (.int .i64 0):=(blk_cell BK232.out 0).trans rfl;have hcz16_1 : w15.cell? ⟨gb232,1,none⟩ = some (.int .i64 0):=(blk_cell BK232.out 1).trans rfl;have hcz16_2 : w15.cell? ⟨gb232,2,none⟩ = some (.slice none 0 0):=(blk_cell BK232.out 2).trans rfl;have hfz16_0:=blk_frozen BK232.out 0;have hfz16_1:=blk_frozen BK232.out 1;have hfz16_2:=blk_frozen BK232.out 2;have p233 : 0 ≤ (x18_1 : Int):=of_decide_eq_true (by first | (with_reducible assumption) | assumption);have q233 : x18_1 < (l1.length : Int):=of_decide_eq_true (by first | (with_reducible assumption) | assumption);obtain ⟨ad233,e233,hx233_0⟩:=Kd.at_bool HR1.out x18_1 p233 q233;(try rw [← Nbq13.out] at hx233_0);cases e233;have hn233_0 : ad233.block ≠ gb232:=Nat.ne_of_lt (Nat.lt_of_lt_of_le (by have:=World.block_lt_of_cell? _ _ hx233_0;first | rwa [add_block] at this | exact this) GW232.out);have hn233_1 : ad233.block ≠ gb232:=Nat.ne_of_lt (Nat.lt_of_lt_of_le (by have:=World.block_lt_of_cell? _ _ hx233_0;first | rwa [add_block] at this | exact this) GW232.out);have hn233_2 : ad233.block ≠ gb232:=Nat.ne_of_lt (Nat.lt_of_lt_of_le (by have:=World.block_lt_of_cell? _ _ hx233_0;first | rwa [add_block] at this | exact this) GW232.out);replace hx233_0:=(HB.out.cell (World.block_lt_of_cell? w _ hx233_0)).trans hx233_0;replace hx233_0:=(cell_far (p:=⟨gb232,0,none⟩) (by first | (rw [add_block];exact hn233_0) | (show (Addr.add _ _).block ≠ _;rw [add_block];exact hn233_0) | exact hn233_0) (.int .i64 ((rd_T56 l0 x18_1).f0))).trans hx233_0;replace hx233_0:=(cell_far (p:=⟨gb232,1,none⟩) (by first | (rw [add_block];exact hn233_1) | (show (Addr.add _ _).block ≠ _;rw [add_block];exact hn233_1) | exact hn233_1) (.int .i64 ((rd_T56 l0 x18_1).f1))).trans hx233_0;replace hx233_0:=(cell_far (p:=⟨gb232,2,none⟩) (by first | (rw [add_block];exact hn233_2) | (show (Addr.add _ _).block ≠ _;rw [add_block];exact hn233_2) | exact hn233_2) (.slice A231_2 ((rd_T56 l0 x18_1).f2).length c231_2)).trans hx233_0;clear hn233_0;clear hn233_1;clear hn233_2;replace p233:=eq_true p233;replace q233:=eq_true q233;obtain ⟨Ao17,co17,eo17⟩:=Kd.R_slice HO_5.out;subst eo17;have p234 : 0 ≤ (x18_1 : Int):=of_decide_eq_true (by first | (with_reducible assumption) | assumption);have q234 : x18_1 < (t227.length : Int):=of_decide_eq_true (by first | (with_reducible assumption) | assumption);obtain ⟨ad234,e234,hx234_0⟩:=Kd.at_int (Kd.R_reads' HO_5.out).2.2 x18_1 p234 q234;cases e234;have hn234_0 : ad234.block ≠ gb232:=Kd.own_blk (Kd.R_ne HO_5.out BK232.out (by decide));have hn234_1 : ad234.block ≠ gb232:=Kd.own_blk (Kd.R_ne HO_5.out BK232.out (by decide));have hn234_2 : ad234.block ≠ gb232:=Kd.own_blk (Kd.R_ne HO_5.out BK232.out (by decide));replace hx234_0:=(cell_far (p:=⟨gb232,0,none⟩) (by first | (rw [add_block];exact hn234_0) | (show (Addr.add _ _).block ≠ _;rw [add_block];exact hn234_0) | exact hn234_0) (.int .i64 ((rd_T56 l0 x18_1).f0))).trans hx234_0;replace hx234_0:=(cell_far (p:=⟨gb232,1,none⟩) (by first | (rw [add_block];exact hn234_1) | (show (Addr.add _ _).block ≠ _;rw [add_block];exact hn234_1) | exact hn234_1) (.int .i64 ((rd_T56 l0 x18_1).f1))).trans hx234_0;replace hx234_0:=(cell_far (p:=⟨gb232,2,none⟩) (by first | (rw [add_block];exact hn234_2) | (show (Addr.add _ _).block ≠ _;rw [add_block];exact hn234_2) | exact hn234_2) (.slice A231_2 ((rd_T56 l0 x18_1).f2).length c231_2)).trans hx234_0;clear hn234_0;clear hn234_1;clear hn234_2;replace p234:=eq_true p234;replace q234:=eq_true q234;have p235 : 0 ≤ ((rd t227 x18_1) : Int):=of_decide_eq_true (by first | (with_reducible assumption) | assumption);have q235 : (rd t227 x18_1) < (l1.length : Int):=of_decide_eq_true (by first | (with_reducible assumption) | assumption);obtain ⟨ad235,e235,hx235_0⟩:=Kd.at_bool HR1.out (rd t227 x18_1) p235 q235;(try rw [← Nbq13.out] at hx235_0);obtain rfl : ad233 = ad235:=(by injection e235);have hn235_0 : ad233.block ≠ gb232:=Nat.ne_of_lt (Nat.lt_of_lt_of_le (by have:=World.block_lt_of_cell? _ _ hx235_0;first | rwa [add_block] at this | exact this) GW232.out);have hn235_1 : ad233.block ≠ gb232:=Nat.ne_of_lt (Nat.lt_of_lt_of_le (by have:=World.block_lt_of_cell? _ _ hx235_0;first | rwa [add_block] at this | exact this) GW232.out);have hn235_2 : ad233.block ≠ gb232:=Nat.ne_of_lt (Nat.lt_of_lt_of_le (by have:=World.block_lt_of_cell? _ _ hx235_0;first | rwa [add_block] at this | exact this) GW232.out);replace hx235_0:=(HB.out.cell (World.block_lt_of_cell? w _ hx235_0)).trans hx235_0;replace hx235_0:=(cell_far (p:=⟨gb232,0,none⟩) (by first | (rw [add_block];exact hn235_0) | (show (Addr.add _ _).block ≠ _;rw [add_block];exact hn235_0) | exact hn235_0) (.int .i64 ((rd_T56 l0 x18_1).f0))).trans hx235_0;replace hx235_0:=(cell_far (p:=⟨gb232,1,none⟩) (by first | (rw [add_block];exact hn235_1) | (show (Addr.add _ _).block ≠ _;rw [add_block];exact hn235_1) | exact hn235_1) (.int .i64 ((rd_T56 l0 x18_1).f1))).trans hx235_0;replace hx235_0:=(cell_far (p:=⟨gb232,2,none⟩) (by first | (rw [add_block];exact hn235_2) | (show (Addr.add _ _).block ≠ _;rw [add_block];exact hn235_2) | exact hn235_2) (.slice A231_2 ((rd_T56 l0 x18_1).f2).length c231_2)).trans hx235_0;clear hn235_0;clear hn235_1;clear hn235_2;replace p235:=eq_true p235;replace q235:=eq_true q235))
            go_roundg k1
            case measure => have:=HK1.out;omega
            case rel => exact ⟨(x7_1),(wrap64 (x18_1 + 1)),(by first | rfl | (simp;done) | (simp [*];done)),H',⟨by have:=HK1.out;omega⟩,⟨by (with_reducible repeat (first | apply Kd.R_alloc | apply Kd.R_drewN | apply Kd.R_drew));exact Kd.R_mono (Kd.R_far (p:=⟨gb232,2,none⟩) (Kd.R_far (p:=⟨gb232,1,none⟩) (Kd.R_far (p:=⟨gb232,0,none⟩) (Kd.R_types HO_5.out BK232.out (by decide)) (fun _ hk => hk.2) (.int .i64 ((rd_T56 l0 x18_1).f0))) (fun _ hk => hk.2) (.int .i64 ((rd_T56 l0 x18_1).f1))) (fun _ hk => hk.2) (.slice A231_2 ((rd_T56 l0 x18_1).f2).length c231_2)) (fun _ hk => trivial)⟩,⟨by (with_reducible repeat (first | apply Kd.S_alloc | apply Kd.S_drewN | apply Kd.S_drew));exact Kd.S_mono (Kd.S_far (p:=⟨gb232,2,none⟩) (Kd.S_far (p:=⟨gb232,1,none⟩) (Kd.S_far (p:=⟨gb232,0,none⟩) (Kd.S_mono HO_7.out (fun k_ hk => (⟨hk,hk.2⟩ : _ ∧ k_ ≠ gb232))) (fun _ hk => hk.2) (.int .i64 ((rd_T56 l0 x18_1).f0))) (fun _ hk => hk.2) (.int .i64 ((rd_T56 l0 x18_1).f1))) (fun _ hk => hk.2) (.slice A231_2 ((rd_T56 l0 x18_1).f2).length c231_2)) (fun _ hk => hk.1.1)⟩,⟨by repeat (first | (with_reducible first | exact HB.out | apply below_alloc | apply pw_below_drewN | apply below_drew1 | refine below_set ?_ GE232.out) | exact HB.out)⟩⟩
           ·replace c14:=Bool.eq_false_iff.mpr c14
            subst c14
            have H1 : ((some (([] : List Int) : List Int)).bind fun y236 => (if y236.length + ((rd_T56 l0 x18_1).f2).length < 17592186044416 then (if x7_1.length < 3518437208883 then (spec_l4Cut.l0 k1 l1 t227 (x7_1 ++ [(⟨(rd_T56 l0 x18_1).f0,(rd_T56 l0 x18_1).f1,(y236 ++ ((rd_T56 l0 x18_1).f2))⟩ : S56)]) l0 (l0.length : Int) (wrap64 (x18_1 + 1))) else (none)) else (none))) = some r:=by rw [if_neg (show ¬ (false = true) by decide)] at H;exact H
            clear H
            have H:=H1
            clear H1
            obtain ⟨y236,hy236⟩ : ∃ y_ : List Int,y_ = (([] : List Int)):=⟨_,rfl⟩
            replace H : (if y236.length + ((rd_T56 l0 x18_1).f2).length < 17592186044416 then (if x7_1.length < 3518437208883 then (spec_l4Cut.l0 k1 l1 t227 (x7_1 ++ [(⟨(rd_T56 l0 x18_1).f0,(rd_T56 l0 x18_1).f1,(y236 ++ ((rd_T56 l0 x18_1).f2))⟩ : S56)]) l0 (l0.length : Int) (wrap64 (x18_1 + 1))) else (none)) else (none)) = some r:=by first | (rw [hy236];with_reducible exact H) | (have H2_:=(Option.bind_some _ _).symm.trans H;rw [hy236];with_reducible exact H2_) | (have H2_:=(Option.bind_some _ _).symm.trans H;with_reducible exact H2_) | with_reducible exact H | (rw [hy236];exact H) | exact H
            have Ny236:=Aside0.mk hy236
            clear hy236
            by_cases c18 : y236.length + ((rd_T56 l0 x18_1).f2).length < 17592186044416
            ·rw [if_pos c18] at H
             have LMc18:=Aside0.mk c18
             clear c18
             obtain ⟨y239,hy239⟩ : ∃ y_ : List Int,y_ = (y236 ++ ((rd_T56 l0 x18_1).f2)):=⟨_,rfl⟩
             replace H : (if x7_1.length < 3518437208883 then (spec_l4Cut.l0 k1 l1 t227 (x7_1 ++ [(⟨(rd_T56 l0 x18_1).f0,(rd_T56 l0 x18_1).f1,y239⟩ : S56)]) l0 (l0.length : Int) (wrap64 (x18_1 + 1))) else (none)) = some r:=by first | (rw [hy239];with_reducible exact H) | (have H2_:=(Option.bind_some _ _).symm.trans H;rw [hy239];with_reducible exact H2_) | (have H2_:=(Option.bind_some _ _).symm.trans H;with_reducible exact H2_) | with_reducible exact H | (rw [hy239];exact H) | exact H
             have Ny239:=Aside0.mk hy239
             clear hy239
             by_cases c19 : x7_1.length < 3518437208883
             ·rw [if_pos c19] at H
              have LMc19:=Aside0.mk c19
              clear c19
              obtain ⟨y242,hy242⟩ : ∃ y_ : List (S56),y_ = (x7_1 ++ [(⟨(rd_T56 l0 x18_1).f0,(rd_T56 l0 x18_1).f1,y239⟩ : S56)]):=⟨_,rfl⟩
              replace H : (spec_l4Cut.l0 k1 l1 t227 y242 l0 (l0.length : Int) (wrap64 (x18_1 + 1))) = some r:=by first | (rw [hy242];with_reducible exact H) | (have H2_:=(Option.bind_some _ _).symm.trans H;rw [hy242];with_reducible exact H2_) | (have H2_:=(Option.bind_some _ _).symm.trans H;with_reducible exact H2_) | with_reducible exact H | (rw [hy242];exact H) | exact H
              have Ny242:=Aside0.mk hy242
              clear hy242
              have H':=Aside0.mk H
              clear H
              have p231 : 0 ≤ (x18_1 : Int):=of_decide_eq_true (by first | (with_reducible assumption) | assumption)
              have q231 : x18_1 < (l0.length : Int):=of_decide_eq_true (by first | (with_reducible assumption) | assumption)
              obtain ⟨ad231,A231_2,c231_2,e231,hx231_0,hx231_1,hx231_2,hl231_2,hi231_2⟩:=at_T56 HR0.out x18_1 p231 q231
              cases e231
              replace hx231_0:=(HB.out.cell (World.block_lt_of_cell? w _ hx231_0)).trans hx231_0
              replace hx231_1:=(HB.out.cell (World.block_lt_of_cell? w _ hx231_1)).trans hx231_1
              replace hx231_2:=(HB.out.cell (World.block_lt_of_cell? w _ hx231_2)).trans hx231_2
              have HR231_2:=Aside0.mk hi231_2
              have HC231_2:=Aside0.mk hl231_2
              clear hi231_2 hl231_2
              replace p231:=eq_true p231
              replace q231:=eq_true q231
              try go_wp2_with (first | ((with_reducible refine gate_dst (N:=9) rfl ?_);refine box_event ?hg (N:=9) ?hd (cs:=#[.int .i64 0,.int .i64 0,.slice none 0 0]) (t:=56) ?hr ?_;(case hd => rfl);(case hg => rfl);(case hr => first | (go_simp;done) | (go_simp;rfl));intro gb232 hg w20 hbox hb;have n0_:=Aside0.mk (Kd.R_below (by (with_reducible repeat (first | apply Kd.R_alloc | apply Kd.R_drewN | apply Kd.R_drew));exact HO_5.out) hb);have n1_:=Aside0.mk (Kd.S_below (Kd.S_elderB (by (with_reducible repeat (first | apply Kd.S_alloc | apply Kd.S_drewN | apply Kd.S_drew));exact HO_7.out) gb232 (Nat.le_of_eq hg.symm)) hb);have n2_:=Aside0.mk (below_step (by repeat (first | (with_reducible first | exact HB.out | apply below_alloc | apply pw_below_drewN | apply below_drew1) | exact HB.out)) hb);have n3_:=Aside0.mk (hbox);have n4_:=Aside0.mk ((by rw [hg];exact (below_size (by repeat (first | (with_reducible first | exact HB.out | apply below_alloc | apply pw_below_drewN | apply below_drew1) | exact HB.out))) : w.heap.size ≤ gb232));have n5_:=Aside0.mk ((by rw [hg];exact (below_size (by repeat (first | (with_reducible first | exact HB.out | apply below_alloc | apply pw_below_drewN | apply below_drew1) | exact HB.out))) : w.heap.size ≤ gb232));clear HO_5;clear HO_7;clear HB;have HO_5:=n0_;have HO_7:=n1_;have HB:=n2_;have BK232:=n3_;have GW232:=n4_;have GE232:=n5_;clear n0_ n1_ n2_ n3_ n4_ n5_;clear hb hbox hg;have hcz21_0 : w20.cell? ⟨gb232,0,none⟩ = some (.int .i64 0):=(blk_cell BK232.out 0).trans rfl;have hcz21_1 : w20.cell? ⟨gb232,1,none⟩ = some (.int .i64 0):=(blk_cell BK232.out 1).trans rfl;have hcz21_2 : w20.cell? ⟨gb232,2,none⟩ = some (.slice none 0 0):=(blk_cell BK232.out 2).trans rfl;have hfz21_0:=blk_frozen BK232.out 0;have hfz21_1:=blk_frozen BK232.out 1;have hfz21_2:=blk_frozen BK232.out 2;have p233 : 0 ≤ (x18_1 : Int):=of_decide_eq_true (by first | (with_reducible assumption) | assumption);have q233 : x18_1 < (l1.length : Int):=of_decide_eq_true (by first | (with_reducible assumption) | assumption);obtain ⟨ad233,e233,hx233_0⟩:=Kd.at_bool HR1.out x18_1 p233 q233;(try rw [← Nbq13.out] at hx233_0);cases e233;have hn233_0 : ad233.block ≠ gb232:=Nat.ne_of_lt (Nat.lt_of_lt_of_le (by have:=World.block_lt_of_cell? _ _ hx233_0;first | rwa [add_block] at this | exact this) GW232.out);have hn233_1 : ad233.block ≠ gb232:=Nat.ne_of_lt (Nat.lt_of_lt_of_le (by have:=World.block_lt_of_cell? _ _ hx233_0;first | rwa [add_block] at this | exact this) GW232.out);have hn233_2 : ad233.block ≠ gb232:=Nat.ne_of_lt (Nat.lt_of_lt_of_le (by have:=World.block_lt_of_cell? _ _ hx233_0;first | rwa [add_block] at this | exact this) GW232.out);replace hx233_0:=(HB.out.cell (World.block_lt_of_cell? w _ hx233_0)).trans hx233_0;replace hx233_0:=(cell_far (p:=⟨gb232,0,none⟩) (by first | (rw [add_block];exact hn233_0) | (show (Addr.add _ _).block ≠ _;rw [add_block];exact hn233_0) | exact hn233_0) (.int .i64 ((rd_T56 l0 x18_1).f0))).trans hx233_0;replace hx233_0:=(cell_far (p:=⟨gb232,1,none⟩) (by first | (rw [add_block];exact hn233_1) | (show (Addr.add _ _).block ≠ _;rw [add_block];exact hn233_1) | exact hn233_1) (.int .i64 ((rd_T56 l0 x18_1).f1))).trans hx233_0;replace hx233_0:=(cell_far (p:=⟨gb232,2,none⟩) (by first | (rw [add_block];exact hn233_2) | (show (Addr.add _ _).block ≠ _;rw [add_block];exact hn233_2) | exact hn233_2) (.slice A231_2 ((rd_T56 l0 x18_1).f2).length c231_2)).trans hx233_0;clear hn233_0;clear hn233_1;clear hn233_2;replace p233:=eq_true p233;replace q233:=eq_true q233;obtain ⟨Ao22,co22,eo22⟩:=Kd.R_slice HO_5.out;subst eo22;have p234 : 0 ≤ (x18_1 : Int):=of_decide_eq_true (by first | (with_reducible assumption) | assumption);have q234 : x18_1 < (t227.length : Int):=of_decide_eq_true (by first | (with_reducible assumption) | assumption);obtain ⟨ad234,e234,hx234_0⟩:=Kd.at_int (Kd.R_reads' HO_5.out).2.2 x18_1 p234 q234;cases e234;have hn234_0 : ad234.block ≠ gb232:=Kd.own_blk (Kd.R_ne HO_5.out BK232.out (by decide));have hn234_1 : ad234.block ≠ gb232:=Kd.own_blk (Kd.R_ne HO_5.out BK232.out (by decide));have hn234_2 : ad234.block ≠ gb232:=Kd.own_blk (Kd.R_ne HO_5.out BK232.out (by decide));replace hx234_0:=(cell_far (p:=⟨gb232,0,none⟩) (by first | (rw [add_block];exact hn234_0) | (show (Addr.add _ _).block ≠ _;rw [add_block];exact hn234_0) | exact hn234_0) (.int .i64 ((rd_T56 l0 x18_1).f0))).trans hx234_0;replace hx234_0:=(cell_far (p:=⟨gb232,1,none⟩) (by first | (rw [add_block];exact hn234_1) | (show (Addr.add _ _).block ≠ _;rw [add_block];exact hn234_1) | exact hn234_1) (.int .i64 ((rd_T56 l0 x18_1).f1))).trans hx234_0;replace hx234_0:=(cell_far (p:=⟨gb232,2,none⟩) (by first | (rw [add_block];exact hn234_2) | (show (Addr.add _ _).block ≠ _;rw [add_block];exact hn234_2) | exact hn234_2) (.slice A231_2 ((rd_T56 l0 x18_1).f2).length c231_2)).trans hx234_0;clear hn234_0;clear hn234_1;clear hn234_2;replace p234:=eq_true p234;replace q234:=eq_true q234;have p235 : 0 ≤ ((rd t227 x18_1) : Int):=of_decide_eq_true (by first | (with_reducible assumption) | assumption);have q235 : (rd t227 x18_1) < (l1.length : Int):=of_decide_eq_true (by first | (with_reducible assumption) | assumption);obtain ⟨ad235,e235,hx235_0⟩:=Kd.at_bool HR1.out (rd t227 x18_1) p235 q235;(try rw [← Nbq13.out] at hx235_0);obtain rfl : ad233 = ad235:=(by injection e235);have hn235_0 : ad233.block ≠ gb232:=Nat.ne_of_lt (Nat.lt_of_lt_of_le (by have:=World.block_lt_of_cell? _ _ hx235_0;first | rwa [add_block] at this | exact this) GW232.out);have hn235_1 : ad233.block ≠ gb232:=Nat.ne_of_lt (Nat.lt_of_lt_of_le (by have:=World.block_lt_of_cell? _ _ hx235_0;first | rwa [add_block] at this | exact this) GW232.out);have hn235_2 : ad233.block ≠ gb232:=Nat.ne_of_lt (Nat.lt_of_lt_of_le (by have:=World.block_lt_of_cell? _ _ hx235_0;first | rwa [add_block] at this | exact this) GW232.out);replace hx235_0:=(HB.out.cell (World.block_lt_of_cell? w _ hx235_0)).trans hx235_0;replace hx235_0:=(cell_far (p:=⟨gb232,0,none⟩) (by first | (rw [add_block];exact hn235_0) | (show (Addr.add _ _).block ≠ _;rw [add_block];exact hn235_0) | exact hn235_0) (.int .i64 ((rd_T56 l0 x18_1).f0))).trans hx235_0;replace hx235_0:=(cell_far (p:=⟨gb232,1,none⟩) (by first | (rw [add_block];exact hn235_1) | (show (Addr.add _ _).block ≠ _;rw [add_block];exact hn235_1) | exact hn235_1) (.int .i64 ((rd_T56 l0 x18_1).f1))).trans hx235_0;replace hx235_0:=(cell_far (p:=⟨gb232,2,none⟩) (by first | (rw [add_block];exact hn235_2) | (show (Addr.add _ _).block ≠ _;rw [add_block];exact hn235_2) | exact hn235_2) (.slice A231_2 ((rd_T56 l0 x18_1).f2).length c231_2)).trans hx235_0;clear hn235_0;clear hn235_1;clear hn235_2;replace p235:=eq_true p235;replace q235:=eq_true q235))
              have n0_ : Aside0 (Kd.R (Kd.int .i64) 3 (((w20.setCell ⟨gb232,0,none⟩ (.int .i64 ((rd_T56 l0 x18_1).f0))).setCell ⟨gb232,1,none⟩ (.int .i64 ((rd_T56 l0 x18_1).f1))).setCell ⟨gb232,2,none⟩ (.slice A231_2 ((rd_T56 l0 x18_1).f2).length c231_2)) w.heap.size (fun _ => True) (.slice (some ad234) t227.length co22) t227):=⟨by (with_reducible repeat (first | apply Kd.R_alloc | apply Kd.R_drewN | apply Kd.R_drew));exact Kd.R_mono (Kd.R_far (p:=⟨gb232,2,none⟩) (Kd.R_far (p:=⟨gb232,1,none⟩) (Kd.R_far (p:=⟨gb232,0,none⟩) (Kd.R_types HO_5.out BK232.out (by decide)) (fun _ hk => hk.2) (.int .i64 ((rd_T56 l0 x18_1).f0))) (fun _ hk => hk.2) (.int .i64 ((rd_T56 l0 x18_1).f1))) (fun _ hk => hk.2) (.slice A231_2 ((rd_T56 l0 x18_1).f2).length c231_2)) (fun _ hk => trivial)⟩
              have n1_ : Aside0 (Kd.S k56 56 (((w20.setCell ⟨gb232,0,none⟩ (.int .i64 ((rd_T56 l0 x18_1).f0))).setCell ⟨gb232,1,none⟩ (.int .i64 ((rd_T56 l0 x18_1).f1))).setCell ⟨gb232,2,none⟩ (.slice A231_2 ((rd_T56 l0 x18_1).f2).length c231_2)) w.heap.size (fun k_ => some k_ ≠ (.slice (some ad234) t227.length co22 : Value).ownBlock ∧ k_ ≠ gb232) u7 x7_1):=⟨by (with_reducible repeat (first | apply Kd.S_alloc | apply Kd.S_drewN | apply Kd.S_drew));exact Kd.S_mono (Kd.S_far (p:=⟨gb232,2,none⟩) (Kd.S_far (p:=⟨gb232,1,none⟩) (Kd.S_far (p:=⟨gb232,0,none⟩) (Kd.S_mono HO_7.out (fun k_ hk => (⟨hk,hk.2⟩ : _ ∧ k_ ≠ gb232))) (fun _ hk => hk.2) (.int .i64 ((rd_T56 l0 x18_1).f0))) (fun _ hk => hk.2) (.int .i64 ((rd_T56 l0 x18_1).f1))) (fun _ hk => hk.2) (.slice A231_2 ((rd_T56 l0 x18_1).f2).length c231_2)) (fun _ hk => ⟨hk.1.1,hk.1.2⟩)⟩
              have n2_ : Aside0 ((((w20.setCell ⟨gb232,0,none⟩ (.int .i64 ((rd_T56 l0 x18_1).f0))).setCell ⟨gb232,1,none⟩ (.int .i64 ((rd_T56 l0 x18_1).f1))).setCell ⟨gb232,2,none⟩ (.slice A231_2 ((rd_T56 l0 x18_1).f2).length c231_2)).heap[gb232]? = some (.cells #[.int .i64 ((rd_T56 l0 x18_1).f0),.int .i64 ((rd_T56 l0 x18_1).f1),.slice A231_2 ((rd_T56 l0 x18_1).f2).length c231_2] 56 (0,0))):=⟨by (with_reducible repeat (first | refine blk_drewN ?_ _ | refine blk_drew ?_ | refine blk_alloc ?_ _));refine blk_put (cs:=#[.int .i64 ((rd_T56 l0 x18_1).f0),.int .i64 ((rd_T56 l0 x18_1).f1),.slice none 0 0]) ?_ 2 _ rfl;(with_reducible repeat (first | refine blk_drewN ?_ _ | refine blk_drew ?_ | refine blk_alloc ?_ _));refine blk_put (cs:=#[.int .i64 ((rd_T56 l0 x18_1).f0),.int .i64 0,.slice none 0 0]) ?_ 1 _ rfl;(with_reducible repeat (first | refine blk_drewN ?_ _ | refine blk_drew ?_ | refine blk_alloc ?_ _));refine blk_put (cs:=#[.int .i64 0,.int .i64 0,.slice none 0 0]) ?_ 0 _ rfl;(with_reducible repeat (first | refine blk_drewN ?_ _ | refine blk_drew ?_ | refine blk_alloc ?_ _));exact BK232.out⟩
              have n3_ : Aside0 (Below w.heap.size w (((w20.setCell ⟨gb232,0,none⟩ (.int .i64 ((rd_T56 l0 x18_1).f0))).setCell ⟨gb232,1,none⟩ (.int .i64 ((rd_T56 l0 x18_1).f1))).setCell ⟨gb232,2,none⟩ (.slice A231_2 ((rd_T56 l0 x18_1).f2).length c231_2))):=⟨by repeat (first | (with_reducible first | exact HB.out | apply below_alloc | apply pw_below_drewN | apply below_drew1 | refine below_set ?_ GE232.out) | exact HB.out)⟩
              (try clear HO_5)
              (try clear HO_7)
              (try clear BK232)
              (try clear HB)
              generalize (((w20.setCell ⟨gb232,0,none⟩ (.int .i64 ((rd_T56 l0 x18_1).f0))).setCell ⟨gb232,1,none⟩ (.int .i64 ((rd_T56 l0 x18_1).f1))).setCell ⟨gb232,2,none⟩ (.slice A231_2 ((rd_T56 l0 x18_1).f2).length c231_2)) = w23 at n0_ n1_ n2_ n3_ ⊢
              have HO_5:=n0_
              have HO_7:=n1_
              have BK232:=n2_
              have HB:=n3_
              clear n0_ n1_ n2_ n3_
              have n0_:=Aside0.mk (Kd.R_drew HO_5.out)
              have n1_:=Aside0.mk (Kd.S_drew HO_7.out)
              have n2_:=Aside0.mk (blk_drew BK232.out)
              have n3_:=Aside0.mk (below_drew1 HB.out)
              clear HO_5
              clear HO_7
              clear BK232
              clear HB
              have HO_5:=n0_
              have HO_7:=n1_
              have BK232:=n2_
              have HB:=n3_
              clear n0_ n1_ n2_ n3_
              refine start_ (n:=13) (S:=fun w' => w'.cell? ⟨gb232,0,none⟩ = some (.int .i64 ((rd_T56 l0 x18_1).f0)) ∧ w'.cell? ⟨gb232,1,none⟩ = some (.int .i64 ((rd_T56 l0 x18_1).f1)) ∧ w'.cell? ⟨gb232,2,none⟩ = some (.slice A231_2 ((rd_T56 l0 x18_1).f2).length c231_2)) (ds:=[]) #[false,false,false,false,false,false,false,false,false,false,false,false,false] (by kernel_rfl) rfl rfl ⟨(blk_cell BK232.out 0).trans rfl,(blk_cell BK232.out 1).trans rfl,(blk_cell BK232.out 2).trans rfl⟩ (fun hHeld => ?_);refine with_tabW spec_l4Cut.tab13 spec_l4Cut.bits13 (fun HT_ HW_ => ?_)
              generalize w23.drew = w24 at HO_5 HO_7 BK232 HB hHeld ⊢
              refine pure_ (i:=0) (N:=some 52) (v:=?_) (a':=?_) #[true,false,false,false,false,false,false,false,false,false,false,false,false] rfl rfl (any_of HT_.out (by kernel_rfl)) (fun _ _ _ h => h) (Or.inl ⟨by rfl,?_⟩) ?_ ?_
              rotate_left
              ·intro w'
               go_simp
               with_reducible rfl
              rotate_left
              ·simp only [Act.put,List.setIfInBounds_toArray,List.set_cons_zero,List.set_cons_succ,i64_w,i32_w]
               rfl
              refine pure_ (i:=1) (N:=some 53) (v:=?_) (a':=?_) #[true,true,false,false,false,false,false,false,false,false,false,false,false] rfl rfl (any_of HT_.out (by kernel_rfl)) (fun _ _ _ h => h) (Or.inl ⟨by rfl,?_⟩) ?_ ?_
              rotate_left
              ·intro w'
               go_simp
               with_reducible rfl
              rotate_left
              ·simp only [Act.put,List.setIfInBounds_toArray,List.set_cons_zero,List.set_cons_succ,i64_w,i32_w]
               rfl
              refine pure_ (i:=3) (N:=some 55) (v:=?_) (a':=?_) #[true,true,false,true,false,false,false,false,false,false,false,false,false] rfl rfl (any_of HT_.out (by kernel_rfl)) (fun _ _ _ h => h) (Or.inl ⟨by rfl,?_⟩) ?_ ?_
              rotate_left
              ·intro w'
               go_simp
               with_reducible rfl
              rotate_left
              ·simp only [Act.put,List.setIfInBounds_toArray,List.set_cons_zero,List.set_cons_succ,i64_w,i32_w]
               rfl
              refine pure_ (i:=6) (N:=some 58) (v:=?_) (a':=?_) #[true,true,false,true,false,false,true,false,false,false,false,false,false] rfl rfl (any_of HT_.out (by kernel_rfl)) (fun _ _ _ h => h) (Or.inl ⟨by rfl,?_⟩) ?_ ?_
              rotate_left
              ·intro w'
               go_simp
               with_reducible rfl
              rotate_left
              ·simp only [Act.put,List.setIfInBounds_toArray,List.set_cons_zero,List.set_cons_succ,i64_w,i32_w]
               rfl
              refine take_ (i:=2) (N:=some 54) (v:=?_) (a':=?_) #[true,true,true,true,false,false,true,false,false,false,false,false,false] rfl rfl (take_ofW HT_.out HW_.out (by kernel_rfl)) (fun _ _ _ h => h) (Or.inl ⟨by rfl,?_⟩) hHeld ?_ ?_
              rotate_left
              ·rintro w' ⟨s0,s1,s2⟩
               go_simp
               with_reducible rfl
              rotate_left
              ·simp only [Act.put,List.setIfInBounds_toArray,List.set_cons_zero,List.set_cons_succ,i64_w,i32_w]
               rfl
              refine take_ (i:=4) (N:=some 56) (v:=?_) (a':=?_) #[true,true,true,true,true,false,true,false,false,false,false,false,false] rfl rfl (take_ofW HT_.out HW_.out (by kernel_rfl)) (fun _ _ _ h => h) (Or.inl ⟨by rfl,?_⟩) hHeld ?_ ?_
              rotate_left
              ·rintro w' ⟨s0,s1,s2⟩
               go_simp
               with_reducible rfl
              rotate_left
              ·simp only [Act.put,List.setIfInBounds_toArray,List.set_cons_zero,List.set_cons_succ,i64_w,i32_w]
               rfl
              refine take_ (i:=7) (N:=some 59) (v:=?_) (a':=?_) #[true,true,true,true,true,false,true,true,false,false,false,false,false] rfl rfl (take_ofW HT_.out HW_.out (by kernel_rfl)) (fun _ _ _ h => h) (Or.inl ⟨by rfl,?_⟩) hHeld ?_ ?_
              rotate_left
              ·rintro w' ⟨s0,s1,s2⟩
               go_simp
               with_reducible rfl
              rotate_left
              ·simp only [Act.put,List.setIfInBounds_toArray,List.set_cons_zero,List.set_cons_succ,i64_w,i32_w]
               rfl
              refine one_ (i:=5) (N:=some 57) #[true,true,true,true,true,true,true,true,false,false,false,false,false] rfl rfl (one_of HT_.out (by kernel_rfl)) (by decide) (fun K hK => ?_)
              refine Kd.R_lit_step (Kd.int .i64) _ 3 ?hg (N:=57) ?hd (xs:=([] : List Int)) (inner:=[]) (ok:=fun _ => True) (okp:=fun _ => True) ?hr ?hp (fun _ hk => hk) trivial (Below.refl _ _) (Nat.le_refl _) (by simp) ?_;(case hd => rfl);(case hg => rfl);(case hr => first | (go_simp;done) | (go_simp;rfl));(case hp => exact (Reps.none _ _))
              intro v237 w25 ho26 hb hg_ hnew_
              clear hg_ hnew_
              (first | rw [← Ny236.out] at ho26 | (simp only [Int.reduceToNat] at ho26;rw [← Ny236.out] at ho26))
              have n0_:=Aside0.mk (Kd.R_elder' (by (with_reducible repeat (first | apply Kd.R_alloc | apply Kd.R_drewN | apply Kd.R_drew));exact HO_5.out) (Kd.R_base ho26) hb)
              have n1_:=Aside0.mk (Kd.S_elder' (by (with_reducible repeat (first | apply Kd.S_alloc | apply Kd.S_drewN | apply Kd.S_drew));exact HO_7.out) (Kd.R_base ho26) hb)
              have n2_:=Aside0.mk (Kd.R_lower (Kd.R_new' ho26 (Kd.R_lt (by (with_reducible repeat (first | apply Kd.R_alloc | apply Kd.R_drewN | apply Kd.R_drew));exact HO_5.out))) (below_size (by repeat (first | (with_reducible first | exact HB.out | apply below_alloc | apply pw_below_drewN | apply below_drew1 | refine below_set ?_ GE232.out) | exact HB.out))))
              have n3_:=Aside0.mk (blk_below (g:=gb232) (o:=.cells #[.int .i64 ((rd_T56 l0 x18_1).f0),.int .i64 ((rd_T56 l0 x18_1).f1),.slice A231_2 ((rd_T56 l0 x18_1).f2).length c231_2] 56 (0,0)) (by (with_reducible repeat (first | refine blk_drewN ?_ _ | refine blk_drew ?_ | refine blk_alloc ?_ _));exact BK232.out) hb)
              have n4_:=Aside0.mk (below_step (by repeat (first | (with_reducible first | exact HB.out | apply below_alloc | apply pw_below_drewN | apply below_drew1 | refine below_set ?_ GE232.out) | exact HB.out)) hb)
              clear HO_5
              clear HO_7
              clear BK232
              clear HB
              have HO_5:=n0_
              have HO_7:=n1_
              have HO238:=n2_
              have BK232:=n3_
              have HB:=n4_
              clear n0_ n1_ n2_ n3_ n4_
              clear hb ho26
              refine hK.out _ _ ⟨(blk_cell BK232.out 0).trans rfl,(blk_cell BK232.out 1).trans rfl,(blk_cell BK232.out 2).trans rfl⟩ (fun hHeld => ?_)
              clear hK K
              refine norm_ (a':=?_) ?_ ?_
              rotate_left
              ·show Act.put _ (some 57) _ = _
               simp only [Act.put,List.setIfInBounds_toArray,List.set_cons_zero,List.set_cons_succ,i64_w,i32_w]
               rfl
              refine one_ (i:=8) (N:=some 60) #[true,true,true,true,true,true,true,true,true,false,false,false,false] rfl rfl (one_of HT_.out (by kernel_rfl)) (by decide) (fun K hK => ?_)
              refine Kd.R_append_rows_step (Kd.int .i64) (w0:=w) w.heap.size (by rfl) (.tmp 57) (.tmp 59) 29 3 (.int .i64 0) 8 rfl Try.underlying29 info3 rfl (by decide) (by omega) v237 y236 ((rd_T56 l0 x18_1).f2) _ _ _ (fun k_ => some k_ ≠ (.slice (some ad234) t227.length co22 : Value).ownBlock) (fun _ => False) rfl rfl ?aO ?aR (fun _ _ h => h) (fun _ h => h.elim) ?aF ?aB ?aS ?aL ?_
              (case aR => repeat (first | exact (Kd.C_below HR231_2.out HB.out) | (with_reducible refine Kd.C_alloc ?_ _) | (with_reducible refine Kd.C_drewN ?_ _) | (with_reducible refine Kd.C_drew ?_)))
              (case aB => exact (by repeat (first | (with_reducible first | exact HB.out | apply below_alloc | apply pw_below_drewN | apply below_drew1 | refine below_set ?_ GE232.out) | exact HB.out)))
              (case aF => exact (fun k_ hk => Kd.fresh' (Kd.R_lt (by (with_reducible repeat (first | apply Kd.R_alloc | apply Kd.R_drewN | apply Kd.R_drew));exact HO_5.out)) k_ hk))
              (case aO => exact (by (with_reducible repeat (first | apply Kd.R_alloc | apply Kd.R_drewN | apply Kd.R_drew));exact Kd.R_mono HO238.out (fun _ hk => hk.2)))
              (case aS => exact (below_size (by repeat (first | (with_reducible first | exact HB.out | apply below_alloc | apply pw_below_drewN | apply below_drew1 | refine below_set ?_ GE232.out) | exact HB.out))))
              (case aL => have:=LMc18.out;omega)
              intro v240 w27 ho hb hg hat
              rw [← Ny239.out] at ho
              have n0_:=Aside0.mk (Kd.R_after (ok:=(fun _ => True)) (by (with_reducible repeat (first | apply Kd.R_alloc | apply Kd.R_drewN | apply Kd.R_drew));exact HO_5.out) hg hat)
              have n1_:=Aside0.mk (Kd.S_after (ok:=(fun k_ => some k_ ≠ (.slice (some ad234) t227.length co22 : Value).ownBlock ∧ k_ ≠ gb232)) (by (with_reducible repeat (first | apply Kd.S_alloc | apply Kd.S_drewN | apply Kd.S_drew));exact HO_7.out) hg hat)
              have n2_:=Aside0.mk (blk_grown (g:=gb232) (o:=.cells #[.int .i64 ((rd_T56 l0 x18_1).f0),.int .i64 ((rd_T56 l0 x18_1).f1),.slice A231_2 ((rd_T56 l0 x18_1).f2).length c231_2] 56 (0,0)) (by (with_reducible repeat (first | refine blk_drewN ?_ _ | refine blk_drew ?_ | refine blk_alloc ?_ _));exact BK232.out) hg (Kd.R_ne HO238.out BK232.out (by decide)))
              have n3_:=Aside0.mk (hb)
              have n4_:=Aside0.mk (ho)
              clear HO_5
              clear HO_7
              clear BK232
              clear HB
              clear HO238
              have HO_5:=n0_
              have HO_7:=n1_
              have BK232:=n2_
              have HB:=n3_
              have HO241:=n4_
              clear n0_ n1_ n2_ n3_ n4_
              clear ho hb hg hat
              obtain ⟨Ao28,co28,eo28⟩:=Kd.R_slice HO241.out
              (first | subst eo28 | (injection eo28 with f1_ f2_ f3_;have f4_:=f1_.symm;have f5_:=f3_.symm;clear f1_ f2_ f3_;subst f4_;subst f5_))
              refine hK.out _ _ ⟨(blk_cell BK232.out 0).trans rfl,(blk_cell BK232.out 1).trans rfl,(blk_cell BK232.out 2).trans rfl⟩ (fun hHeld => ?_)
              clear hK K
              refine norm_ (a':=?_) ?_ ?_
              rotate_left
              ·show Act.put _ (some 60) _ = _
               simp only [Act.put,List.setIfInBounds_toArray,List.set_cons_zero,List.set_cons_succ,i64_w,i32_w]
               rfl
              refine pure_ (i:=9) (N:=some 61) (v:=?_) (a':=?_) #[true,true,true,true,true,true,true,true,true,true,false,false,false] rfl rfl (any_of HT_.out (by kernel_rfl)) (fun _ _ _ h => h) (Or.inl ⟨by rfl,?_⟩) ?_ ?_
              rotate_left
              ·intro w'
               go_simp
               with_reducible rfl
              rotate_left
              ·simp only [Act.put,List.setIfInBounds_toArray,List.set_cons_zero,List.set_cons_succ,i64_w,i32_w]
               rfl
              refine one_ (i:=10) (N:=some 62) #[true,true,true,true,true,true,true,true,true,true,true,false,false] rfl rfl (one_of HT_.out (by kernel_rfl)) (by decide) (fun K hK => ?_)
              refine value_ (w1:=?_) (v:=?_) (by rfl) rfl ?_ ?_
              rotate_left 2
              ·go_simp
               constructor
               ·rfl
               ·rfl
              refine hK.out _ _ ⟨(blk_cell (blk_alloc BK232.out _) 0).trans rfl,(blk_cell (blk_alloc BK232.out _) 1).trans rfl,(blk_cell (blk_alloc BK232.out _) 2).trans rfl⟩ (fun hHeld => ?_)
              clear hK K
              refine norm_ (a':=?_) ?_ ?_
              rotate_left
              ·show Act.put _ (some 62) _ = _
               simp only [Act.put,List.setIfInBounds_toArray,List.set_cons_zero,List.set_cons_succ,i64_w,i32_w]
               rfl
              refine one_ (i:=11) (N:=some 63) #[true,true,true,true,true,true,true,true,true,true,true,true,false] rfl rfl (one_of HT_.out (by kernel_rfl)) (by decide) (fun K hK => ?_)
              refine Kd.S_append_step k56 (w0:=w) w.heap.size (by rfl) (.tmp 52) (.tmp 62) 25 56 (.agg #[(.int .i64 0),(.int .i64 0),(.slice none 0 0)]) 40 rfl Try.underlying25 info56 rfl (by decide) (by omega) u7 x7_1 (⟨(rd_T56 l0 x18_1).f0,(rd_T56 l0 x18_1).f1,y239⟩ : S56) [.int .i64 ((rd_T56 l0 x18_1).f0),.int .i64 ((rd_T56 l0 x18_1).f1),.slice Ao28 y239.length co28] (fun k_ => some k_ ≠ (.slice (some ad234) t227.length co22 : Value).ownBlock ∧ k_ ≠ gb232) (fun k_ => some k_ = (.slice Ao28 y239.length co28 : Value).ownBlock) rfl rfl ?aP (fun k_ hk_ => ((Kd.R_mono (ok':=fun k_ => ((fun k_ => some k_ ≠ (.slice (some ad234) t227.length co22 : Value).ownBlock ∧ k_ ≠ gb232)) k_ ∧ some k_ ≠ (u7 : Value).ownBlock) (Kd.R_types (Kd.R_apart' (HO241.out) (Kd.S_typed HO_7.out) (by decide)) BK232.out (by decide)) (fun k_ hk => ⟨⟨hk.1.1,hk.2⟩,hk.1.2⟩))).1 k_ hk_.symm) ?aF ?aO ?aB ?aS ?aL ?_
              (case aP => exact k56_mkM _ _ _ (⟨(rd_T56 l0 x18_1).f0,(rd_T56 l0 x18_1).f1,y239⟩ : S56) (Kd.R_mono (Kd.R_tight rfl (Kd.R_mono (ok':=fun k_ => ((fun k_ => some k_ ≠ (.slice (some ad234) t227.length co22 : Value).ownBlock ∧ k_ ≠ gb232)) k_ ∧ some k_ ≠ (u7 : Value).ownBlock) (Kd.R_types (Kd.R_apart' (HO241.out) (Kd.S_typed HO_7.out) (by decide)) BK232.out (by decide)) (fun k_ hk => ⟨⟨hk.1.1,hk.2⟩,hk.1.2⟩))) (fun _ h_ => h_)))
              (case aB => exact (by repeat (first | (with_reducible first | exact HB.out | apply below_alloc | apply pw_below_drewN | apply below_drew1 | refine below_set ?_ GE232.out) | exact HB.out)))
              (case aF => exact (fun k_ hk => ⟨Kd.fresh' (Kd.R_lt (by (with_reducible repeat (first | apply Kd.R_alloc | apply Kd.R_drewN | apply Kd.R_drew));exact HO_5.out)) k_ hk,Kd.freshB (g:=gb232) (o:=.cells #[.int .i64 ((rd_T56 l0 x18_1).f0),.int .i64 ((rd_T56 l0 x18_1).f1),.slice A231_2 ((rd_T56 l0 x18_1).f2).length c231_2] 56 (0,0)) (by (with_reducible repeat (first | refine blk_drewN ?_ _ | refine blk_drew ?_ | refine blk_alloc ?_ _));exact BK232.out) k_ hk⟩))
              (case aO => exact (by (with_reducible repeat (first | apply Kd.S_alloc | apply Kd.S_drewN | apply Kd.S_drew));exact Kd.S_mono HO_7.out (fun k_ hk => ⟨⟨hk.1.1,hk.1.2⟩,fun e_ => hk.2 e_⟩)))
              (case aS => exact (below_size (by repeat (first | (with_reducible first | exact HB.out | apply below_alloc | apply pw_below_drewN | apply below_drew1 | refine below_set ?_ GE232.out) | exact HB.out))))
              (case aL => have:=LMc19.out;omega)
              intro v243 w29 ho hb hg hat
              rw [← Ny242.out] at ho
              have n0_:=Aside0.mk (Kd.R_over' (by (with_reducible repeat (first | apply Kd.R_alloc | apply Kd.R_drewN | apply Kd.R_drew));exact HO_5.out) (Kd.S_typed (by (with_reducible repeat (first | apply Kd.S_alloc | apply Kd.S_drewN | apply Kd.S_drew));exact HO_7.out)) (by decide) hg)
              have n1_:=Aside0.mk (blk_grown (g:=gb232) (o:=.cells #[.int .i64 ((rd_T56 l0 x18_1).f0),.int .i64 ((rd_T56 l0 x18_1).f1),.slice A231_2 ((rd_T56 l0 x18_1).f2).length c231_2] 56 (0,0)) (by (with_reducible repeat (first | refine blk_drewN ?_ _ | refine blk_drew ?_ | refine blk_alloc ?_ _));exact BK232.out) hg (Kd.S_away HO_7.out (fun _ hk => hk.1.2)))
              have n2_:=Aside0.mk (hb)
              have n3_:=Aside0.mk (ho)
              clear HO_5
              clear BK232
              clear HB
              clear HO_7
              clear HO241
              have HO_5:=n0_
              have BK232:=n1_
              have HB:=n2_
              have HO244:=n3_
              clear n0_ n1_ n2_ n3_
              clear ho hb hg hat
              refine hK.out _ _ ⟨(blk_cell BK232.out 0).trans rfl,(blk_cell BK232.out 1).trans rfl,(blk_cell BK232.out 2).trans rfl⟩ (fun hHeld => ?_)
              clear hK K
              refine norm_ (a':=?_) ?_ ?_
              rotate_left
              ·show Act.put _ (some 63) _ = _
               simp only [Act.put,List.setIfInBounds_toArray,List.set_cons_zero,List.set_cons_succ,i64_w,i32_w]
               rfl
              refine pure_ (i:=12) (N:=some 7) (v:=?_) (a':=?_) #[true,true,true,true,true,true,true,true,true,true,true,true,true] rfl rfl (any_of HT_.out (by kernel_rfl)) (fun _ _ _ h => h) (Or.inl ⟨by rfl,?_⟩) ?_ ?_
              rotate_left
              ·intro w'
               go_simp
               with_reducible rfl
              rotate_left
              ·simp only [Act.put,List.setIfInBounds_toArray,List.set_cons_zero,List.set_cons_succ,i64_w,i32_w]
               rfl
              refine done_ (done_of HT_.out (by kernel_rfl)) ?_
              try go_wp2
              go_roundg k1
              case measure => have:=HK1.out;omega
              case rel => exact ⟨(y242),(wrap64 (x18_1 + 1)),(by first | rfl | (simp;done) | (simp [*];done)),H',⟨by have:=HK1.out;omega⟩,⟨by (with_reducible repeat (first | apply Kd.R_alloc | apply Kd.R_drewN | apply Kd.R_drew));exact Kd.R_mono HO_5.out (fun _ hk => trivial)⟩,⟨by (with_reducible repeat (first | apply Kd.S_alloc | apply Kd.S_drewN | apply Kd.S_drew));exact Kd.S_mono HO244.out (fun _ hk => hk.1)⟩,⟨by repeat (first | (with_reducible first | exact HB.out | apply below_alloc | apply pw_below_drewN | apply below_drew1 | refine below_set ?_ GE232.out) | exact HB.out)⟩⟩
             ·rw [if_neg c19] at H
              exact absurd H (by simp)
            ·rw [if_neg c18] at H
             exact absurd H (by simp)
          ·rw [if_neg c12] at H
           exact absurd H (by simp)
         ·rw [if_neg c11] at H
          exact absurd H (by simp)
        ·rw [if_neg c10] at H
         exact absurd H (by simp)
       ·rw [if_neg c9] at H
        have c9b0 : (((rd_T56 l0 x18_1).f0) == 19) = false:=beq_eq_false_iff_ne.mpr c9
        have c9b1 : (((rd_T56 l0 x18_1).f0) != 19) = true:=bne_iff_ne.mpr c9
        by_cases c30 : ((rd_T56 l0 x18_1).f0) = 18
        ·rw [if_pos c30] at H
         have c30b0 : (((rd_T56 l0 x18_1).f0) == 18) = true:=beq_iff_eq.mpr c30
         have c30b1 : (((rd_T56 l0 x18_1).f0) != 18) = false:=bne_eq_false_iff_eq.mpr c30
         clear c30
         by_cases c31 : x18_1 < (t227.length : Int)
         ·rw [if_pos c31] at H
          have c31b0 : decide (x18_1 < (t227.length : Int)) = true:=decide_eq_true c31
          clear c31
          by_cases c32 : 0 ≤ (rd t227 x18_1)
          ·rw [if_pos c32] at H
           have c32b0 : decide (0 ≤ (rd t227 x18_1)) = true:=decide_eq_true c32
           clear c32
           by_cases c33 : (rd t227 x18_1) < (t227.length : Int)
           ·rw [if_pos c33] at H
            have c33b0 : decide ((rd t227 x18_1) < (t227.length : Int)) = true:=decide_eq_true c33
            clear c33
            by_cases c34 : 0 ≤ (rd t227 (rd t227 x18_1))
            ·rw [if_pos c34] at H
             have c34b0 : decide (0 ≤ (rd t227 (rd t227 x18_1))) = true:=decide_eq_true c34
             clear c34
             by_cases c35 : (rd t227 (rd t227 x18_1)) < (l1.length : Int)
             ·rw [if_pos c35] at H
              have c35b0 : decide ((rd t227 (rd t227 x18_1)) < (l1.length : Int)) = true:=decide_eq_true c35
              clear c35
              obtain ⟨bq36,hbq36⟩ : ∃ b_ : Bool,b_ = (rdOf false l1 (rd t227 (rd t227 x18_1))):=⟨_,rfl⟩
              replace H : (if (bq36 = true) then (spec_l4Cut.l0 k1 l1 t227 x7_1 l0 (l0.length : Int) (wrap64 (x18_1 + 1))) else ((some (([] : List Int) : List Int)).bind fun y248 => (if y248.length + ((rd_T56 l0 x18_1).f2).length < 17592186044416 then (if x7_1.length < 3518437208883 then (spec_l4Cut.l0 k1 l1 t227 (x7_1 ++ [(⟨(rd_T56 l0 x18_1).f0,(rd_T56 l0 x18_1).f1,(y248 ++ ((rd_T56 l0 x18_1).f2))⟩ : S56)]) l0 (l0.length : Int) (wrap64 (x18_1 + 1))) else (none)) else (none)))) = some r:=by rw [← hbq36] at H;exact H
              have Nbq36:=Aside0.mk hbq36
              clear hbq36
              by_cases c37 : (bq36 = true)
              ·subst c37
               have H1 : (spec_l4Cut.l0 k1 l1 t227 x7_1 l0 (l0.length : Int) (wrap64 (x18_1 + 1))) = some r:=by rw [if_pos rfl] at H;exact H
               clear H
               have H:=H1
               clear H1
               have H':=Aside0.mk H
               clear H
               have p231 : 0 ≤ (x18_1 : Int):=of_decide_eq_true (by first | (with_reducible assumption) | assumption)
               have q231 : x18_1 < (l0.length : Int):=of_decide_eq_true (by first | (with_reducible assumption) | assumption)
               obtain ⟨ad231,A231_2,c231_2,e231,hx231_0,hx231_1,hx231_2,hl231_2,hi231_2⟩:=at_T56 HR0.out x18_1 p231 q231
               cases e231
               replace hx231_0:=(HB.out.cell (World.block_lt_of_cell? w _ hx231_0)).trans hx231_0
               replace hx231_1:=(HB.out.cell (World.block_lt_of_cell? w _ hx231_1)).trans hx231_1
               replace hx231_2:=(HB.out.cell (World.block_lt_of_cell? w _ hx231_2)).trans hx231_2
               have HR231_2:=Aside0.mk hi231_2
               have HC231_2:=Aside0.mk hl231_2
               clear hi231_2 hl231_2
               replace p231:=eq_true p231
               replace q231:=eq_true q231
               go_wp2_with (first | ((with_reducible refine gate_dst (N:=9) rfl ?_);refine box_event ?hg (N:=9) ?hd (cs:=#[.int .i64 0,.int .i64 0,.slice none 0 0]) (t:=56) ?hr ?_;(case hd => rfl);(case hg => rfl);(case hr => first | (go_simp;done) | (go_simp;rfl));intro gb232 hg w38 hbox hb;have n0_:=Aside0.mk (Kd.R_below (by (with_reducible repeat (first | apply Kd.R_alloc | apply Kd.R_drewN | apply Kd.R_drew));exact HO_5.out) hb);have n1_:=Aside0.mk (Kd.S_below (Kd.S_elderB (by (with_reducible repeat (first | apply Kd.S_alloc | apply Kd.S_drewN | apply Kd.S_drew));exact HO_7.out) gb232 (Nat.le_of_eq hg.symm)) hb);have n2_:=Aside0.mk (below_step (by repeat (first | (with_reducible first | exact HB.out | apply below_alloc | apply pw_below_drewN | apply below_drew1) | exact HB.out)) hb);have n3_:=Aside0.mk (hbox);have n4_:=Aside0.mk ((by rw [hg];exact (below_size (by repeat (first | (with_reducible first | exact HB.out | apply below_alloc | apply pw_below_drewN | apply below_drew1) | exact HB.out))) : w.heap.size ≤ gb232));have n5_:=Aside0.mk ((by rw [hg];exact (below_size (by repeat (first | (with_reducible first | exact HB.out | apply below_alloc | apply pw_below_drewN | apply below_drew1) | exact HB.out))) : w.heap.size ≤ gb232));clear HO_5;clear HO_7;clear HB;have HO_5:=n0_;have HO_7:=n1_;have HB:=n2_;have BK232:=n3_;have GW232:=n4_;have GE232:=n5_;clear n0_ n1_ n2_ n3_ n4_ n5_;clear hb hbox hg;have hcz39_0 : w38.cell? ⟨gb232,0,none⟩ = some (.int .i64 0):=(blk_cell BK232.out 0).trans rfl;have hcz39_1 : w38.cell? ⟨gb232,1,none⟩ = some (.int .i64 0):=(blk_cell BK232.out 1).trans rfl;have hcz39_2 : w38.cell? ⟨gb232,2,none⟩ = some (.slice none 0 0):=(blk_cell BK232.out 2).trans rfl;have hfz39_0:=blk_frozen BK232.out 0;have hfz39_1:=blk_frozen BK232.out 1;have hfz39_2:=blk_frozen BK232.out 2;have p233 : 0 ≤ (x18_1 : Int):=of_decide_eq_true (by first | (with_reducible assumption) | assumption);have q233 : x18_1 < (l1.length : Int):=of_decide_eq_true (by first | (with_reducible assumption) | assumption);obtain ⟨ad233,e233,hx233_0⟩:=Kd.at_bool HR1.out x18_1 p233 q233;(try rw [← Nbq36.out] at hx233_0);cases e233;have hn233_0 : ad233.block ≠ gb232:=Nat.ne_of_lt (Nat.lt_of_lt_of_le (by have:=World.block_lt_of_cell? _ _ hx233_0;first | rwa [add_block] at this | exact this) GW232.out);have hn233_1 : ad233.block ≠ gb232:=Nat.ne_of_lt (Nat.lt_of_lt_of_le (by have:=World.block_lt_of_cell? _ _ hx233_0;first | rwa [add_block] at this | exact this) GW232.out);have hn233_2 : ad233.block ≠ gb232:=Nat.ne_of_lt (Nat.lt_of_lt_of_le (by have:=World.block_lt_of_cell? _ _ hx233_0;first | rwa [add_block] at this | exact this) GW232.out);replace hx233_0:=(HB.out.cell (World.block_lt_of_cell? w _ hx233_0)).trans hx233_0;replace hx233_0:=(cell_far (p:=⟨gb232,0,none⟩) (by first | (rw [add_block];exact hn233_0) | (show (Addr.add _ _).block ≠ _;rw [add_block];exact hn233_0) | exact hn233_0) (.int .i64 ((rd_T56 l0 x18_1).f0))).trans hx233_0;replace hx233_0:=(cell_far (p:=⟨gb232,1,none⟩) (by first | (rw [add_block];exact hn233_1) | (show (Addr.add _ _).block ≠ _;rw [add_block];exact hn233_1) | exact hn233_1) (.int .i64 ((rd_T56 l0 x18_1).f1))).trans hx233_0;replace hx233_0:=(cell_far (p:=⟨gb232,2,none⟩) (by first | (rw [add_block];exact hn233_2) | (show (Addr.add _ _).block ≠ _;rw [add_block];exact hn233_2) | exact hn233_2) (.slice A231_2 ((rd_T56 l0 x18_1).f2).length c231_2)).trans hx233_0;clear hn233_0;clear hn233_1;clear hn233_2;replace p233:=eq_true p233;replace q233:=eq_true q233;obtain ⟨Ao40,co40,eo40⟩:=Kd.R_slice HO_5.out;subst eo40;have p245 : 0 ≤ (x18_1 : Int):=of_decide_eq_true (by first | (with_reducible assumption) | assumption);have q245 : x18_1 < (t227.length : Int):=of_decide_eq_true (by first | (with_reducible assumption) | assumption);obtain ⟨ad245,e245,hx245_0⟩:=Kd.at_int (Kd.R_reads' HO_5.out).2.2 x18_1 p245 q245;cases e245;have hn245_0 : ad245.block ≠ gb232:=Kd.own_blk (Kd.R_ne HO_5.out BK232.out (by decide));have hn245_1 : ad245.block ≠ gb232:=Kd.own_blk (Kd.R_ne HO_5.out BK232.out (by decide));have hn245_2 : ad245.block ≠ gb232:=Kd.own_blk (Kd.R_ne HO_5.out BK232.out (by decide));replace hx245_0:=(cell_far (p:=⟨gb232,0,none⟩) (by first | (rw [add_block];exact hn245_0) | (show (Addr.add _ _).block ≠ _;rw [add_block];exact hn245_0) | exact hn245_0) (.int .i64 ((rd_T56 l0 x18_1).f0))).trans hx245_0;replace hx245_0:=(cell_far (p:=⟨gb232,1,none⟩) (by first | (rw [add_block];exact hn245_1) | (show (Addr.add _ _).block ≠ _;rw [add_block];exact hn245_1) | exact hn245_1) (.int .i64 ((rd_T56 l0 x18_1).f1))).trans hx245_0;replace hx245_0:=(cell_far (p:=⟨gb232,2,none⟩) (by first | (rw [add_block];exact hn245_2) | (show (Addr.add _ _).block ≠ _;rw [add_block];exact hn245_2) | exact hn245_2) (.slice A231_2 ((rd_T56 l0 x18_1).f2).length c231_2)).trans hx245_0;clear hn245_0;clear hn245_1;clear hn245_2;replace p245:=eq_true p245;replace q245:=eq_true q245;have p246 : 0 ≤ ((rd t227 x18_1) : Int):=of_decide_eq_true (by first | (with_reducible assumption) | assumption);have q246 : (rd t227 x18_1) < (t227.length : Int):=of_decide_eq_true (by first | (with_reducible assumption) | assumption);obtain ⟨ad246,e246,hx246_0⟩:=Kd.at_int (Kd.R_reads' HO_5.out).2.2 (rd t227 x18_1) p246 q246;obtain rfl : ad245 = ad246:=(by injection e246);have hn246_0 : ad245.block ≠ gb232:=Kd.own_blk (Kd.R_ne HO_5.out BK232.out (by decide));have hn246_1 : ad245.block ≠ gb232:=Kd.own_blk (Kd.R_ne HO_5.out BK232.out (by decide));have hn246_2 : ad245.block ≠ gb232:=Kd.own_blk (Kd.R_ne HO_5.out BK232.out (by decide));replace hx246_0:=(cell_far (p:=⟨gb232,0,none⟩) (by first | (rw [add_block];exact hn246_0) | (show (Addr.add _ _).block ≠ _;rw [add_block];exact hn246_0) | exact hn246_0) (.int .i64 ((rd_T56 l0 x18_1).f0))).trans hx246_0;replace hx246_0:=(cell_far (p:=⟨gb232,1,none⟩) (by first | (rw [add_block];exact hn246_1) | (show (Addr.add _ _).block ≠ _;rw [add_block];exact hn246_1) | exact hn246_1) (.int .i64 ((rd_T56 l0 x18_1).f1))).trans hx246_0;replace hx246_0:=(cell_far (p:=⟨gb232,2,none⟩) (by first | (rw [add_block];exact hn246_2) | (show (Addr.add _ _).block ≠ _;rw [add_block];exact hn246_2) | exact hn246_2) (.slice A231_2 ((rd_T56 l0 x18_1).f2).length c231_2)).trans hx246_0;clear hn246_0;clear hn246_1;clear hn246_2;replace p246:=eq_true p246;replace q246:=eq_true q246;have p247 : 0 ≤ ((rd t227 (rd t227 x18_1)) : Int):=of_decide_eq_true (by first | (with_reducible assumption) | assumption);have q247 : (rd t227 (rd t227 x18_1)) < (l1.length : Int):=of_decide_eq_true (by first | (with_reducible assumption) | assumption);obtain ⟨ad247,e247,hx247_0⟩:=Kd.at_bool HR1.out (rd t227 (rd t227 x18_1)) p247 q247;(try rw [← Nbq36.out] at hx247_0);obtain rfl : ad233 = ad247:=(by injection e247);have hn247_0 : ad233.block ≠ gb232:=Nat.ne_of_lt (Nat.lt_of_lt_of_le (by have:=World.block_lt_of_cell? _ _ hx247_0;first | rwa [add_block] at this | exact this) GW232.out);have hn247_1 : ad233.block ≠ gb232:=Nat.ne_of_lt (Nat.lt_of_lt_of_le (by have:=World.block_lt_of_cell? _ _ hx247_0;first | rwa [add_block] at this | exact this) GW232.out);have hn247_2 : ad233.block ≠ gb232:=Nat.ne_of_lt (Nat.lt_of_lt_of_le (by have:=World.block_lt_of_cell? _ _ hx247_0;first | rwa [add_block] at this | exact this) GW232.out);replace hx247_0:=(HB.out.cell (World.block_lt_of_cell? w _ hx247_0)).trans hx247_0;replace hx247_0:=(cell_far (p:=⟨gb232,0,none⟩) (by first | (rw [add_block];exact hn247_0) | (show (Addr.add _ _).block ≠ _;rw [add_block];exact hn247_0) | exact hn247_0) (.int .i64 ((rd_T56 l0 x18_1).f0))).trans hx247_0;replace hx247_0:=(cell_far (p:=⟨gb232,1,none⟩) (by first | (rw [add_block];exact hn247_1) | (show (Addr.add _ _).block ≠ _;rw [add_block];exact hn247_1) | exact hn247_1) (.int .i64 ((rd_T56 l0 x18_1).f1))).trans hx247_0;replace hx247_0:=(cell_far (p:=⟨gb232,2,none⟩) (by first | (rw [add_block];exact hn247_2) | (show (Addr.add _ _).block ≠ _;rw [add_block];exact hn247_2) | exact hn247_2) (.slice A231_2 ((rd_T56 l0 x18_1).f2).length c231_2)).trans hx247_0;clear hn247_0;clear hn247_1;clear hn247_2;replace p247:=eq_true p247;replace q247:=eq_true q247))
               go_roundg k1
               case measure => have:=HK1.out;omega
               case rel => exact ⟨(x7_1),(wrap64 (x18_1 + 1)),(by first | rfl | (simp;done) | (simp [*];done)),H',⟨by have:=HK1.out;omega⟩,⟨by (with_reducible repeat (first | apply Kd.R_alloc | apply Kd.R_drewN | apply Kd.R_drew));exact Kd.R_mono (Kd.R_far (p:=⟨gb232,2,none⟩) (Kd.R_far (p:=⟨gb232,1,none⟩) (Kd.R_far (p:=⟨gb232,0,none⟩) (Kd.R_types HO_5.out BK232.out (by decide)) (fun _ hk => hk.2) (.int .i64 ((rd_T56 l0 x18_1).f0))) (fun _ hk => hk.2) (.int .i64 ((rd_T56 l0 x18_1).f1))) (fun _ hk => hk.2) (.slice A231_2 ((rd_T56 l0 x18_1).f2).length c231_2)) (fun _ hk => trivial)⟩,⟨by (with_reducible repeat (first | apply Kd.S_alloc | apply Kd.S_drewN | apply Kd.S_drew));exact Kd.S_mono (Kd.S_far (p:=⟨gb232,2,none⟩) (Kd.S_far (p:=⟨gb232,1,none⟩) (Kd.S_far (p:=⟨gb232,0,none⟩) (Kd.S_mono HO_7.out (fun k_ hk => (⟨hk,hk.2⟩ : _ ∧ k_ ≠ gb232))) (fun _ hk => hk.2) (.int .i64 ((rd_T56 l0 x18_1).f0))) (fun _ hk => hk.2) (.int .i64 ((rd_T56 l0 x18_1).f1))) (fun _ hk => hk.2) (.slice A231_2 ((rd_T56 l0 x18_1).f2).length c231_2)) (fun _ hk => hk.1.1)⟩,⟨by repeat (first | (with_reducible first | exact HB.out | apply below_alloc | apply pw_below_drewN | apply below_drew1 | refine below_set ?_ GE232.out) | exact HB.out)⟩⟩
              ·replace c37:=Bool.eq_false_iff.mpr c37
               subst c37
               have H1 : ((some (([] : List Int) : List Int)).bind fun y248 => (if y248.length + ((rd_T56 l0 x18_1).f2).length < 17592186044416 then (if x7_1.length < 3518437208883 then (spec_l4Cut.l0 k1 l1 t227 (x7_1 ++ [(⟨(rd_T56 l0 x18_1).f0,(rd_T56 l0 x18_1).f1,(y248 ++ ((rd_T56 l0 x18_1).f2))⟩ : S56)]) l0 (l0.length : Int) (wrap64 (x18_1 + 1))) else (none)) else (none))) = some r:=by rw [if_neg (show ¬ (false = true) by decide)] at H;exact H
               clear H
               have H:=H1
               clear H1
               obtain ⟨y248,hy248⟩ : ∃ y_ : List Int,y_ = (([] : List Int)):=⟨_,rfl⟩
               replace H : (if y248.length + ((rd_T56 l0 x18_1).f2).length < 17592186044416 then (if x7_1.length < 3518437208883 then (spec_l4Cut.l0 k1 l1 t227 (x7_1 ++ [(⟨(rd_T56 l0 x18_1).f0,(rd_T56 l0 x18_1).f1,(y248 ++ ((rd_T56 l0 x18_1).f2))⟩ : S56)]) l0 (l0.length : Int) (wrap64 (x18_1 + 1))) else (none)) else (none)) = some r:=by first | (rw [hy248];with_reducible exact H) | (have H2_:=(Option.bind_some _ _).symm.trans H;rw [hy248];with_reducible exact H2_) | (have H2_:=(Option.bind_some _ _).symm.trans H;with_reducible exact H2_) | with_reducible exact H | (rw [hy248];exact H) | exact H
               have Ny248:=Aside0.mk hy248
               clear hy248
               by_cases c41 : y248.length + ((rd_T56 l0 x18_1).f2).length < 17592186044416
               ·rw [if_pos c41] at H
                have LMc41:=Aside0.mk c41
                clear c41
                obtain ⟨y251,hy251⟩ : ∃ y_ : List Int,y_ = (y248 ++ ((rd_T56 l0 x18_1).f2)):=⟨_,rfl⟩
                replace H : (if x7_1.length < 3518437208883 then (spec_l4Cut.l0 k1 l1 t227 (x7_1 ++ [(⟨(rd_T56 l0 x18_1).f0,(rd_T56 l0 x18_1).f1,y251⟩ : S56)]) l0 (l0.length : Int) (wrap64 (x18_1 + 1))) else (none)) = some r:=by first | (rw [hy251];with_reducible exact H) | (have H2_:=(Option.bind_some _ _).symm.trans H;rw [hy251];with_reducible exact H2_) | (have H2_:=(Option.bind_some _ _).symm.trans H;with_reducible exact H2_) | with_reducible exact H | (rw [hy251];exact H) | exact H
                have Ny251:=Aside0.mk hy251
                clear hy251
                by_cases c42 : x7_1.length < 3518437208883
                ·rw [if_pos c42] at H
                 have LMc42:=Aside0.mk c42
                 clear c42
                 obtain ⟨y254,hy254⟩ : ∃ y_ : List (S56),y_ = (x7_1 ++ [(⟨(rd_T56 l0 x18_1).f0,(rd_T56 l0 x18_1).f1,y251⟩ : S56)]):=⟨_,rfl⟩
                 replace H : (spec_l4Cut.l0 k1 l1 t227 y254 l0 (l0.length : Int) (wrap64 (x18_1 + 1))) = some r:=by first | (rw [hy254];with_reducible exact H) | (have H2_:=(Option.bind_some _ _).symm.trans H;rw [hy254];with_reducible exact H2_) | (have H2_:=(Option.bind_some _ _).symm.trans H;with_reducible exact H2_) | with_reducible exact H | (rw [hy254];exact H) | exact H
                 have Ny254:=Aside0.mk hy254
                 clear hy254
                 have H':=Aside0.mk H
                 clear H
                 have p231 : 0 ≤ (x18_1 : Int):=of_decide_eq_true (by first | (with_reducible assumption) | assumption)
                 have q231 : x18_1 < (l0.length : Int):=of_decide_eq_true (by first | (with_reducible assumption) | assumption)
                 obtain ⟨ad231,A231_2,c231_2,e231,hx231_0,hx231_1,hx231_2,hl231_2,hi231_2⟩:=at_T56 HR0.out x18_1 p231 q231
                 cases e231
                 replace hx231_0:=(HB.out.cell (World.block_lt_of_cell? w _ hx231_0)).trans hx231_0
                 replace hx231_1:=(HB.out.cell (World.block_lt_of_cell? w _ hx231_1)).trans hx231_1
                 replace hx231_2:=(HB.out.cell (World.block_lt_of_cell? w _ hx231_2)).trans hx231_2
                 have HR231_2:=Aside0.mk hi231_2
                 have HC231_2:=Aside0.mk hl231_2
                 clear hi231_2 hl231_2
                 replace p231:=eq_true p231
                 replace q231:=eq_true q231
                 try go_wp2_with (first | ((with_reducible refine gate_dst (N:=9) rfl ?_);refine box_event ?hg (N:=9) ?hd (cs:=#[.int .i64 0,.int .i64 0,.slice none 0 0]) (t:=56) ?hr ?_;(case hd => rfl);(case hg => rfl);(case hr => first | (go_simp;done) | (go_simp;rfl));intro gb232 hg w43 hbox hb;have n0_:=Aside0.mk (Kd.R_below (by (with_reducible repeat (first | apply Kd.R_alloc | apply Kd.R_drewN | apply Kd.R_drew));exact HO_5.out) hb);have n1_:=Aside0.mk (Kd.S_below (Kd.S_elderB (by (with_reducible repeat (first | apply Kd.S_alloc | apply Kd.S_drewN | apply Kd.S_drew));exact HO_7.out) gb232 (Nat.le_of_eq hg.symm)) hb);have n2_:=Aside0.mk (below_step (by repeat (first | (with_reducible first | exact HB.out | apply below_alloc | apply pw_below_drewN | apply below_drew1) | exact HB.out)) hb);have n3_:=Aside0.mk (hbox);have n4_:=Aside0.mk ((by rw [hg];exact (below_size (by repeat (first | (with_reducible first | exact HB.out | apply below_alloc | apply pw_below_drewN | apply below_drew1) | exact HB.out))) : w.heap.size ≤ gb232));have n5_:=Aside0.mk ((by rw [hg];exact (below_size (by repeat (first | (with_reducible first | exact HB.out | apply below_alloc | apply pw_below_drewN | apply below_drew1) | exact HB.out))) : w.heap.size ≤ gb232));clear HO_5;clear HO_7;clear HB;have HO_5:=n0_;have HO_7:=n1_;have HB:=n2_;have BK232:=n3_;have GW232:=n4_;have GE232:=n5_;clear n0_ n1_ n2_ n3_ n4_ n5_;clear hb hbox hg;have hcz44_0 : w43.cell? ⟨gb232,0,none⟩ = some (.int .i64 0):=(blk_cell BK232.out 0).trans rfl;have hcz44_1 : w43.cell? ⟨gb232,1,none⟩ = some (.int .i64 0):=(blk_cell BK232.out 1).trans rfl;have hcz44_2 : w43.cell? ⟨gb232,2,none⟩ = some (.slice none 0 0):=(blk_cell BK232.out 2).trans rfl;have hfz44_0:=blk_frozen BK232.out 0;have hfz44_1:=blk_frozen BK232.out 1;have hfz44_2:=blk_frozen BK232.out 2;have p233 : 0 ≤ (x18_1 : Int):=of_decide_eq_true (by first | (with_reducible assumption) | assumption);have q233 : x18_1 < (l1.length : Int):=of_decide_eq_true (by first | (with_reducible assumption) | assumption);obtain ⟨ad233,e233,hx233_0⟩:=Kd.at_bool HR1.out x18_1 p233 q233;(try rw [← Nbq36.out] at hx233_0);cases e233;have hn233_0 : ad233.block ≠ gb232:=Nat.ne_of_lt (Nat.lt_of_lt_of_le (by have:=World.block_lt_of_cell? _ _ hx233_0;first | rwa [add_block] at this | exact this) GW232.out);have hn233_1 : ad233.block ≠ gb232:=Nat.ne_of_lt (Nat.lt_of_lt_of_le (by have:=World.block_lt_of_cell? _ _ hx233_0;first | rwa [add_block] at this | exact this) GW232.out);have hn233_2 : ad233.block ≠ gb232:=Nat.ne_of_lt (Nat.lt_of_lt_of_le (by have:=World.block_lt_of_cell? _ _ hx233_0;first | rwa [add_block] at this | exact this) GW232.out);replace hx233_0:=(HB.out.cell (World.block_lt_of_cell? w _ hx233_0)).trans hx233_0;replace hx233_0:=(cell_far (p:=⟨gb232,0,none⟩) (by first | (rw [add_block];exact hn233_0) | (show (Addr.add _ _).block ≠ _;rw [add_block];exact hn233_0) | exact hn233_0) (.int .i64 ((rd_T56 l0 x18_1).f0))).trans hx233_0;replace hx233_0:=(cell_far (p:=⟨gb232,1,none⟩) (by first | (rw [add_block];exact hn233_1) | (show (Addr.add _ _).block ≠ _;rw [add_block];exact hn233_1) | exact hn233_1) (.int .i64 ((rd_T56 l0 x18_1).f1))).trans hx233_0;replace hx233_0:=(cell_far (p:=⟨gb232,2,none⟩) (by first | (rw [add_block];exact hn233_2) | (show (Addr.add _ _).block ≠ _;rw [add_block];exact hn233_2) | exact hn233_2) (.slice A231_2 ((rd_T56 l0 x18_1).f2).length c231_2)).trans hx233_0;clear hn233_0;clear hn233_1;clear hn233_2;replace p233:=eq_true p233;replace q233:=eq_true q233;obtain ⟨Ao45,co45,eo45⟩:=Kd.R_slice HO_5.out;subst eo45;have p245 : 0 ≤ (x18_1 : Int):=of_decide_eq_true (by first | (with_reducible assumption) | assumption);have q245 : x18_1 < (t227.length : Int):=of_decide_eq_true (by first | (with_reducible assumption) | assumption);obtain ⟨ad245,e245,hx245_0⟩:=Kd.at_int (Kd.R_reads' HO_5.out).2.2 x18_1 p245 q245;cases e245;have hn245_0 : ad245.block ≠ gb232:=Kd.own_blk (Kd.R_ne HO_5.out BK232.out (by decide));have hn245_1 : ad245.block ≠ gb232:=Kd.own_blk (Kd.R_ne HO_5.out BK232.out (by decide));have hn245_2 : ad245.block ≠ gb232:=Kd.own_blk (Kd.R_ne HO_5.out BK232.out (by decide));replace hx245_0:=(cell_far (p:=⟨gb232,0,none⟩) (by first | (rw [add_block];exact hn245_0) | (show (Addr.add _ _).block ≠ _;rw [add_block];exact hn245_0) | exact hn245_0) (.int .i64 ((rd_T56 l0 x18_1).f0))).trans hx245_0;replace hx245_0:=(cell_far (p:=⟨gb232,1,none⟩) (by first | (rw [add_block];exact hn245_1) | (show (Addr.add _ _).block ≠ _;rw [add_block];exact hn245_1) | exact hn245_1) (.int .i64 ((rd_T56 l0 x18_1).f1))).trans hx245_0;replace hx245_0:=(cell_far (p:=⟨gb232,2,none⟩) (by first | (rw [add_block];exact hn245_2) | (show (Addr.add _ _).block ≠ _;rw [add_block];exact hn245_2) | exact hn245_2) (.slice A231_2 ((rd_T56 l0 x18_1).f2).length c231_2)).trans hx245_0;clear hn245_0;clear hn245_1;clear hn245_2;replace p245:=eq_true p245;replace q245:=eq_true q245;have p246 : 0 ≤ ((rd t227 x18_1) : Int):=of_decide_eq_true (by first | (with_reducible assumption) | assumption);have q246 : (rd t227 x18_1) < (t227.length : Int):=of_decide_eq_true (by first | (with_reducible assumption) | assumption);obtain ⟨ad246,e246,hx246_0⟩:=Kd.at_int (Kd.R_reads' HO_5.out).2.2 (rd t227 x18_1) p246 q246;obtain rfl : ad245 = ad246:=(by injection e246);have hn246_0 : ad245.block ≠ gb232:=Kd.own_blk (Kd.R_ne HO_5.out BK232.out (by decide));have hn246_1 : ad245.block ≠ gb232:=Kd.own_blk (Kd.R_ne HO_5.out BK232.out (by decide));have hn246_2 : ad245.block ≠ gb232:=Kd.own_blk (Kd.R_ne HO_5.out BK232.out (by decide));replace hx246_0:=(cell_far (p:=⟨gb232,0,none⟩) (by first | (rw [add_block];exact hn246_0) | (show (Addr.add _ _).block ≠ _;rw [add_block];exact hn246_0) | exact hn246_0) (.int .i64 ((rd_T56 l0 x18_1).f0))).trans hx246_0;replace hx246_0:=(cell_far (p:=⟨gb232,1,none⟩) (by first | (rw [add_block];exact hn246_1) | (show (Addr.add _ _).block ≠ _;rw [add_block];exact hn246_1) | exact hn246_1) (.int .i64 ((rd_T56 l0 x18_1).f1))).trans hx246_0;replace hx246_0:=(cell_far (p:=⟨gb232,2,none⟩) (by first | (rw [add_block];exact hn246_2) | (show (Addr.add _ _).block ≠ _;rw [add_block];exact hn246_2) | exact hn246_2) (.slice A231_2 ((rd_T56 l0 x18_1).f2).length c231_2)).trans hx246_0;clear hn246_0;clear hn246_1;clear hn246_2;replace p246:=eq_true p246;replace q246:=eq_true q246;have p247 : 0 ≤ ((rd t227 (rd t227 x18_1)) : Int):=of_decide_eq_true (by first | (with_reducible assumption) | assumption);have q247 : (rd t227 (rd t227 x18_1)) < (l1.length : Int):=of_decide_eq_true (by first | (with_reducible assumption) | assumption);obtain ⟨ad247,e247,hx247_0⟩:=Kd.at_bool HR1.out (rd t227 (rd t227 x18_1)) p247 q247;(try rw [← Nbq36.out] at hx247_0);obtain rfl : ad233 = ad247:=(by injection e247);have hn247_0 : ad233.block ≠ gb232:=Nat.ne_of_lt (Nat.lt_of_lt_of_le (by have:=World.block_lt_of_cell? _ _ hx247_0;first | rwa [add_block] at this | exact this) GW232.out);have hn247_1 : ad233.block ≠ gb232:=Nat.ne_of_lt (Nat.lt_of_lt_of_le (by have:=World.block_lt_of_cell? _ _ hx247_0;first | rwa [add_block] at this | exact this) GW232.out);have hn247_2 : ad233.block ≠ gb232:=Nat.ne_of_lt (Nat.lt_of_lt_of_le (by have:=World.block_lt_of_cell? _ _ hx247_0;first | rwa [add_block] at this | exact this) GW232.out);replace hx247_0:=(HB.out.cell (World.block_lt_of_cell? w _ hx247_0)).trans hx247_0;replace hx247_0:=(cell_far (p:=⟨gb232,0,none⟩) (by first | (rw [add_block];exact hn247_0) | (show (Addr.add _ _).block ≠ _;rw [add_block];exact hn247_0) | exact hn247_0) (.int .i64 ((rd_T56 l0 x18_1).f0))).trans hx247_0;replace hx247_0:=(cell_far (p:=⟨gb232,1,none⟩) (by first | (rw [add_block];exact hn247_1) | (show (Addr.add _ _).block ≠ _;rw [add_block];exact hn247_1) | exact hn247_1) (.int .i64 ((rd_T56 l0 x18_1).f1))).trans hx247_0;replace hx247_0:=(cell_far (p:=⟨gb232,2,none⟩) (by first | (rw [add_block];exact hn247_2) | (show (Addr.add _ _).block ≠ _;rw [add_block];exact hn247_2) | exact hn247_2) (.slice A231_2 ((rd_T56 l0 x18_1).f2).length c231_2)).trans hx247_0;clear hn247_0;clear hn247_1;clear hn247_2;replace p247:=eq_true p247;replace q247:=eq_true q247))
                 have n0_ : Aside0 (Kd.R (Kd.int .i64) 3 (((w43.setCell ⟨gb232,0,none⟩ (.int .i64 ((rd_T56 l0 x18_1).f0))).setCell ⟨gb232,1,none⟩ (.int .i64 ((rd_T56 l0 x18_1).f1))).setCell ⟨gb232,2,none⟩ (.slice A231_2 ((rd_T56 l0 x18_1).f2).length c231_2)) w.heap.size (fun _ => True) (.slice (some ad245) t227.length co45) t227):=⟨by (with_reducible repeat (first | apply Kd.R_alloc | apply Kd.R_drewN | apply Kd.R_drew));exact Kd.R_mono (Kd.R_far (p:=⟨gb232,2,none⟩) (Kd.R_far (p:=⟨gb232,1,none⟩) (Kd.R_far (p:=⟨gb232,0,none⟩) (Kd.R_types HO_5.out BK232.out (by decide)) (fun _ hk => hk.2) (.int .i64 ((rd_T56 l0 x18_1).f0))) (fun _ hk => hk.2) (.int .i64 ((rd_T56 l0 x18_1).f1))) (fun _ hk => hk.2) (.slice A231_2 ((rd_T56 l0 x18_1).f2).length c231_2)) (fun _ hk => trivial)⟩
                 have n1_ : Aside0 (Kd.S k56 56 (((w43.setCell ⟨gb232,0,none⟩ (.int .i64 ((rd_T56 l0 x18_1).f0))).setCell ⟨gb232,1,none⟩ (.int .i64 ((rd_T56 l0 x18_1).f1))).setCell ⟨gb232,2,none⟩ (.slice A231_2 ((rd_T56 l0 x18_1).f2).length c231_2)) w.heap.size (fun k_ => some k_ ≠ (.slice (some ad245) t227.length co45 : Value).ownBlock ∧ k_ ≠ gb232) u7 x7_1):=⟨by (with_reducible repeat (first | apply Kd.S_alloc | apply Kd.S_drewN | apply Kd.S_drew));exact Kd.S_mono (Kd.S_far (p:=⟨gb232,2,none⟩) (Kd.S_far (p:=⟨gb232,1,none⟩) (Kd.S_far (p:=⟨gb232,0,none⟩) (Kd.S_mono HO_7.out (fun k_ hk => (⟨hk,hk.2⟩ : _ ∧ k_ ≠ gb232))) (fun _ hk => hk.2) (.int .i64 ((rd_T56 l0 x18_1).f0))) (fun _ hk => hk.2) (.int .i64 ((rd_T56 l0 x18_1).f1))) (fun _ hk => hk.2) (.slice A231_2 ((rd_T56 l0 x18_1).f2).length c231_2)) (fun _ hk => ⟨hk.1.1,hk.1.2⟩)⟩
                 have n2_ : Aside0 ((((w43.setCell ⟨gb232,0,none⟩ (.int .i64 ((rd_T56 l0 x18_1).f0))).setCell ⟨gb232,1,none⟩ (.int .i64 ((rd_T56 l0 x18_1).f1))).setCell ⟨gb232,2,none⟩ (.slice A231_2 ((rd_T56 l0 x18_1).f2).length c231_2)).heap[gb232]? = some (.cells #[.int .i64 ((rd_T56 l0 x18_1).f0),.int .i64 ((rd_T56 l0 x18_1).f1),.slice A231_2 ((rd_T56 l0 x18_1).f2).length c231_2] 56 (0,0))):=⟨by (with_reducible repeat (first | refine blk_drewN ?_ _ | refine blk_drew ?_ | refine blk_alloc ?_ _));refine blk_put (cs:=#[.int .i64 ((rd_T56 l0 x18_1).f0),.int .i64 ((rd_T56 l0 x18_1).f1),.slice none 0 0]) ?_ 2 _ rfl;(with_reducible repeat (first | refine blk_drewN ?_ _ | refine blk_drew ?_ | refine blk_alloc ?_ _));refine blk_put (cs:=#[.int .i64 ((rd_T56 l0 x18_1).f0),.int .i64 0,.slice none 0 0]) ?_ 1 _ rfl;(with_reducible repeat (first | refine blk_drewN ?_ _ | refine blk_drew ?_ | refine blk_alloc ?_ _));refine blk_put (cs:=#[.int .i64 0,.int .i64 0,.slice none 0 0]) ?_ 0 _ rfl;(with_reducible repeat (first | refine blk_drewN ?_ _ | refine blk_drew ?_ | refine blk_alloc ?_ _));exact BK232.out⟩
                 have n3_ : Aside0 (Below w.heap.size w (((w43.setCell ⟨gb232,0,none⟩ (.int .i64 ((rd_T56 l0 x18_1).f0))).setCell ⟨gb232,1,none⟩ (.int .i64 ((rd_T56 l0 x18_1).f1))).setCell ⟨gb232,2,none⟩ (.slice A231_2 ((rd_T56 l0 x18_1).f2).length c231_2))):=⟨by repeat (first | (with_reducible first | exact HB.out | apply below_alloc | apply pw_below_drewN | apply below_drew1 | refine below_set ?_ GE232.out) | exact HB.out)⟩
                 (try clear HO_5)
                 (try clear HO_7)
                 (try clear BK232)
                 (try clear HB)
                 generalize (((w43.setCell ⟨gb232,0,none⟩ (.int .i64 ((rd_T56 l0 x18_1).f0))).setCell ⟨gb232,1,none⟩ (.int .i64 ((rd_T56 l0 x18_1).f1))).setCell ⟨gb232,2,none⟩ (.slice A231_2 ((rd_T56 l0 x18_1).f2).length c231_2)) = w46 at n0_ n1_ n2_ n3_ ⊢
                 have HO_5:=n0_
                 have HO_7:=n1_
                 have BK232:=n2_
                 have HB:=n3_
                 clear n0_ n1_ n2_ n3_
                 have n0_:=Aside0.mk (Kd.R_drew HO_5.out)
                 have n1_:=Aside0.mk (Kd.S_drew HO_7.out)
                 have n2_:=Aside0.mk (blk_drew BK232.out)
                 have n3_:=Aside0.mk (below_drew1 HB.out)
                 clear HO_5
                 clear HO_7
                 clear BK232
                 clear HB
                 have HO_5:=n0_
                 have HO_7:=n1_
                 have BK232:=n2_
                 have HB:=n3_
                 clear n0_ n1_ n2_ n3_
                 refine start_ (n:=13) (S:=fun w' => w'.cell? ⟨gb232,0,none⟩ = some (.int .i64 ((rd_T56 l0 x18_1).f0)) ∧ w'.cell? ⟨gb232,1,none⟩ = some (.int .i64 ((rd_T56 l0 x18_1).f1)) ∧ w'.cell? ⟨gb232,2,none⟩ = some (.slice A231_2 ((rd_T56 l0 x18_1).f2).length c231_2)) (ds:=[]) #[false,false,false,false,false,false,false,false,false,false,false,false,false] (by kernel_rfl) rfl rfl ⟨(blk_cell BK232.out 0).trans rfl,(blk_cell BK232.out 1).trans rfl,(blk_cell BK232.out 2).trans rfl⟩ (fun hHeld => ?_);refine with_tabW spec_l4Cut.tab13 spec_l4Cut.bits13 (fun HT_ HW_ => ?_)
                 generalize w46.drew = w47 at HO_5 HO_7 BK232 HB hHeld ⊢
                 refine pure_ (i:=0) (N:=some 52) (v:=?_) (a':=?_) #[true,false,false,false,false,false,false,false,false,false,false,false,false] rfl rfl (any_of HT_.out (by kernel_rfl)) (fun _ _ _ h => h) (Or.inl ⟨by rfl,?_⟩) ?_ ?_
                 rotate_left
                 ·intro w'
                  go_simp
                  with_reducible rfl
                 rotate_left
                 ·simp only [Act.put,List.setIfInBounds_toArray,List.set_cons_zero,List.set_cons_succ,i64_w,i32_w]
                  rfl
                 refine pure_ (i:=1) (N:=some 53) (v:=?_) (a':=?_) #[true,true,false,false,false,false,false,false,false,false,false,false,false] rfl rfl (any_of HT_.out (by kernel_rfl)) (fun _ _ _ h => h) (Or.inl ⟨by rfl,?_⟩) ?_ ?_
                 rotate_left
                 ·intro w'
                  go_simp
                  with_reducible rfl
                 rotate_left
                 ·simp only [Act.put,List.setIfInBounds_toArray,List.set_cons_zero,List.set_cons_succ,i64_w,i32_w]
                  rfl
                 refine pure_ (i:=3) (N:=some 55) (v:=?_) (a':=?_) #[true,true,false,true,false,false,false,false,false,false,false,false,false] rfl rfl (any_of HT_.out (by kernel_rfl)) (fun _ _ _ h => h) (Or.inl ⟨by rfl,?_⟩) ?_ ?_
                 rotate_left
                 ·intro w'
                  go_simp
                  with_reducible rfl
                 rotate_left
                 ·simp only [Act.put,List.setIfInBounds_toArray,List.set_cons_zero,List.set_cons_succ,i64_w,i32_w]
                  rfl
                 refine pure_ (i:=6) (N:=some 58) (v:=?_) (a':=?_) #[true,true,false,true,false,false,true,false,false,false,false,false,false] rfl rfl (any_of HT_.out (by kernel_rfl)) (fun _ _ _ h => h) (Or.inl ⟨by rfl,?_⟩) ?_ ?_
                 rotate_left
                 ·intro w'
                  go_simp
                  with_reducible rfl
                 rotate_left
                 ·simp only [Act.put,List.setIfInBounds_toArray,List.set_cons_zero,List.set_cons_succ,i64_w,i32_w]
                  rfl
                 refine take_ (i:=2) (N:=some 54) (v:=?_) (a':=?_) #[true,true,true,true,false,false,true,false,false,false,false,false,false] rfl rfl (take_ofW HT_.out HW_.out (by kernel_rfl)) (fun _ _ _ h => h) (Or.inl ⟨by rfl,?_⟩) hHeld ?_ ?_
                 rotate_left
                 ·rintro w' ⟨s0,s1,s2⟩
                  go_simp
                  with_reducible rfl
                 rotate_left
                 ·simp only [Act.put,List.setIfInBounds_toArray,List.set_cons_zero,List.set_cons_succ,i64_w,i32_w]
                  rfl
                 refine take_ (i:=4) (N:=some 56) (v:=?_) (a':=?_) #[true,true,true,true,true,false,true,false,false,false,false,false,false] rfl rfl (take_ofW HT_.out HW_.out (by kernel_rfl)) (fun _ _ _ h => h) (Or.inl ⟨by rfl,?_⟩) hHeld ?_ ?_
                 rotate_left
                 ·rintro w' ⟨s0,s1,s2⟩
                  go_simp
                  with_reducible rfl
                 rotate_left
                 ·simp only [Act.put,List.setIfInBounds_toArray,List.set_cons_zero,List.set_cons_succ,i64_w,i32_w]
                  rfl
                 refine take_ (i:=7) (N:=some 59) (v:=?_) (a':=?_) #[true,true,true,true,true,false,true,true,false,false,false,false,false] rfl rfl (take_ofW HT_.out HW_.out (by kernel_rfl)) (fun _ _ _ h => h) (Or.inl ⟨by rfl,?_⟩) hHeld ?_ ?_
                 rotate_left
                 ·rintro w' ⟨s0,s1,s2⟩
                  go_simp
                  with_reducible rfl
                 rotate_left
                 ·simp only [Act.put,List.setIfInBounds_toArray,List.set_cons_zero,List.set_cons_succ,i64_w,i32_w]
                  rfl
                 refine one_ (i:=5) (N:=some 57) #[true,true,true,true,true,true,true,true,false,false,false,false,false] rfl rfl (one_of HT_.out (by kernel_rfl)) (by decide) (fun K hK => ?_)
                 refine Kd.R_lit_step (Kd.int .i64) _ 3 ?hg (N:=57) ?hd (xs:=([] : List Int)) (inner:=[]) (ok:=fun _ => True) (okp:=fun _ => True) ?hr ?hp (fun _ hk => hk) trivial (Below.refl _ _) (Nat.le_refl _) (by simp) ?_;(case hd => rfl);(case hg => rfl);(case hr => first | (go_simp;done) | (go_simp;rfl));(case hp => exact (Reps.none _ _))
                 intro v249 w48 ho49 hb hg_ hnew_
                 clear hg_ hnew_
                 (first | rw [← Ny248.out] at ho49 | (simp only [Int.reduceToNat] at ho49;rw [← Ny248.out] at ho49))
                 have n0_:=Aside0.mk (Kd.R_elder' (by (with_reducible repeat (first | apply Kd.R_alloc | apply Kd.R_drewN | apply Kd.R_drew));exact HO_5.out) (Kd.R_base ho49) hb)
                 have n1_:=Aside0.mk (Kd.S_elder' (by (with_reducible repeat (first | apply Kd.S_alloc | apply Kd.S_drewN | apply Kd.S_drew));exact HO_7.out) (Kd.R_base ho49) hb)
                 have n2_:=Aside0.mk (Kd.R_lower (Kd.R_new' ho49 (Kd.R_lt (by (with_reducible repeat (first | apply Kd.R_alloc | apply Kd.R_drewN | apply Kd.R_drew));exact HO_5.out))) (below_size (by repeat (first | (with_reducible first | exact HB.out | apply below_alloc | apply pw_below_drewN | apply below_drew1 | refine below_set ?_ GE232.out) | exact HB.out))))
                 have n3_:=Aside0.mk (blk_below (g:=gb232) (o:=.cells #[.int .i64 ((rd_T56 l0 x18_1).f0),.int .i64 ((rd_T56 l0 x18_1).f1),.slice A231_2 ((rd_T56 l0 x18_1).f2).length c231_2] 56 (0,0)) (by (with_reducible repeat (first | refine blk_drewN ?_ _ | refine blk_drew ?_ | refine blk_alloc ?_ _));exact BK232.out) hb)
                 have n4_:=Aside0.mk (below_step (by repeat (first | (with_reducible first | exact HB.out | apply below_alloc | apply pw_below_drewN | apply below_drew1 | refine below_set ?_ GE232.out) | exact HB.out)) hb)
                 clear HO_5
                 clear HO_7
                 clear BK232
                 clear HB
                 have HO_5:=n0_
                 have HO_7:=n1_
                 have HO250:=n2_
                 have BK232:=n3_
                 have HB:=n4_
                 clear n0_ n1_ n2_ n3_ n4_
                 clear hb ho49
                 refine hK.out _ _ ⟨(blk_cell BK232.out 0).trans rfl,(blk_cell BK232.out 1).trans rfl,(blk_cell BK232.out 2).trans rfl⟩ (fun hHeld => ?_)
                 clear hK K
                 refine norm_ (a':=?_) ?_ ?_
                 rotate_left
                 ·show Act.put _ (some 57) _ = _
                  simp only [Act.put,List.setIfInBounds_toArray,List.set_cons_zero,List.set_cons_succ,i64_w,i32_w]
                  rfl
                 refine one_ (i:=8) (N:=some 60) #[true,true,true,true,true,true,true,true,true,false,false,false,false] rfl rfl (one_of HT_.out (by kernel_rfl)) (by decide) (fun K hK => ?_)
                 refine Kd.R_append_rows_step (Kd.int .i64) (w0:=w) w.heap.size (by rfl) (.tmp 57) (.tmp 59) 29 3 (.int .i64 0) 8 rfl Try.underlying29 info3 rfl (by decide) (by omega) v249 y248 ((rd_T56 l0 x18_1).f2) _ _ _ (fun k_ => some k_ ≠ (.slice (some ad245) t227.length co45 : Value).ownBlock) (fun _ => False) rfl rfl ?aO ?aR (fun _ _ h => h) (fun _ h => h.elim) ?aF ?aB ?aS ?aL ?_
                 (case aR => repeat (first | exact (Kd.C_below HR231_2.out HB.out) | (with_reducible refine Kd.C_alloc ?_ _) | (with_reducible refine Kd.C_drewN ?_ _) | (with_reducible refine Kd.C_drew ?_)))
                 (case aB => exact (by repeat (first | (with_reducible first | exact HB.out | apply below_alloc | apply pw_below_drewN | apply below_drew1 | refine below_set ?_ GE232.out) | exact HB.out)))
                 (case aF => exact (fun k_ hk => Kd.fresh' (Kd.R_lt (by (with_reducible repeat (first | apply Kd.R_alloc | apply Kd.R_drewN | apply Kd.R_drew));exact HO_5.out)) k_ hk))
                 (case aO => exact (by (with_reducible repeat (first | apply Kd.R_alloc | apply Kd.R_drewN | apply Kd.R_drew));exact Kd.R_mono HO250.out (fun _ hk => hk.2)))
                 (case aS => exact (below_size (by repeat (first | (with_reducible first | exact HB.out | apply below_alloc | apply pw_below_drewN | apply below_drew1 | refine below_set ?_ GE232.out) | exact HB.out))))
                 (case aL => have:=LMc41.out;omega)
                 intro v252 w50 ho hb hg hat
                 rw [← Ny251.out] at ho
                 have n0_:=Aside0.mk (Kd.R_after (ok:=(fun _ => True)) (by (with_reducible repeat (first | apply Kd.R_alloc | apply Kd.R_drewN | apply Kd.R_drew));exact HO_5.out) hg hat)
                 have n1_:=Aside0.mk (Kd.S_after (ok:=(fun k_ => some k_ ≠ (.slice (some ad245) t227.length co45 : Value).ownBlock ∧ k_ ≠ gb232)) (by (with_reducible repeat (first | apply Kd.S_alloc | apply Kd.S_drewN | apply Kd.S_drew));exact HO_7.out) hg hat)
                 have n2_:=Aside0.mk (blk_grown (g:=gb232) (o:=.cells #[.int .i64 ((rd_T56 l0 x18_1).f0),.int .i64 ((rd_T56 l0 x18_1).f1),.slice A231_2 ((rd_T56 l0 x18_1).f2).length c231_2] 56 (0,0)) (by (with_reducible repeat (first | refine blk_drewN ?_ _ | refine blk_drew ?_ | refine blk_alloc ?_ _));exact BK232.out) hg (Kd.R_ne HO250.out BK232.out (by decide)))
                 have n3_:=Aside0.mk (hb)
                 have n4_:=Aside0.mk (ho)
                 clear HO_5
                 clear HO_7
                 clear BK232
                 clear HB
                 clear HO250
                 have HO_5:=n0_
                 have HO_7:=n1_
                 have BK232:=n2_
                 have HB:=n3_
                 have HO253:=n4_
                 clear n0_ n1_ n2_ n3_ n4_
                 clear ho hb hg hat
                 obtain ⟨Ao51,co51,eo51⟩:=Kd.R_slice HO253.out
                 (first | subst eo51 | (injection eo51 with f1_ f2_ f3_;have f4_:=f1_.symm;have f5_:=f3_.symm;clear f1_ f2_ f3_;subst f4_;subst f5_))
                 refine hK.out _ _ ⟨(blk_cell BK232.out 0).trans rfl,(blk_cell BK232.out 1).trans rfl,(blk_cell BK232.out 2).trans rfl⟩ (fun hHeld => ?_)
                 clear hK K
                 refine norm_ (a':=?_) ?_ ?_
                 rotate_left
                 ·show Act.put _ (some 60) _ = _
                  simp only [Act.put,List.setIfInBounds_toArray,List.set_cons_zero,List.set_cons_succ,i64_w,i32_w]
                  rfl
                 refine pure_ (i:=9) (N:=some 61) (v:=?_) (a':=?_) #[true,true,true,true,true,true,true,true,true,true,false,false,false] rfl rfl (any_of HT_.out (by kernel_rfl)) (fun _ _ _ h => h) (Or.inl ⟨by rfl,?_⟩) ?_ ?_
                 rotate_left
                 ·intro w'
                  go_simp
                  with_reducible rfl
                 rotate_left
                 ·simp only [Act.put,List.setIfInBounds_toArray,List.set_cons_zero,List.set_cons_succ,i64_w,i32_w]
                  rfl
                 refine one_ (i:=10) (N:=some 62) #[true,true,true,true,true,true,true,true,true,true,true,false,false] rfl rfl (one_of HT_.out (by kernel_rfl)) (by decide) (fun K hK => ?_)
                 refine value_ (w1:=?_) (v:=?_) (by rfl) rfl ?_ ?_
                 rotate_left 2
                 ·go_simp
                  constructor
                  ·rfl
                  ·rfl
                 refine hK.out _ _ ⟨(blk_cell (blk_alloc BK232.out _) 0).trans rfl,(blk_cell (blk_alloc BK232.out _) 1).trans rfl,(blk_cell (blk_alloc BK232.out _) 2).trans rfl⟩ (fun hHeld => ?_)
                 clear hK K
                 refine norm_ (a':=?_) ?_ ?_
                 rotate_left
                 ·show Act.put _ (some 62) _ = _
                  simp only [Act.put,List.setIfInBounds_toArray,List.set_cons_zero,List.set_cons_succ,i64_w,i32_w]
                  rfl
                 refine one_ (i:=11) (N:=some 63) #[true,true,true,true,true,true,true,true,true,true,true,true,false] rfl rfl (one_of HT_.out (by kernel_rfl)) (by decide) (fun K hK => ?_)
                 refine Kd.S_append_step k56 (w0:=w) w.heap.size (by rfl) (.tmp 52) (.tmp 62) 25 56 (.agg #[(.int .i64 0),(.int .i64 0),(.slice none 0 0)]) 40 rfl Try.underlying25 info56 rfl (by decide) (by omega) u7 x7_1 (⟨(rd_T56 l0 x18_1).f0,(rd_T56 l0 x18_1).f1,y251⟩ : S56) [.int .i64 ((rd_T56 l0 x18_1).f0),.int .i64 ((rd_T56 l0 x18_1).f1),.slice Ao51 y251.length co51] (fun k_ => some k_ ≠ (.slice (some ad245) t227.length co45 : Value).ownBlock ∧ k_ ≠ gb232) (fun k_ => some k_ = (.slice Ao51 y251.length co51 : Value).ownBlock) rfl rfl ?aP (fun k_ hk_ => ((Kd.R_mono (ok':=fun k_ => ((fun k_ => some k_ ≠ (.slice (some ad245) t227.length co45 : Value).ownBlock ∧ k_ ≠ gb232)) k_ ∧ some k_ ≠ (u7 : Value).ownBlock) (Kd.R_types (Kd.R_apart' (HO253.out) (Kd.S_typed HO_7.out) (by decide)) BK232.out (by decide)) (fun k_ hk => ⟨⟨hk.1.1,hk.2⟩,hk.1.2⟩))).1 k_ hk_.symm) ?aF ?aO ?aB ?aS ?aL ?_
                 (case aP => exact k56_mkM _ _ _ (⟨(rd_T56 l0 x18_1).f0,(rd_T56 l0 x18_1).f1,y251⟩ : S56) (Kd.R_mono (Kd.R_tight rfl (Kd.R_mono (ok':=fun k_ => ((fun k_ => some k_ ≠ (.slice (some ad245) t227.length co45 : Value).ownBlock ∧ k_ ≠ gb232)) k_ ∧ some k_ ≠ (u7 : Value).ownBlock) (Kd.R_types (Kd.R_apart' (HO253.out) (Kd.S_typed HO_7.out) (by decide)) BK232.out (by decide)) (fun k_ hk => ⟨⟨hk.1.1,hk.2⟩,hk.1.2⟩))) (fun _ h_ => h_)))
                 (case aB => exact (by repeat (first | (with_reducible first | exact HB.out | apply below_alloc | apply pw_below_drewN | apply below_drew1 | refine below_set ?_ GE232.out) | exact HB.out)))
                 (case aF => exact (fun k_ hk => ⟨Kd.fresh' (Kd.R_lt (by (with_reducible repeat (first | apply Kd.R_alloc | apply Kd.R_drewN | apply Kd.R_drew));exact HO_5.out)) k_ hk,Kd.freshB (g:=gb232) (o:=.cells #[.int .i64 ((rd_T56 l0 x18_1).f0),.int .i64 ((rd_T56 l0 x18_1).f1),.slice A231_2 ((rd_T56 l0 x18_1).f2).length c231_2] 56 (0,0)) (by (with_reducible repeat (first | refine blk_drewN ?_ _ | refine blk_drew ?_ | refine blk_alloc ?_ _));exact BK232.out) k_ hk⟩))
                 (case aO => exact (by (with_reducible repeat (first | apply Kd.S_alloc | apply Kd.S_drewN | apply Kd.S_drew));exact Kd.S_mono HO_7.out (fun k_ hk => ⟨⟨hk.1.1,hk.1.2⟩,fun e_ => hk.2 e_⟩)))
                 (case aS => exact (below_size (by repeat (first | (with_reducible first | exact HB.out | apply below_alloc | apply pw_below_drewN | apply below_drew1 | refine below_set ?_ GE232.out) | exact HB.out))))
                 (case aL => have:=LMc42.out;omega)
                 intro v255 w52 ho hb hg hat
                 rw [← Ny254.out] at ho
                 have n0_:=Aside0.mk (Kd.R_over' (by (with_reducible repeat (first | apply Kd.R_alloc | apply Kd.R_drewN | apply Kd.R_drew));exact HO_5.out) (Kd.S_typed (by (with_reducible repeat (first | apply Kd.S_alloc | apply Kd.S_drewN | apply Kd.S_drew));exact HO_7.out)) (by decide) hg)
                 have n1_:=Aside0.mk (blk_grown (g:=gb232) (o:=.cells #[.int .i64 ((rd_T56 l0 x18_1).f0),.int .i64 ((rd_T56 l0 x18_1).f1),.slice A231_2 ((rd_T56 l0 x18_1).f2).length c231_2] 56 (0,0)) (by (with_reducible repeat (first | refine blk_drewN ?_ _ | refine blk_drew ?_ | refine blk_alloc ?_ _));exact BK232.out) hg (Kd.S_away HO_7.out (fun _ hk => hk.1.2)))
                 have n2_:=Aside0.mk (hb)
                 have n3_:=Aside0.mk (ho)
                 clear HO_5
                 clear BK232
                 clear HB
                 clear HO_7
                 clear HO253
                 have HO_5:=n0_
                 have BK232:=n1_
                 have HB:=n2_
                 have HO256:=n3_
                 clear n0_ n1_ n2_ n3_
                 clear ho hb hg hat
                 refine hK.out _ _ ⟨(blk_cell BK232.out 0).trans rfl,(blk_cell BK232.out 1).trans rfl,(blk_cell BK232.out 2).trans rfl⟩ (fun hHeld => ?_)
                 clear hK K
                 refine norm_ (a':=?_) ?_ ?_
                 rotate_left
                 ·show Act.put _ (some 63) _ = _
                  simp only [Act.put,List.setIfInBounds_toArray,List.set_cons_zero,List.set_cons_succ,i64_w,i32_w]
                  rfl
                 refine pure_ (i:=12) (N:=some 7) (v:=?_) (a':=?_) #[true,true,true,true,true,true,true,true,true,true,true,true,true] rfl rfl (any_of HT_.out (by kernel_rfl)) (fun _ _ _ h => h) (Or.inl ⟨by rfl,?_⟩) ?_ ?_
                 rotate_left
                 ·intro w'
                  go_simp
                  with_reducible rfl
                 rotate_left
                 ·simp only [Act.put,List.setIfInBounds_toArray,List.set_cons_zero,List.set_cons_succ,i64_w,i32_w]
                  rfl
                 refine done_ (done_of HT_.out (by kernel_rfl)) ?_
                 try go_wp2
                 go_roundg k1
                 case measure => have:=HK1.out;omega
                 case rel => exact ⟨(y254),(wrap64 (x18_1 + 1)),(by first | rfl | (simp;done) | (simp [*];done)),H',⟨by have:=HK1.out;omega⟩,⟨by (with_reducible repeat (first | apply Kd.R_alloc | apply Kd.R_drewN | apply Kd.R_drew));exact Kd.R_mono HO_5.out (fun _ hk => trivial)⟩,⟨by (with_reducible repeat (first | apply Kd.S_alloc | apply Kd.S_drewN | apply Kd.S_drew));exact Kd.S_mono HO256.out (fun _ hk => hk.1)⟩,⟨by repeat (first | (with_reducible first | exact HB.out | apply below_alloc | apply pw_below_drewN | apply below_drew1 | refine below_set ?_ GE232.out) | exact HB.out)⟩⟩
                ·rw [if_neg c42] at H
                 exact absurd H (by simp)
               ·rw [if_neg c41] at H
                exact absurd H (by simp)
             ·rw [if_neg c35] at H
              exact absurd H (by simp)
            ·rw [if_neg c34] at H
             exact absurd H (by simp)
           ·rw [if_neg c33] at H
            exact absurd H (by simp)
          ·rw [if_neg c32] at H
           exact absurd H (by simp)
         ·rw [if_neg c31] at H
          exact absurd H (by simp)
        ·rw [if_neg c30] at H
         have c30b0 : (((rd_T56 l0 x18_1).f0) == 18) = false:=beq_eq_false_iff_ne.mpr c30
         have c30b1 : (((rd_T56 l0 x18_1).f0) != 18) = true:=bne_iff_ne.mpr c30
         obtain ⟨bq53,hbq53⟩ : ∃ b_ : Bool,b_ = (rdOf false l1 x18_1):=⟨_,rfl⟩
         replace H : (if bq53 = true then (spec_l4Cut.l0 k1 l1 t227 x7_1 l0 (l0.length : Int) (wrap64 (x18_1 + 1))) else ((some (([] : List Int) : List Int)).bind fun y257 => (if y257.length + ((rd_T56 l0 x18_1).f2).length < 17592186044416 then (if x7_1.length < 3518437208883 then (spec_l4Cut.l0 k1 l1 t227 (x7_1 ++ [(⟨(rd_T56 l0 x18_1).f0,(rd_T56 l0 x18_1).f1,(y257 ++ ((rd_T56 l0 x18_1).f2))⟩ : S56)]) l0 (l0.length : Int) (wrap64 (x18_1 + 1))) else (none)) else (none)))) = some r:=by rw [← hbq53] at H;exact H
         have Nbq53:=Aside0.mk hbq53
         clear hbq53
         by_cases c54 : bq53 = true
         ·subst c54
          have H1 : (spec_l4Cut.l0 k1 l1 t227 x7_1 l0 (l0.length : Int) (wrap64 (x18_1 + 1))) = some r:=by rw [if_pos rfl] at H;exact H
          clear H
          have H:=H1
          clear H1
          have H':=Aside0.mk H
          clear H
          have p231 : 0 ≤ (x18_1 : Int):=of_decide_eq_true (by first | (with_reducible assumption) | assumption)
          have q231 : x18_1 < (l0.length : Int):=of_decide_eq_true (by first | (with_reducible assumption) | assumption)
          obtain ⟨ad231,A231_2,c231_2,e231,hx231_0,hx231_1,hx231_2,hl231_2,hi231_2⟩:=at_T56 HR0.out x18_1 p231 q231
          cases e231
          replace hx231_0:=(HB.out.cell (World.block_lt_of_cell? w _ hx231_0)).trans hx231_0
          replace hx231_1:=(HB.out.cell (World.block_lt_of_cell? w _ hx231_1)).trans hx231_1
          replace hx231_2:=(HB.out.cell (World.block_lt_of_cell? w _ hx231_2)).trans hx231_2
          have HR231_2:=Aside0.mk hi231_2
          have HC231_2:=Aside0.mk hl231_2
          clear hi231_2 hl231_2
          replace p231:=eq_true p231
          replace q231:=eq_true q231
          go_wp2_with (first | ((with_reducible refine gate_dst (N:=9) rfl ?_);refine box_event ?hg (N:=9) ?hd (cs:=#[.int .i64 0,.int .i64 0,.slice none 0 0]) (t:=56) ?hr ?_;(case hd => rfl);(case hg => rfl);(case hr => first | (go_simp;done) | (go_simp;rfl));intro gb232 hg w55 hbox hb;have n0_:=Aside0.mk (Kd.R_below (by (with_reducible repeat (first | apply Kd.R_alloc | apply Kd.R_drewN | apply Kd.R_drew));exact HO_5.out) hb);have n1_:=Aside0.mk (Kd.S_below (Kd.S_elderB (by (with_reducible repeat (first | apply Kd.S_alloc | apply Kd.S_drewN | apply Kd.S_drew));exact HO_7.out) gb232 (Nat.le_of_eq hg.symm)) hb);have n2_:=Aside0.mk (below_step (by repeat (first | (with_reducible first | exact HB.out | apply below_alloc | apply pw_below_drewN | apply below_drew1) | exact HB.out)) hb);have n3_:=Aside0.mk (hbox);have n4_:=Aside0.mk ((by rw [hg];exact (below_size (by repeat (first | (with_reducible first | exact HB.out | apply below_alloc | apply pw_below_drewN | apply below_drew1) | exact HB.out))) : w.heap.size ≤ gb232));have n5_:=Aside0.mk ((by rw [hg];exact (below_size (by repeat (first | (with_reducible first | exact HB.out | apply below_alloc | apply pw_below_drewN | apply below_drew1) | exact HB.out))) : w.heap.size ≤ gb232));clear HO_5;clear HO_7;clear HB;have HO_5:=n0_;have HO_7:=n1_;have HB:=n2_;have BK232:=n3_;have GW232:=n4_;have GE232:=n5_;clear n0_ n1_ n2_ n3_ n4_ n5_;clear hb hbox hg;have hcz56_0 : w55.cell? ⟨gb232,0,none⟩ = some (.int .i64 0):=(blk_cell BK232.out 0).trans rfl;have hcz56_1 : w55.cell? ⟨gb232,1,none⟩ = some (.int .i64 0):=(blk_cell BK232.out 1).trans rfl;have hcz56_2 : w55.cell? ⟨gb232,2,none⟩ = some (.slice none 0 0):=(blk_cell BK232.out 2).trans rfl;have hfz56_0:=blk_frozen BK232.out 0;have hfz56_1:=blk_frozen BK232.out 1;have hfz56_2:=blk_frozen BK232.out 2;have p233 : 0 ≤ (x18_1 : Int):=of_decide_eq_true (by first | (with_reducible assumption) | assumption);have q233 : x18_1 < (l1.length : Int):=of_decide_eq_true (by first | (with_reducible assumption) | assumption);obtain ⟨ad233,e233,hx233_0⟩:=Kd.at_bool HR1.out x18_1 p233 q233;(try rw [← Nbq53.out] at hx233_0);cases e233;have hn233_0 : ad233.block ≠ gb232:=Nat.ne_of_lt (Nat.lt_of_lt_of_le (by have:=World.block_lt_of_cell? _ _ hx233_0;first | rwa [add_block] at this | exact this) GW232.out);have hn233_1 : ad233.block ≠ gb232:=Nat.ne_of_lt (Nat.lt_of_lt_of_le (by have:=World.block_lt_of_cell? _ _ hx233_0;first | rwa [add_block] at this | exact this) GW232.out);have hn233_2 : ad233.block ≠ gb232:=Nat.ne_of_lt (Nat.lt_of_lt_of_le (by have:=World.block_lt_of_cell? _ _ hx233_0;first | rwa [add_block] at this | exact this) GW232.out);replace hx233_0:=(HB.out.cell (World.block_lt_of_cell? w _ hx233_0)).trans hx233_0;replace hx233_0:=(cell_far (p:=⟨gb232,0,none⟩) (by first | (rw [add_block];exact hn233_0) | (show (Addr.add _ _).block ≠ _;rw [add_block];exact hn233_0) | exact hn233_0) (.int .i64 ((rd_T56 l0 x18_1).f0))).trans hx233_0;replace hx233_0:=(cell_far (p:=⟨gb232,1,none⟩) (by first | (rw [add_block];exact hn233_1) | (show (Addr.add _ _).block ≠ _;rw [add_block];exact hn233_1) | exact hn233_1) (.int .i64 ((rd_T56 l0 x18_1).f1))).trans hx233_0;replace hx233_0:=(cell_far (p:=⟨gb232,2,none⟩) (by first | (rw [add_block];exact hn233_2) | (show (Addr.add _ _).block ≠ _;rw [add_block];exact hn233_2) | exact hn233_2) (.slice A231_2 ((rd_T56 l0 x18_1).f2).length c231_2)).trans hx233_0;clear hn233_0;clear hn233_1;clear hn233_2;replace p233:=eq_true p233;replace q233:=eq_true q233))
          go_roundg k1
          case measure => have:=HK1.out;omega
          case rel => exact ⟨(x7_1),(wrap64 (x18_1 + 1)),(by first | rfl | (simp;done) | (simp [*];done)),H',⟨by have:=HK1.out;omega⟩,⟨by (with_reducible repeat (first | apply Kd.R_alloc | apply Kd.R_drewN | apply Kd.R_drew));exact Kd.R_mono (Kd.R_far (p:=⟨gb232,2,none⟩) (Kd.R_far (p:=⟨gb232,1,none⟩) (Kd.R_far (p:=⟨gb232,0,none⟩) (Kd.R_types HO_5.out BK232.out (by decide)) (fun _ hk => hk.2) (.int .i64 ((rd_T56 l0 x18_1).f0))) (fun _ hk => hk.2) (.int .i64 ((rd_T56 l0 x18_1).f1))) (fun _ hk => hk.2) (.slice A231_2 ((rd_T56 l0 x18_1).f2).length c231_2)) (fun _ hk => trivial)⟩,⟨by (with_reducible repeat (first | apply Kd.S_alloc | apply Kd.S_drewN | apply Kd.S_drew));exact Kd.S_mono (Kd.S_far (p:=⟨gb232,2,none⟩) (Kd.S_far (p:=⟨gb232,1,none⟩) (Kd.S_far (p:=⟨gb232,0,none⟩) (Kd.S_mono HO_7.out (fun k_ hk => (⟨hk,hk.2⟩ : _ ∧ k_ ≠ gb232))) (fun _ hk => hk.2) (.int .i64 ((rd_T56 l0 x18_1).f0))) (fun _ hk => hk.2) (.int .i64 ((rd_T56 l0 x18_1).f1))) (fun _ hk => hk.2) (.slice A231_2 ((rd_T56 l0 x18_1).f2).length c231_2)) (fun _ hk => hk.1.1)⟩,⟨by repeat (first | (with_reducible first | exact HB.out | apply below_alloc | apply pw_below_drewN | apply below_drew1 | refine below_set ?_ GE232.out) | exact HB.out)⟩⟩
         ·replace c54:=Bool.eq_false_iff.mpr c54
          subst c54
          have H1 : ((some (([] : List Int) : List Int)).bind fun y257 => (if y257.length + ((rd_T56 l0 x18_1).f2).length < 17592186044416 then (if x7_1.length < 3518437208883 then (spec_l4Cut.l0 k1 l1 t227 (x7_1 ++ [(⟨(rd_T56 l0 x18_1).f0,(rd_T56 l0 x18_1).f1,(y257 ++ ((rd_T56 l0 x18_1).f2))⟩ : S56)]) l0 (l0.length : Int) (wrap64 (x18_1 + 1))) else (none)) else (none))) = some r:=by rw [if_neg (show ¬ (false = true) by decide)] at H;exact H
          clear H
          have H:=H1
          clear H1
          obtain ⟨y257,hy257⟩ : ∃ y_ : List Int,y_ = (([] : List Int)):=⟨_,rfl⟩
          replace H : (if y257.length + ((rd_T56 l0 x18_1).f2).length < 17592186044416 then (if x7_1.length < 3518437208883 then (spec_l4Cut.l0 k1 l1 t227 (x7_1 ++ [(⟨(rd_T56 l0 x18_1).f0,(rd_T56 l0 x18_1).f1,(y257 ++ ((rd_T56 l0 x18_1).f2))⟩ : S56)]) l0 (l0.length : Int) (wrap64 (x18_1 + 1))) else (none)) else (none)) = some r:=by first | (rw [hy257];with_reducible exact H) | (have H2_:=(Option.bind_some _ _).symm.trans H;rw [hy257];with_reducible exact H2_) | (have H2_:=(Option.bind_some _ _).symm.trans H;with_reducible exact H2_) | with_reducible exact H | (rw [hy257];exact H) | exact H
          have Ny257:=Aside0.mk hy257
          clear hy257
          by_cases c57 : y257.length + ((rd_T56 l0 x18_1).f2).length < 17592186044416
          ·rw [if_pos c57] at H
           have LMc57:=Aside0.mk c57
           clear c57
           obtain ⟨y260,hy260⟩ : ∃ y_ : List Int,y_ = (y257 ++ ((rd_T56 l0 x18_1).f2)):=⟨_,rfl⟩
           replace H : (if x7_1.length < 3518437208883 then (spec_l4Cut.l0 k1 l1 t227 (x7_1 ++ [(⟨(rd_T56 l0 x18_1).f0,(rd_T56 l0 x18_1).f1,y260⟩ : S56)]) l0 (l0.length : Int) (wrap64 (x18_1 + 1))) else (none)) = some r:=by first | (rw [hy260];with_reducible exact H) | (have H2_:=(Option.bind_some _ _).symm.trans H;rw [hy260];with_reducible exact H2_) | (have H2_:=(Option.bind_some _ _).symm.trans H;with_reducible exact H2_) | with_reducible exact H | (rw [hy260];exact H) | exact H
           have Ny260:=Aside0.mk hy260
           clear hy260
           by_cases c58 : x7_1.length < 3518437208883
           ·rw [if_pos c58] at H
            have LMc58:=Aside0.mk c58
            clear c58
            obtain ⟨y263,hy263⟩ : ∃ y_ : List (S56),y_ = (x7_1 ++ [(⟨(rd_T56 l0 x18_1).f0,(rd_T56 l0 x18_1).f1,y260⟩ : S56)]):=⟨_,rfl⟩
            replace H : (spec_l4Cut.l0 k1 l1 t227 y263 l0 (l0.length : Int) (wrap64 (x18_1 + 1))) = some r:=by first | (rw [hy263];with_reducible exact H) | (have H2_:=(Option.bind_some _ _).symm.trans H;rw [hy263];with_reducible exact H2_) | (have H2_:=(Option.bind_some _ _).symm.trans H;with_reducible exact H2_) | with_reducible exact H | (rw [hy263];exact H) | exact H
            have Ny263:=Aside0.mk hy263
            clear hy263
            have H':=Aside0.mk H
            clear H
            have p231 : 0 ≤ (x18_1 : Int):=of_decide_eq_true (by first | (with_reducible assumption) | assumption)
            have q231 : x18_1 < (l0.length : Int):=of_decide_eq_true (by first | (with_reducible assumption) | assumption)
            obtain ⟨ad231,A231_2,c231_2,e231,hx231_0,hx231_1,hx231_2,hl231_2,hi231_2⟩:=at_T56 HR0.out x18_1 p231 q231
            cases e231
            replace hx231_0:=(HB.out.cell (World.block_lt_of_cell? w _ hx231_0)).trans hx231_0
            replace hx231_1:=(HB.out.cell (World.block_lt_of_cell? w _ hx231_1)).trans hx231_1
            replace hx231_2:=(HB.out.cell (World.block_lt_of_cell? w _ hx231_2)).trans hx231_2
            have HR231_2:=Aside0.mk hi231_2
            have HC231_2:=Aside0.mk hl231_2
            clear hi231_2 hl231_2
            replace p231:=eq_true p231
            replace q231:=eq_true q231
            try go_wp2_with (first | ((with_reducible refine gate_dst (N:=9) rfl ?_);refine box_event ?hg (N:=9) ?hd (cs:=#[.int .i64 0,.int .i64 0,.slice none 0 0]) (t:=56) ?hr ?_;(case hd => rfl);(case hg => rfl);(case hr => first | (go_simp;done) | (go_simp;rfl));intro gb232 hg w59 hbox hb;have n0_:=Aside0.mk (Kd.R_below (by (with_reducible repeat (first | apply Kd.R_alloc | apply Kd.R_drewN | apply Kd.R_drew));exact HO_5.out) hb);have n1_:=Aside0.mk (Kd.S_below (Kd.S_elderB (by (with_reducible repeat (first | apply Kd.S_alloc | apply Kd.S_drewN | apply Kd.S_drew));exact HO_7.out) gb232 (Nat.le_of_eq hg.symm)) hb);have n2_:=Aside0.mk (below_step (by repeat (first | (with_reducible first | exact HB.out | apply below_alloc | apply pw_below_drewN | apply below_drew1) | exact HB.out)) hb);have n3_:=Aside0.mk (hbox);have n4_:=Aside0.mk ((by rw [hg];exact (below_size (by repeat (first | (with_reducible first | exact HB.out | apply below_alloc | apply pw_below_drewN | apply below_drew1) | exact HB.out))) : w.heap.size ≤ gb232));have n5_:=Aside0.mk ((by rw [hg];exact (below_size (by repeat (first | (with_reducible first | exact HB.out | apply below_alloc | apply pw_below_drewN | apply below_drew1) | exact HB.out))) : w.heap.size ≤ gb232));clear HO_5;clear HO_7;clear HB;have HO_5:=n0_;have HO_7:=n1_;have HB:=n2_;have BK232:=n3_;have GW232:=n4_;have GE232:=n5_;clear n0_ n1_ n2_ n3_ n4_ n5_;clear hb hbox hg;have hcz60_0 : w59.cell? ⟨gb232,0,none⟩ = some (.int .i64 0):=(blk_cell BK232.out 0).trans rfl;have hcz60_1 : w59.cell? ⟨gb232,1,none⟩ = some (.int .i64 0):=(blk_cell BK232.out 1).trans rfl;have hcz60_2 : w59.cell? ⟨gb232,2,none⟩ = some (.slice none 0 0):=(blk_cell BK232.out 2).trans rfl;have hfz60_0:=blk_frozen BK232.out 0;have hfz60_1:=blk_frozen BK232.out 1;have hfz60_2:=blk_frozen BK232.out 2;have p233 : 0 ≤ (x18_1 : Int):=of_decide_eq_true (by first | (with_reducible assumption) | assumption);have q233 : x18_1 < (l1.length : Int):=of_decide_eq_true (by first | (with_reducible assumption) | assumption);obtain ⟨ad233,e233,hx233_0⟩:=Kd.at_bool HR1.out x18_1 p233 q233;(try rw [← Nbq53.out] at hx233_0);cases e233;have hn233_0 : ad233.block ≠ gb232:=Nat.ne_of_lt (Nat.lt_of_lt_of_le (by have:=World.block_lt_of_cell? _ _ hx233_0;first | rwa [add_block] at this | exact this) GW232.out);have hn233_1 : ad233.block ≠ gb232:=Nat.ne_of_lt (Nat.lt_of_lt_of_le (by have:=World.block_lt_of_cell? _ _ hx233_0;first | rwa [add_block] at this | exact this) GW232.out);have hn233_2 : ad233.block ≠ gb232:=Nat.ne_of_lt (Nat.lt_of_lt_of_le (by have:=World.block_lt_of_cell? _ _ hx233_0;first | rwa [add_block] at this | exact this) GW232.out);replace hx233_0:=(HB.out.cell (World.block_lt_of_cell? w _ hx233_0)).trans hx233_0;replace hx233_0:=(cell_far (p:=⟨gb232,0,none⟩) (by first | (rw [add_block];exact hn233_0) | (show (Addr.add _ _).block ≠ _;rw [add_block];exact hn233_0) | exact hn233_0) (.int .i64 ((rd_T56 l0 x18_1).f0))).trans hx233_0;replace hx233_0:=(cell_far (p:=⟨gb232,1,none⟩) (by first | (rw [add_block];exact hn233_1) | (show (Addr.add _ _).block ≠ _;rw [add_block];exact hn233_1) | exact hn233_1) (.int .i64 ((rd_T56 l0 x18_1).f1))).trans hx233_0;replace hx233_0:=(cell_far (p:=⟨gb232,2,none⟩) (by first | (rw [add_block];exact hn233_2) | (show (Addr.add _ _).block ≠ _;rw [add_block];exact hn233_2) | exact hn233_2) (.slice A231_2 ((rd_T56 l0 x18_1).f2).length c231_2)).trans hx233_0;clear hn233_0;clear hn233_1;clear hn233_2;replace p233:=eq_true p233;replace q233:=eq_true q233))
            have n0_ : Aside0 (Kd.R (Kd.int .i64) 3 (((w59.setCell ⟨gb232,0,none⟩ (.int .i64 ((rd_T56 l0 x18_1).f0))).setCell ⟨gb232,1,none⟩ (.int .i64 ((rd_T56 l0 x18_1).f1))).setCell ⟨gb232,2,none⟩ (.slice A231_2 ((rd_T56 l0 x18_1).f2).length c231_2)) w.heap.size (fun _ => True) v229 t227):=⟨by (with_reducible repeat (first | apply Kd.R_alloc | apply Kd.R_drewN | apply Kd.R_drew));exact Kd.R_mono (Kd.R_far (p:=⟨gb232,2,none⟩) (Kd.R_far (p:=⟨gb232,1,none⟩) (Kd.R_far (p:=⟨gb232,0,none⟩) (Kd.R_types HO_5.out BK232.out (by decide)) (fun _ hk => hk.2) (.int .i64 ((rd_T56 l0 x18_1).f0))) (fun _ hk => hk.2) (.int .i64 ((rd_T56 l0 x18_1).f1))) (fun _ hk => hk.2) (.slice A231_2 ((rd_T56 l0 x18_1).f2).length c231_2)) (fun _ hk => trivial)⟩
            have n1_ : Aside0 (Kd.S k56 56 (((w59.setCell ⟨gb232,0,none⟩ (.int .i64 ((rd_T56 l0 x18_1).f0))).setCell ⟨gb232,1,none⟩ (.int .i64 ((rd_T56 l0 x18_1).f1))).setCell ⟨gb232,2,none⟩ (.slice A231_2 ((rd_T56 l0 x18_1).f2).length c231_2)) w.heap.size (fun k_ => some k_ ≠ (v229 : Value).ownBlock ∧ k_ ≠ gb232) u7 x7_1):=⟨by (with_reducible repeat (first | apply Kd.S_alloc | apply Kd.S_drewN | apply Kd.S_drew));exact Kd.S_mono (Kd.S_far (p:=⟨gb232,2,none⟩) (Kd.S_far (p:=⟨gb232,1,none⟩) (Kd.S_far (p:=⟨gb232,0,none⟩) (Kd.S_mono HO_7.out (fun k_ hk => (⟨hk,hk.2⟩ : _ ∧ k_ ≠ gb232))) (fun _ hk => hk.2) (.int .i64 ((rd_T56 l0 x18_1).f0))) (fun _ hk => hk.2) (.int .i64 ((rd_T56 l0 x18_1).f1))) (fun _ hk => hk.2) (.slice A231_2 ((rd_T56 l0 x18_1).f2).length c231_2)) (fun _ hk => ⟨hk.1.1,hk.1.2⟩)⟩
            have n2_ : Aside0 ((((w59.setCell ⟨gb232,0,none⟩ (.int .i64 ((rd_T56 l0 x18_1).f0))).setCell ⟨gb232,1,none⟩ (.int .i64 ((rd_T56 l0 x18_1).f1))).setCell ⟨gb232,2,none⟩ (.slice A231_2 ((rd_T56 l0 x18_1).f2).length c231_2)).heap[gb232]? = some (.cells #[.int .i64 ((rd_T56 l0 x18_1).f0),.int .i64 ((rd_T56 l0 x18_1).f1),.slice A231_2 ((rd_T56 l0 x18_1).f2).length c231_2] 56 (0,0))):=⟨by (with_reducible repeat (first | refine blk_drewN ?_ _ | refine blk_drew ?_ | refine blk_alloc ?_ _));refine blk_put (cs:=#[.int .i64 ((rd_T56 l0 x18_1).f0),.int .i64 ((rd_T56 l0 x18_1).f1),.slice none 0 0]) ?_ 2 _ rfl;(with_reducible repeat (first | refine blk_drewN ?_ _ | refine blk_drew ?_ | refine blk_alloc ?_ _));refine blk_put (cs:=#[.int .i64 ((rd_T56 l0 x18_1).f0),.int .i64 0,.slice none 0 0]) ?_ 1 _ rfl;(with_reducible repeat (first | refine blk_drewN ?_ _ | refine blk_drew ?_ | refine blk_alloc ?_ _));refine blk_put (cs:=#[.int .i64 0,.int .i64 0,.slice none 0 0]) ?_ 0 _ rfl;(with_reducible repeat (first | refine blk_drewN ?_ _ | refine blk_drew ?_ | refine blk_alloc ?_ _));exact BK232.out⟩
            have n3_ : Aside0 (Below w.heap.size w (((w59.setCell ⟨gb232,0,none⟩ (.int .i64 ((rd_T56 l0 x18_1).f0))).setCell ⟨gb232,1,none⟩ (.int .i64 ((rd_T56 l0 x18_1).f1))).setCell ⟨gb232,2,none⟩ (.slice A231_2 ((rd_T56 l0 x18_1).f2).length c231_2))):=⟨by repeat (first | (with_reducible first | exact HB.out | apply below_alloc | apply pw_below_drewN | apply below_drew1 | refine below_set ?_ GE232.out) | exact HB.out)⟩
            (try clear HO_5)
            (try clear HO_7)
            (try clear BK232)
            (try clear HB)
            generalize (((w59.setCell ⟨gb232,0,none⟩ (.int .i64 ((rd_T56 l0 x18_1).f0))).setCell ⟨gb232,1,none⟩ (.int .i64 ((rd_T56 l0 x18_1).f1))).setCell ⟨gb232,2,none⟩ (.slice A231_2 ((rd_T56 l0 x18_1).f2).length c231_2)) = w61 at n0_ n1_ n2_ n3_ ⊢
            have HO_5:=n0_
            have HO_7:=n1_
            have BK232:=n2_
            have HB:=n3_
            clear n0_ n1_ n2_ n3_
            have n0_:=Aside0.mk (Kd.R_drew HO_5.out)
            have n1_:=Aside0.mk (Kd.S_drew HO_7.out)
            have n2_:=Aside0.mk (blk_drew BK232.out)
            have n3_:=Aside0.mk (below_drew1 HB.out)
            clear HO_5
            clear HO_7
            clear BK232
            clear HB
            have HO_5:=n0_
            have HO_7:=n1_
            have BK232:=n2_
            have HB:=n3_
            clear n0_ n1_ n2_ n3_
            refine start_ (n:=13) (S:=fun w' => w'.cell? ⟨gb232,0,none⟩ = some (.int .i64 ((rd_T56 l0 x18_1).f0)) ∧ w'.cell? ⟨gb232,1,none⟩ = some (.int .i64 ((rd_T56 l0 x18_1).f1)) ∧ w'.cell? ⟨gb232,2,none⟩ = some (.slice A231_2 ((rd_T56 l0 x18_1).f2).length c231_2)) (ds:=[]) #[false,false,false,false,false,false,false,false,false,false,false,false,false] (by kernel_rfl) rfl rfl ⟨(blk_cell BK232.out 0).trans rfl,(blk_cell BK232.out 1).trans rfl,(blk_cell BK232.out 2).trans rfl⟩ (fun hHeld => ?_);refine with_tabW spec_l4Cut.tab13 spec_l4Cut.bits13 (fun HT_ HW_ => ?_)
            generalize w61.drew = w62 at HO_5 HO_7 BK232 HB hHeld ⊢
            refine pure_ (i:=0) (N:=some 52) (v:=?_) (a':=?_) #[true,false,false,false,false,false,false,false,false,false,false,false,false] rfl rfl (any_of HT_.out (by kernel_rfl)) (fun _ _ _ h => h) (Or.inl ⟨by rfl,?_⟩) ?_ ?_
            rotate_left
            ·intro w'
             go_simp
             with_reducible rfl
            rotate_left
            ·simp only [Act.put,List.setIfInBounds_toArray,List.set_cons_zero,List.set_cons_succ,i64_w,i32_w]
             rfl
            refine pure_ (i:=1) (N:=some 53) (v:=?_) (a':=?_) #[true,true,false,false,false,false,false,false,false,false,false,false,false] rfl rfl (any_of HT_.out (by kernel_rfl)) (fun _ _ _ h => h) (Or.inl ⟨by rfl,?_⟩) ?_ ?_
            rotate_left
            ·intro w'
             go_simp
             with_reducible rfl
            rotate_left
            ·simp only [Act.put,List.setIfInBounds_toArray,List.set_cons_zero,List.set_cons_succ,i64_w,i32_w]
             rfl
            refine pure_ (i:=3) (N:=some 55) (v:=?_) (a':=?_) #[true,true,false,true,false,false,false,false,false,false,false,false,false] rfl rfl (any_of HT_.out (by kernel_rfl)) (fun _ _ _ h => h) (Or.inl ⟨by rfl,?_⟩) ?_ ?_
            rotate_left
            ·intro w'
             go_simp
             with_reducible rfl
            rotate_left
            ·simp only [Act.put,List.setIfInBounds_toArray,List.set_cons_zero,List.set_cons_succ,i64_w,i32_w]
             rfl
            refine pure_ (i:=6) (N:=some 58) (v:=?_) (a':=?_) #[true,true,false,true,false,false,true,false,false,false,false,false,false] rfl rfl (any_of HT_.out (by kernel_rfl)) (fun _ _ _ h => h) (Or.inl ⟨by rfl,?_⟩) ?_ ?_
            rotate_left
            ·intro w'
             go_simp
             with_reducible rfl
            rotate_left
            ·simp only [Act.put,List.setIfInBounds_toArray,List.set_cons_zero,List.set_cons_succ,i64_w,i32_w]
             rfl
            refine take_ (i:=2) (N:=some 54) (v:=?_) (a':=?_) #[true,true,true,true,false,false,true,false,false,false,false,false,false] rfl rfl (take_ofW HT_.out HW_.out (by kernel_rfl)) (fun _ _ _ h => h) (Or.inl ⟨by rfl,?_⟩) hHeld ?_ ?_
            rotate_left
            ·rintro w' ⟨s0,s1,s2⟩
             go_simp
             with_reducible rfl
            rotate_left
            ·simp only [Act.put,List.setIfInBounds_toArray,List.set_cons_zero,List.set_cons_succ,i64_w,i32_w]
             rfl
            refine take_ (i:=4) (N:=some 56) (v:=?_) (a':=?_) #[true,true,true,true,true,false,true,false,false,false,false,false,false] rfl rfl (take_ofW HT_.out HW_.out (by kernel_rfl)) (fun _ _ _ h => h) (Or.inl ⟨by rfl,?_⟩) hHeld ?_ ?_
            rotate_left
            ·rintro w' ⟨s0,s1,s2⟩
             go_simp
             with_reducible rfl
            rotate_left
            ·simp only [Act.put,List.setIfInBounds_toArray,List.set_cons_zero,List.set_cons_succ,i64_w,i32_w]
             rfl
            refine take_ (i:=7) (N:=some 59) (v:=?_) (a':=?_) #[true,true,true,true,true,false,true,true,false,false,false,false,false] rfl rfl (take_ofW HT_.out HW_.out (by kernel_rfl)) (fun _ _ _ h => h) (Or.inl ⟨by rfl,?_⟩) hHeld ?_ ?_
            rotate_left
            ·rintro w' ⟨s0,s1,s2⟩
             go_simp
             with_reducible rfl
            rotate_left
            ·simp only [Act.put,List.setIfInBounds_toArray,List.set_cons_zero,List.set_cons_succ,i64_w,i32_w]
             rfl
            refine one_ (i:=5) (N:=some 57) #[true,true,true,true,true,true,true,true,false,false,false,false,false] rfl rfl (one_of HT_.out (by kernel_rfl)) (by decide) (fun K hK => ?_)
            refine Kd.R_lit_step (Kd.int .i64) _ 3 ?hg (N:=57) ?hd (xs:=([] : List Int)) (inner:=[]) (ok:=fun _ => True) (okp:=fun _ => True) ?hr ?hp (fun _ hk => hk) trivial (Below.refl _ _) (Nat.le_refl _) (by simp) ?_;(case hd => rfl);(case hg => rfl);(case hr => first | (go_simp;done) | (go_simp;rfl));(case hp => exact (Reps.none _ _))
            intro v258 w63 ho64 hb hg_ hnew_
            clear hg_ hnew_
            (first | rw [← Ny257.out] at ho64 | (simp only [Int.reduceToNat] at ho64;rw [← Ny257.out] at ho64))
            have n0_:=Aside0.mk (Kd.R_elder' (by (with_reducible repeat (first | apply Kd.R_alloc | apply Kd.R_drewN | apply Kd.R_drew));exact HO_5.out) (Kd.R_base ho64) hb)
            have n1_:=Aside0.mk (Kd.S_elder' (by (with_reducible repeat (first | apply Kd.S_alloc | apply Kd.S_drewN | apply Kd.S_drew));exact HO_7.out) (Kd.R_base ho64) hb)
            have n2_:=Aside0.mk (Kd.R_lower (Kd.R_new' ho64 (Kd.R_lt (by (with_reducible repeat (first | apply Kd.R_alloc | apply Kd.R_drewN | apply Kd.R_drew));exact HO_5.out))) (below_size (by repeat (first | (with_reducible first | exact HB.out | apply below_alloc | apply pw_below_drewN | apply below_drew1 | refine below_set ?_ GE232.out) | exact HB.out))))
            have n3_:=Aside0.mk (blk_below (g:=gb232) (o:=.cells #[.int .i64 ((rd_T56 l0 x18_1).f0),.int .i64 ((rd_T56 l0 x18_1).f1),.slice A231_2 ((rd_T56 l0 x18_1).f2).length c231_2] 56 (0,0)) (by (with_reducible repeat (first | refine blk_drewN ?_ _ | refine blk_drew ?_ | refine blk_alloc ?_ _));exact BK232.out) hb)
            have n4_:=Aside0.mk (below_step (by repeat (first | (with_reducible first | exact HB.out | apply below_alloc | apply pw_below_drewN | apply below_drew1 | refine below_set ?_ GE232.out) | exact HB.out)) hb)
            clear HO_5
            clear HO_7
            clear BK232
            clear HB
            have HO_5:=n0_
            have HO_7:=n1_
            have HO259:=n2_
            have BK232:=n3_
            have HB:=n4_
            clear n0_ n1_ n2_ n3_ n4_
            clear hb ho64
            refine hK.out _ _ ⟨(blk_cell BK232.out 0).trans rfl,(blk_cell BK232.out 1).trans rfl,(blk_cell BK232.out 2).trans rfl⟩ (fun hHeld => ?_)
            clear hK K
            refine norm_ (a':=?_) ?_ ?_
            rotate_left
            ·show Act.put _ (some 57) _ = _
             simp only [Act.put,List.setIfInBounds_toArray,List.set_cons_zero,List.set_cons_succ,i64_w,i32_w]
             rfl
            refine one_ (i:=8) (N:=some 60) #[true,true,true,true,true,true,true,true,true,false,false,false,false] rfl rfl (one_of HT_.out (by kernel_rfl)) (by decide) (fun K hK => ?_)
            refine Kd.R_append_rows_step (Kd.int .i64) (w0:=w) w.heap.size (by rfl) (.tmp 57) (.tmp 59) 29 3 (.int .i64 0) 8 rfl Try.underlying29 info3 rfl (by decide) (by omega) v258 y257 ((rd_T56 l0 x18_1).f2) _ _ _ (fun k_ => some k_ ≠ (v229 : Value).ownBlock) (fun _ => False) rfl rfl ?aO ?aR (fun _ _ h => h) (fun _ h => h.elim) ?aF ?aB ?aS ?aL ?_
            (case aR => repeat (first | exact (Kd.C_below HR231_2.out HB.out) | (with_reducible refine Kd.C_alloc ?_ _) | (with_reducible refine Kd.C_drewN ?_ _) | (with_reducible refine Kd.C_drew ?_)))
            (case aB => exact (by repeat (first | (with_reducible first | exact HB.out | apply below_alloc | apply pw_below_drewN | apply below_drew1 | refine below_set ?_ GE232.out) | exact HB.out)))
            (case aF => exact (fun k_ hk => Kd.fresh' (Kd.R_lt (by (with_reducible repeat (first | apply Kd.R_alloc | apply Kd.R_drewN | apply Kd.R_drew));exact HO_5.out)) k_ hk))
            (case aO => exact (by (with_reducible repeat (first | apply Kd.R_alloc | apply Kd.R_drewN | apply Kd.R_drew));exact Kd.R_mono HO259.out (fun _ hk => hk.2)))
            (case aS => exact (below_size (by repeat (first | (with_reducible first | exact HB.out | apply below_alloc | apply pw_below_drewN | apply below_drew1 | refine below_set ?_ GE232.out) | exact HB.out))))
            (case aL => have:=LMc57.out;omega)
            intro v261 w65 ho hb hg hat
            rw [← Ny260.out] at ho
            have n0_:=Aside0.mk (Kd.R_after (ok:=(fun _ => True)) (by (with_reducible repeat (first | apply Kd.R_alloc | apply Kd.R_drewN | apply Kd.R_drew));exact HO_5.out) hg hat)
            have n1_:=Aside0.mk (Kd.S_after (ok:=(fun k_ => some k_ ≠ (v229 : Value).ownBlock ∧ k_ ≠ gb232)) (by (with_reducible repeat (first | apply Kd.S_alloc | apply Kd.S_drewN | apply Kd.S_drew));exact HO_7.out) hg hat)
            have n2_:=Aside0.mk (blk_grown (g:=gb232) (o:=.cells #[.int .i64 ((rd_T56 l0 x18_1).f0),.int .i64 ((rd_T56 l0 x18_1).f1),.slice A231_2 ((rd_T56 l0 x18_1).f2).length c231_2] 56 (0,0)) (by (with_reducible repeat (first | refine blk_drewN ?_ _ | refine blk_drew ?_ | refine blk_alloc ?_ _));exact BK232.out) hg (Kd.R_ne HO259.out BK232.out (by decide)))
            have n3_:=Aside0.mk (hb)
            have n4_:=Aside0.mk (ho)
            clear HO_5
            clear HO_7
            clear BK232
            clear HB
            clear HO259
            have HO_5:=n0_
            have HO_7:=n1_
            have BK232:=n2_
            have HB:=n3_
            have HO262:=n4_
            clear n0_ n1_ n2_ n3_ n4_
            clear ho hb hg hat
            obtain ⟨Ao66,co66,eo66⟩:=Kd.R_slice HO262.out
            (first | subst eo66 | (injection eo66 with f1_ f2_ f3_;have f4_:=f1_.symm;have f5_:=f3_.symm;clear f1_ f2_ f3_;subst f4_;subst f5_))
            refine hK.out _ _ ⟨(blk_cell BK232.out 0).trans rfl,(blk_cell BK232.out 1).trans rfl,(blk_cell BK232.out 2).trans rfl⟩ (fun hHeld => ?_)
            clear hK K
            refine norm_ (a':=?_) ?_ ?_
            rotate_left
            ·show Act.put _ (some 60) _ = _
             simp only [Act.put,List.setIfInBounds_toArray,List.set_cons_zero,List.set_cons_succ,i64_w,i32_w]
             rfl
            refine pure_ (i:=9) (N:=some 61) (v:=?_) (a':=?_) #[true,true,true,true,true,true,true,true,true,true,false,false,false] rfl rfl (any_of HT_.out (by kernel_rfl)) (fun _ _ _ h => h) (Or.inl ⟨by rfl,?_⟩) ?_ ?_
            rotate_left
            ·intro w'
             go_simp
             with_reducible rfl
            rotate_left
            ·simp only [Act.put,List.setIfInBounds_toArray,List.set_cons_zero,List.set_cons_succ,i64_w,i32_w]
             rfl
            refine one_ (i:=10) (N:=some 62) #[true,true,true,true,true,true,true,true,true,true,true,false,false] rfl rfl (one_of HT_.out (by kernel_rfl)) (by decide) (fun K hK => ?_)
            refine value_ (w1:=?_) (v:=?_) (by rfl) rfl ?_ ?_
            rotate_left 2
            ·go_simp
             constructor
             ·rfl
             ·rfl
            refine hK.out _ _ ⟨(blk_cell (blk_alloc BK232.out _) 0).trans rfl,(blk_cell (blk_alloc BK232.out _) 1).trans rfl,(blk_cell (blk_alloc BK232.out _) 2).trans rfl⟩ (fun hHeld => ?_)
            clear hK K
            refine norm_ (a':=?_) ?_ ?_
            rotate_left
            ·show Act.put _ (some 62) _ = _
             simp only [Act.put,List.setIfInBounds_toArray,List.set_cons_zero,List.set_cons_succ,i64_w,i32_w]
             rfl
            refine one_ (i:=11) (N:=some 63) #[true,true,true,true,true,true,true,true,true,true,true,true,false] rfl rfl (one_of HT_.out (by kernel_rfl)) (by decide) (fun K hK => ?_)
            refine Kd.S_append_step k56 (w0:=w) w.heap.size (by rfl) (.tmp 52) (.tmp 62) 25 56 (.agg #[(.int .i64 0),(.int .i64 0),(.slice none 0 0)]) 40 rfl Try.underlying25 info56 rfl (by decide) (by omega) u7 x7_1 (⟨(rd_T56 l0 x18_1).f0,(rd_T56 l0 x18_1).f1,y260⟩ : S56) [.int .i64 ((rd_T56 l0 x18_1).f0),.int .i64 ((rd_T56 l0 x18_1).f1),.slice Ao66 y260.length co66] (fun k_ => some k_ ≠ (v229 : Value).ownBlock ∧ k_ ≠ gb232) (fun k_ => some k_ = (.slice Ao66 y260.length co66 : Value).ownBlock) rfl rfl ?aP (fun k_ hk_ => ((Kd.R_mono (ok':=fun k_ => ((fun k_ => some k_ ≠ (v229 : Value).ownBlock ∧ k_ ≠ gb232)) k_ ∧ some k_ ≠ (u7 : Value).ownBlock) (Kd.R_types (Kd.R_apart' (HO262.out) (Kd.S_typed HO_7.out) (by decide)) BK232.out (by decide)) (fun k_ hk => ⟨⟨hk.1.1,hk.2⟩,hk.1.2⟩))).1 k_ hk_.symm) ?aF ?aO ?aB ?aS ?aL ?_
            (case aP => exact k56_mkM _ _ _ (⟨(rd_T56 l0 x18_1).f0,(rd_T56 l0 x18_1).f1,y260⟩ : S56) (Kd.R_mono (Kd.R_tight rfl (Kd.R_mono (ok':=fun k_ => ((fun k_ => some k_ ≠ (v229 : Value).ownBlock ∧ k_ ≠ gb232)) k_ ∧ some k_ ≠ (u7 : Value).ownBlock) (Kd.R_types (Kd.R_apart' (HO262.out) (Kd.S_typed HO_7.out) (by decide)) BK232.out (by decide)) (fun k_ hk => ⟨⟨hk.1.1,hk.2⟩,hk.1.2⟩))) (fun _ h_ => h_)))
            (case aB => exact (by repeat (first | (with_reducible first | exact HB.out | apply below_alloc | apply pw_below_drewN | apply below_drew1 | refine below_set ?_ GE232.out) | exact HB.out)))
            (case aF => exact (fun k_ hk => ⟨Kd.fresh' (Kd.R_lt (by (with_reducible repeat (first | apply Kd.R_alloc | apply Kd.R_drewN | apply Kd.R_drew));exact HO_5.out)) k_ hk,Kd.freshB (g:=gb232) (o:=.cells #[.int .i64 ((rd_T56 l0 x18_1).f0),.int .i64 ((rd_T56 l0 x18_1).f1),.slice A231_2 ((rd_T56 l0 x18_1).f2).length c231_2] 56 (0,0)) (by (with_reducible repeat (first | refine blk_drewN ?_ _ | refine blk_drew ?_ | refine blk_alloc ?_ _));exact BK232.out) k_ hk⟩))
            (case aO => exact (by (with_reducible repeat (first | apply Kd.S_alloc | apply Kd.S_drewN | apply Kd.S_drew));exact Kd.S_mono HO_7.out (fun k_ hk => ⟨⟨hk.1.1,hk.1.2⟩,fun e_ => hk.2 e_⟩)))
            (case aS => exact (below_size (by repeat (first | (with_reducible first | exact HB.out | apply below_alloc | apply pw_below_drewN | apply below_drew1 | refine below_set ?_ GE232.out) | exact HB.out))))
            (case aL => have:=LMc58.out;omega)
            intro v264 w67 ho hb hg hat
            rw [← Ny263.out] at ho
            have n0_:=Aside0.mk (Kd.R_over' (by (with_reducible repeat (first | apply Kd.R_alloc | apply Kd.R_drewN | apply Kd.R_drew));exact HO_5.out) (Kd.S_typed (by (with_reducible repeat (first | apply Kd.S_alloc | apply Kd.S_drewN | apply Kd.S_drew));exact HO_7.out)) (by decide) hg)
            have n1_:=Aside0.mk (blk_grown (g:=gb232) (o:=.cells #[.int .i64 ((rd_T56 l0 x18_1).f0),.int .i64 ((rd_T56 l0 x18_1).f1),.slice A231_2 ((rd_T56 l0 x18_1).f2).length c231_2] 56 (0,0)) (by (with_reducible repeat (first | refine blk_drewN ?_ _ | refine blk_drew ?_ | refine blk_alloc ?_ _));exact BK232.out) hg (Kd.S_away HO_7.out (fun _ hk => hk.1.2)))
            have n2_:=Aside0.mk (hb)
            have n3_:=Aside0.mk (ho)
            clear HO_5
            clear BK232
            clear HB
            clear HO_7
            clear HO262
            have HO_5:=n0_
            have BK232:=n1_
            have HB:=n2_
            have HO265:=n3_
            clear n0_ n1_ n2_ n3_
            clear ho hb hg hat
            refine hK.out _ _ ⟨(blk_cell BK232.out 0).trans rfl,(blk_cell BK232.out 1).trans rfl,(blk_cell BK232.out 2).trans rfl⟩ (fun hHeld => ?_)
            clear hK K
            refine norm_ (a':=?_) ?_ ?_
            rotate_left
            ·show Act.put _ (some 63) _ = _
             simp only [Act.put,List.setIfInBounds_toArray,List.set_cons_zero,List.set_cons_succ,i64_w,i32_w]
             rfl
            refine pure_ (i:=12) (N:=some 7) (v:=?_) (a':=?_) #[true,true,true,true,true,true,true,true,true,true,true,true,true] rfl rfl (any_of HT_.out (by kernel_rfl)) (fun _ _ _ h => h) (Or.inl ⟨by rfl,?_⟩) ?_ ?_
            rotate_left
            ·intro w'
             go_simp
             with_reducible rfl
            rotate_left
            ·simp only [Act.put,List.setIfInBounds_toArray,List.set_cons_zero,List.set_cons_succ,i64_w,i32_w]
             rfl
            refine done_ (done_of HT_.out (by kernel_rfl)) ?_
            try go_wp2
            go_roundg k1
            case measure => have:=HK1.out;omega
            case rel => exact ⟨(y263),(wrap64 (x18_1 + 1)),(by first | rfl | (simp;done) | (simp [*];done)),H',⟨by have:=HK1.out;omega⟩,⟨by (with_reducible repeat (first | apply Kd.R_alloc | apply Kd.R_drewN | apply Kd.R_drew));exact Kd.R_mono HO_5.out (fun _ hk => trivial)⟩,⟨by (with_reducible repeat (first | apply Kd.S_alloc | apply Kd.S_drewN | apply Kd.S_drew));exact Kd.S_mono HO265.out (fun _ hk => hk.1)⟩,⟨by repeat (first | (with_reducible first | exact HB.out | apply below_alloc | apply pw_below_drewN | apply below_drew1 | refine below_set ?_ GE232.out) | exact HB.out)⟩⟩
           ·rw [if_neg c58] at H
            exact absurd H (by simp)
          ·rw [if_neg c57] at H
           exact absurd H (by simp)
      ·rw [if_neg c8] at H
       exact absurd H (by simp)
     ·rw [if_neg c7] at H
      exact absurd H (by simp)
    ·rw [if_neg c6] at H
     exact absurd H (by simp)
   ·rw [if_neg c5] at H
    have c5b0 : decide (x18_1 < (l0.length : Int)) = false:=decide_eq_false c5
    clear c5
    obtain rfl:=Option.some.inj H
    go_wp2
    go_ret
    exact ⟨_,by first | rfl | (simp [errW_none,errW_some] <;> rfl) | (simp [*,errW_none,errW_some] <;> rfl),by (with_reducible repeat (first | apply Kd.S_alloc | apply Kd.S_drewN | apply Kd.S_drew));exact Kd.S_mono HO_7.out (fun _ hk => trivial),by repeat (first | (with_reducible first | exact HB.out | apply below_alloc | apply pw_below_drewN | apply below_drew1) | exact HB.out)⟩

end Go.Proofs.Ytmljikgegclolaa.Q
