-- WRITTEN BY A PROGRAM OF THIS SESSION
import Derived.Test.YtmljikgegclolaaQ0
import Derived.Test.YtmljikgegclolaaQ4
import Derived.Test.YtmljikgegclolaaQ6
namespace Go.Proofs.Ytmljikgegclolaa.Q
open Go.RowKit Go.Proofs.YtmljikgegclolaaW.PrintWords Go.Proofs.YtmljikgegclolaaW.PrintLast Go.Proofs.YtmljikgegclolaaW.PrintMore
attribute [local go_sem] max2_int min2_int max_two min_two max_three min_three max_four min_four   -- for this text's walks alone
set_option linter.unusedVariables false
set_option linter.unusedSimpArgs false

/-! ### spec_l4Walk: function 64 -/
mutual
def spec_l4Walk.l0 : Nat → List (S56) → Int → Int → Bool → List Int → List Bool → List (S56) → Int → Int → List Int → List Bool → Int → Int → Option (List Int × List Bool × Int × Int)
 | 0,_,_,_,_,_,_,_,_,_,_,_,_,_ => none
 | k + 1,x0,x4,x5,x6,x7,x8,x15,x16,x17,x188000,x188001,x188002,x188003 => if x17 < x16 then (if 0 ≤ x17 then (if x17 < (x15.length : Int) then (if x188000.length < 17592186044416 then ((some (x188000 ++ [x4] : List Int)).bind fun y193 => (if x188001.length < 140737488355328 then ((some (x188001 ++ [x6] : List Bool)).bind fun y196 => ((spec_l4Needs.f k ((rd_T56 x15 x17).f0)).bind fun bt199 => (if (wrap64 (x4 - bt199.1)) < x5 then (if x6 = true then (spec_l4Walk.j1 k x0 (wrap64 (x5 + bt199.1)) x5 x6 x7 x8 bt199.1 bt199.2 x15 x16 x17 y193 y196 x188002 x17 ((rd_T56 x15 x17).f0) ((rd_T56 x15 x17).f1) ((rd_T56 x15 x17).f2)) else (some (y193,y196,2,x17))) else (spec_l4Walk.j1 k x0 x4 x5 x6 x7 x8 bt199.1 bt199.2 x15 x16 x17 y193 y196 x188002 x17 ((rd_T56 x15 x17).f0) ((rd_T56 x15 x17).f1) ((rd_T56 x15 x17).f2))))) else (none))) else (none)) else (none)) else (none)) else (if x188000.length < 17592186044416 then ((some (x188000 ++ [x4] : List Int)).bind fun y188 => (if x4 = 0 then (some (y188,x188001,x188002,(x0.length : Int))) else (some (y188,x188001,3,(x0.length : Int))))) else (none))
def spec_l4Walk.j1 : Nat → List (S56) → Int → Int → Bool → List Int → List Bool → Int → Int → List (S56) → Int → Int → List Int → List Bool → Int → Int → Int → Int → List Int → Option (List Int × List Bool × Int × Int)
 | 0,_,_,_,_,_,_,_,_,_,_,_,_,_,_,_,_,_,_ => none
 | k + 1,x0,x4,x5,x6,x7,x8,x11,x12,x15,x16,x17,x188000,x188001,x188002,x188003,x193000,x193001,x193002 => if (wrap64 (x4 + (wrap64 (x12 - x11)))) > 4 then (some (x188000,x188001,4,x188003)) else ((spec_l3Opens.f x193000).bind fun t201 => (if t201 = true then (if x7.length < 17592186044416 then (if x8.length < 140737488355328 then (spec_l4Walk.l0 k x0 (wrap64 (x4 + (wrap64 (x12 - x11)))) (wrap64 (x4 + (wrap64 (x12 - x11)))) x6 (x7 ++ [x5]) (x8 ++ [x6]) x15 x16 (wrap64 (x17 + 1)) x188000 x188001 x188002 x188003) else (none)) else (none)) else (if x193000 = 18 then (spec_l4Walk.j2 k x0 (wrap64 (x4 + (wrap64 (x12 - x11)))) x5 x6 x7 x8 (x7.length : Int) x15 x16 x17 true x188000 x188001 x188002 x188003 x193000 x193001 x193002) else (spec_l4Walk.j2 k x0 (wrap64 (x4 + (wrap64 (x12 - x11)))) x5 x6 x7 x8 (x7.length : Int) x15 x16 x17 (x193000 == 19) x188000 x188001 x188002 x188003 x193000 x193001 x193002))))
def spec_l4Walk.j2 : Nat → List (S56) → Int → Int → Bool → List Int → List Bool → Int → List (S56) → Int → Int → Bool → List Int → List Bool → Int → Int → Int → Int → List Int → Option (List Int × List Bool × Int × Int)
 | 0,_,_,_,_,_,_,_,_,_,_,_,_,_,_,_,_,_,_ => none
 | k + 1,x0,x4,x5,x6,x7,x8,x13,x15,x16,x17,x78,x188000,x188001,x188002,x188003,x193000,x193001,x193002 => if x78 = true then (if x4 = x5 then (if 0 ≤ (wrap64 (x13 - 1)) then (if (wrap64 (x13 - 1)) < (x8.length : Int) then (if x193000 = 19 then (if (wrap64 (x13 - 1)) < (x7.length : Int) then (if (wrap64 (x13 - 1)) ≤ (x7.length : Int) then (if (wrap64 (x13 - 1)) ≤ (x8.length : Int) then (spec_l4Walk.l0 k x0 x4 (rd x7 (wrap64 (x13 - 1))) (rdOf false x8 (wrap64 (x13 - 1))) (x7.take ((wrap64 (x13 - 1)) : Int).toNat) (x8.take ((wrap64 (x13 - 1)) : Int).toNat) x15 x16 (wrap64 (x17 + 1)) x188000 x188001 x188002 x188003) else (none)) else (none)) else (none)) else (spec_l4Walk.l0 k x0 x4 x5 (rdOf false x8 (wrap64 (x13 - 1))) x7 x8 x15 x16 (wrap64 (x17 + 1)) x188000 x188001 x188002 x188003)) else (none)) else (none)) else (some (x188000,x188001,3,x188003))) else (if x193000 = 20 then (spec_l4Walk.l0 k x0 x5 x5 true x7 x8 x15 x16 (wrap64 (x17 + 1)) x188000 x188001 x188002 x188003) else (if x193000 = 22 then (spec_l4Walk.l0 k x0 x5 x5 true x7 x8 x15 x16 (wrap64 (x17 + 1)) x188000 x188001 x188002 x188003) else (if x193000 = 14 then (spec_l4Walk.l0 k x0 x5 x5 true x7 x8 x15 x16 (wrap64 (x17 + 1)) x188000 x188001 x188002 x188003) else (spec_l4Walk.l0 k x0 x4 x5 x6 x7 x8 x15 x16 (wrap64 (x17 + 1)) x188000 x188001 x188002 x188003))))
end
def spec_l4Walk.f (k : Nat) (l0 : List (S56)) : Option (List Int × List Bool × Int × Int):=spec_l4Walk.l0 k l0 0 0 false ([] : List Int) ([] : List Bool) l0 (l0.length : Int) 0 ([] : List Int) ([] : List Bool) 0 0
theorem spec_l4Walk.mono_l : ∀ k,(∀ y0 y1 y2 y3 y4 y5 y6 y7 y8 y9 y10 y11 y12,LeO (spec_l4Walk.l0 k y0 y1 y2 y3 y4 y5 y6 y7 y8 y9 y10 y11 y12) (spec_l4Walk.l0 (k + 1) y0 y1 y2 y3 y4 y5 y6 y7 y8 y9 y10 y11 y12)) ∧ (∀ y0 y1 y2 y3 y4 y5 y6 y7 y8 y9 y10 y11 y12 y13 y14 y15 y16 y17,LeO (spec_l4Walk.j1 k y0 y1 y2 y3 y4 y5 y6 y7 y8 y9 y10 y11 y12 y13 y14 y15 y16 y17) (spec_l4Walk.j1 (k + 1) y0 y1 y2 y3 y4 y5 y6 y7 y8 y9 y10 y11 y12 y13 y14 y15 y16 y17)) ∧ (∀ y0 y1 y2 y3 y4 y5 y6 y7 y8 y9 y10 y11 y12 y13 y14 y15 y16 y17,LeO (spec_l4Walk.j2 k y0 y1 y2 y3 y4 y5 y6 y7 y8 y9 y10 y11 y12 y13 y14 y15 y16 y17) (spec_l4Walk.j2 (k + 1) y0 y1 y2 y3 y4 y5 y6 y7 y8 y9 y10 y11 y12 y13 y14 y15 y16 y17))
 | 0 => ⟨fun _ _ _ _ _ _ _ _ _ _ _ _ _ r h => by simp [spec_l4Walk.l0] at h,fun _ _ _ _ _ _ _ _ _ _ _ _ _ _ _ _ _ _ r h => by simp [spec_l4Walk.j1] at h,fun _ _ _ _ _ _ _ _ _ _ _ _ _ _ _ _ _ _ r h => by simp [spec_l4Walk.j2] at h⟩
 | k + 1 => by
  obtain ⟨ih0,ih1,ih2⟩:=spec_l4Walk.mono_l k
  refine ⟨?_,?_,?_⟩
  ·intro y0 y1 y2 y3 y4 y5 y6 y7 y8 y9 y10 y11 y12
   unfold spec_l4Walk.l0
   repeat' first
   | (with_reducible exact ih0 _ _ _ _ _ _ _ _ _ _ _ _ _)
   | (with_reducible exact ih1 _ _ _ _ _ _ _ _ _ _ _ _ _ _ _ _ _ _)
   | (with_reducible exact ih2 _ _ _ _ _ _ _ _ _ _ _ _ _ _ _ _ _ _)
   | (with_reducible exact spec_l4Needs.mono _ _)
   | (with_reducible exact LeO.refl _)
   | (with_reducible exact LeO.none _)
   | (with_reducible refine LeO.ite ?_ ?_)
   | (with_reducible refine LeO.bind ?_ (fun _ => ?_))
   | exact ih0 _ _ _ _ _ _ _ _ _ _ _ _ _
   | exact ih1 _ _ _ _ _ _ _ _ _ _ _ _ _ _ _ _ _ _
   | exact ih2 _ _ _ _ _ _ _ _ _ _ _ _ _ _ _ _ _ _
   | exact spec_l4Needs.mono _ _
   | exact LeO.none _
   | refine LeO.ite ?_ ?_
   | refine LeO.bind ?_ (fun _ => ?_)
  ·intro y0 y1 y2 y3 y4 y5 y6 y7 y8 y9 y10 y11 y12 y13 y14 y15 y16 y17
   unfold spec_l4Walk.j1
   repeat' first
   | (with_reducible exact ih0 _ _ _ _ _ _ _ _ _ _ _ _ _)
   | (with_reducible exact ih1 _ _ _ _ _ _ _ _ _ _ _ _ _ _ _ _ _ _)
   | (with_reducible exact ih2 _ _ _ _ _ _ _ _ _ _ _ _ _ _ _ _ _ _)
   | (with_reducible exact spec_l4Needs.mono _ _)
   | (with_reducible exact LeO.refl _)
   | (with_reducible exact LeO.none _)
   | (with_reducible refine LeO.ite ?_ ?_)
   | (with_reducible refine LeO.bind ?_ (fun _ => ?_))
   | exact ih0 _ _ _ _ _ _ _ _ _ _ _ _ _
   | exact ih1 _ _ _ _ _ _ _ _ _ _ _ _ _ _ _ _ _ _
   | exact ih2 _ _ _ _ _ _ _ _ _ _ _ _ _ _ _ _ _ _
   | exact spec_l4Needs.mono _ _
   | exact LeO.none _
   | refine LeO.ite ?_ ?_
   | refine LeO.bind ?_ (fun _ => ?_)
  ·intro y0 y1 y2 y3 y4 y5 y6 y7 y8 y9 y10 y11 y12 y13 y14 y15 y16 y17
   unfold spec_l4Walk.j2
   repeat' first
   | (with_reducible exact ih0 _ _ _ _ _ _ _ _ _ _ _ _ _)
   | (with_reducible exact ih1 _ _ _ _ _ _ _ _ _ _ _ _ _ _ _ _ _ _)
   | (with_reducible exact ih2 _ _ _ _ _ _ _ _ _ _ _ _ _ _ _ _ _ _)
   | (with_reducible exact spec_l4Needs.mono _ _)
   | (with_reducible exact LeO.refl _)
   | (with_reducible exact LeO.none _)
   | (with_reducible refine LeO.ite ?_ ?_)
   | (with_reducible refine LeO.bind ?_ (fun _ => ?_))
   | exact ih0 _ _ _ _ _ _ _ _ _ _ _ _ _
   | exact ih1 _ _ _ _ _ _ _ _ _ _ _ _ _ _ _ _ _ _
   | exact ih2 _ _ _ _ _ _ _ _ _ _ _ _ _ _ _ _ _ _
   | exact spec_l4Needs.mono _ _
   | exact LeO.none _
   | refine LeO.ite ?_ ?_
   | refine LeO.bind ?_ (fun _ => ?_)
theorem spec_l4Walk.mono : ∀ a0 k,LeO (spec_l4Walk.f k a0) (spec_l4Walk.f (k + 1) a0):=by
 intro a0 k
 obtain ⟨ih0,ih1,ih2⟩:=spec_l4Walk.mono_l k
 unfold spec_l4Walk.f
 repeat' first
   | (with_reducible exact ih0 _ _ _ _ _ _ _ _ _ _ _ _ _)
   | (with_reducible exact ih1 _ _ _ _ _ _ _ _ _ _ _ _ _ _ _ _ _ _)
   | (with_reducible exact ih2 _ _ _ _ _ _ _ _ _ _ _ _ _ _ _ _ _ _)
   | (with_reducible exact spec_l4Needs.mono _ _)
   | (with_reducible exact LeO.refl _)
   | (with_reducible exact LeO.none _)
   | (with_reducible refine LeO.ite ?_ ?_)
   | (with_reducible refine LeO.bind ?_ (fun _ => ?_))
   | exact ih0 _ _ _ _ _ _ _ _ _ _ _ _ _
   | exact ih1 _ _ _ _ _ _ _ _ _ _ _ _ _ _ _ _ _ _
   | exact ih2 _ _ _ _ _ _ _ _ _ _ _ _ _ _ _ _ _ _
   | exact spec_l4Needs.mono _ _
   | exact LeO.none _
   | refine LeO.ite ?_ ?_
   | refine LeO.bind ?_ (fun _ => ?_)
set_option maxHeartbeats 8000000 in
set_option maxRecDepth 100000 in
theorem spec_l4Walk.calls (k : Nat) (A0 : Option Addr) (c0 : Nat) (l0 : List (S56)) (r1 : List Int) (r2 : List Bool) (r3 : Int) (r4 : Int) (w : World) (hr0 : Kd.C k56 w A0 l0.length l0) (hc0 : l0.length ≤ c0) (h : spec_l4Walk.f k l0 = some (r1,r2,r3,r4)) :
  Calls Try.prog 64 #[.slice A0 l0.length c0] w fun e w' => ∃ v0_ v1_ : Value,e = .returned (.agg #[v0_,v1_,.int .i64 r3,.int .i64 r4]) ∧ Kd.R (Kd.int .i64) 3 w' w.heap.size (fun _ => True) v0_ r1 ∧ Kd.R Kd.bool 4 w' w.heap.size (fun _ => True) v1_ r2 ∧ Below w.heap.size w w':=by
 have hu79:=Try.underlying79
 have hu56:=Try.underlying56
 have HR0:=Aside0.mk hr0
 have HC0:=Aside0.mk hc0
 clear hr0 hc0
 have HB:=Aside0.mk (Below.refl w.heap.size w)
 have H : (spec_l4Walk.l0 k l0 0 0 false ([] : List Int) ([] : List Bool) l0 (l0.length : Int) 0 ([] : List Int) ([] : List Bool) 0 0) = some (r1,r2,r3,r4):=h
 clear h
 have H':=Aside0.mk H
 clear H
 go_enter Try.func64,Try.ntmps64
 go_wp2_with (first | ((with_reducible refine gate_dst (N:=2) rfl ?_);refine box_event ?hg (N:=2) ?hd (cs:=#[.slice none 0 0,.slice none 0 0,.int .i64 0,.int .i64 0]) (t:=79) ?hr ?_;(case hd => rfl);(case hg => rfl);(case hr => first | (go_simp;done) | (go_simp;rfl));intro gb186 hg w2 hbox hb;have n0_:=Aside0.mk (below_step (by repeat (first | (with_reducible first | exact HB.out | apply below_alloc | apply pw_below_drewN | apply below_drew1) | exact HB.out)) hb);have n1_:=Aside0.mk (hbox);have n2_:=Aside0.mk ((by rw [hg];exact (below_size (by repeat (first | (with_reducible first | exact HB.out | apply below_alloc | apply pw_below_drewN | apply below_drew1) | exact HB.out))) : w.heap.size ≤ gb186));have n3_:=Aside0.mk ((by rw [hg];exact (below_size (by repeat (first | (with_reducible first | exact HB.out | apply below_alloc | apply pw_below_drewN | apply below_drew1) | exact HB.out))) : w.heap.size ≤ gb186));clear HB;have HB:=n0_;have BK186:=n1_;have GW186:=n2_;have GE186:=n3_;clear n0_ n1_ n2_ n3_;clear hb hbox hg) | ((with_reducible refine gate_dst (N:=3) rfl ?_);refine box_event ?hg (N:=3) ?hd (cs:=#[.slice none 0 0,.slice none 0 0,.int .i64 0,.int .i64 0]) (t:=79) ?hr ?_;(case hd => rfl);(case hg => rfl);(case hr => first | (go_simp;done) | (go_simp;rfl));intro gb187 hg w3 hbox hb;have n0_:=Aside0.mk (blk_below (g:=gb186) (o:=.cells #[.slice none 0 0,.slice none 0 0,.int .i64 0,.int .i64 0] 79 (0,0)) (by (with_reducible repeat (first | refine blk_drewN ?_ _ | refine blk_drew ?_ | refine blk_alloc ?_ _));exact BK186.out) hb);have n1_:=Aside0.mk (below_step (by repeat (first | (with_reducible first | exact HB.out | apply below_alloc | apply pw_below_drewN | apply below_drew1 | refine below_set ?_ GE186.out) | exact HB.out)) hb);have n2_:=Aside0.mk (hbox);have n3_:=Aside0.mk ((by rw [hg];exact (below_size (by repeat (first | (with_reducible first | exact HB.out | apply below_alloc | apply pw_below_drewN | apply below_drew1 | refine below_set ?_ GE186.out) | exact HB.out))) : w.heap.size ≤ gb187));have n4_:=Aside0.mk ((by rw [hg];exact (below_size (by repeat (first | (with_reducible first | exact HB.out | apply below_alloc | apply pw_below_drewN | apply below_drew1 | refine below_set ?_ GE186.out) | exact HB.out))) : w.heap.size ≤ gb187));have n5_:=Aside0.mk ((by rw [hg];exact Nat.ne_of_lt (blk_lt (g:=gb186) (o:=.cells #[.slice none 0 0,.slice none 0 0,.int .i64 0,.int .i64 0] 79 (0,0)) (by (with_reducible repeat (first | refine blk_drewN ?_ _ | refine blk_drew ?_ | refine blk_alloc ?_ _));exact BK186.out)) : gb186 ≠ gb187));have n6_:=Aside0.mk ((by rw [hg];exact Nat.ne_of_gt (blk_lt (g:=gb186) (o:=.cells #[.slice none 0 0,.slice none 0 0,.int .i64 0,.int .i64 0] 79 (0,0)) (by (with_reducible repeat (first | refine blk_drewN ?_ _ | refine blk_drew ?_ | refine blk_alloc ?_ _));exact BK186.out)) : gb187 ≠ gb186));clear BK186;clear HB;have BK186:=n0_;have HB:=n1_;have BK187:=n2_;have GW187:=n3_;have GE187:=n4_;have NB186_187:=n5_;have NB187_186:=n6_;clear n0_ n1_ n2_ n3_ n4_ n5_ n6_;clear hb hbox hg;have hnb4:=NB187_186.out;have hnc4:=NB186_187.out;have hcz5_0 : w3.cell? ⟨gb187,0,none⟩ = some (.slice none 0 0):=(blk_cell BK187.out 0).trans rfl;have hcz5_1 : w3.cell? ⟨gb187,1,none⟩ = some (.slice none 0 0):=(blk_cell BK187.out 1).trans rfl;have hcz5_2 : w3.cell? ⟨gb187,2,none⟩ = some (.int .i64 0):=(blk_cell BK187.out 2).trans rfl;have hcz5_3 : w3.cell? ⟨gb187,3,none⟩ = some (.int .i64 0):=(blk_cell BK187.out 3).trans rfl;have hfz5_0:=blk_frozen BK187.out 0;have hfz5_1:=blk_frozen BK187.out 1;have hfz5_2:=blk_frozen BK187.out 2;have hfz5_3:=blk_frozen BK187.out 3))
 go_loopg [4,5,6,7,8,17] k (fun kq v4 v5 v6 v7 v8 v17 w' => ∃ (x4_1 : Int) (x5_1 : Int) (x6_1 : Bool) (x7_1 : List Int) (x8_1 : List Bool) (x17_1 : Int) (x187002_1 : Int) (x187003_1 : Int) (x188000_1 : List Int) (x188001_1 : List Bool) (x188002_1 : Int) (x188003_1 : Int) (u188000 : Value) (u188001 : Value),v4 = .int .i64 x4_1 ∧ v5 = .int .i64 x5_1 ∧ v6 = .bool x6_1 ∧ v17 = .int .i64 x17_1 ∧ Aside0 (spec_l4Walk.l0 kq l0 x4_1 x5_1 x6_1 x7_1 x8_1 l0 (l0.length : Int) x17_1 x188000_1 x188001_1 x188002_1 x188003_1 = some (r1,r2,r3,r4)) ∧ Aside0 (kq ≤ k) ∧ Aside0 (Kd.R (Kd.int .i64) 3 w' w.heap.size (fun k_ => some k_ ≠ (u188000 : Value).ownBlock) v7 x7_1) ∧ Aside0 (Kd.R Kd.bool 4 w' w.heap.size (fun k_ => some k_ ≠ (u188001 : Value).ownBlock) v8 x8_1) ∧ Aside0 (Kd.R (Kd.int .i64) 3 w' w.heap.size (fun k_ => some k_ ≠ (v7 : Value).ownBlock) u188000 x188000_1) ∧ Aside0 (Kd.R Kd.bool 4 w' w.heap.size (fun k_ => some k_ ≠ (v8 : Value).ownBlock) u188001 x188001_1) ∧ Aside0 (w'.heap[gb186]? = some (.cells #[(.slice none 0 0),(.slice none 0 0),.int .i64 x187002_1,.int .i64 x187003_1] 79 (0,0))) ∧ Aside0 (w'.heap[gb187]? = some (.cells #[u188000,u188001,.int .i64 x188002_1,.int .i64 x188003_1] 79 (0,0))) ∧ Aside0 (Below w.heap.size w w'))
 case atStart => exact ⟨(0),(0),(false),(([] : List Int)),(([] : List Bool)),(0),(0),(0),(([] : List Int)),(([] : List Bool)),(0),(0),(.slice none 0 0),(.slice none 0 0),(by first | rfl | (simp;done) | (simp [*];done)),(by first | rfl | (simp;done) | (simp [*];done)),(by first | rfl | (simp;done) | (simp [*];done)),(by first | rfl | (simp;done) | (simp [*];done)),H',⟨Nat.le_refl _⟩,⟨by first | exact Kd.R_nil _ _ _ _ _ | exact Kd.N_nil _ _ _ _ _ | exact Kd.V_nil _ _ _ _ _ | exact Kd.Q_nil _ _ _ _ _ | exact Kd.S_nil _ _ _ _ _⟩,⟨by first | exact Kd.R_nil _ _ _ _ _ | exact Kd.N_nil _ _ _ _ _ | exact Kd.V_nil _ _ _ _ _ | exact Kd.Q_nil _ _ _ _ _ | exact Kd.S_nil _ _ _ _ _⟩,⟨by first | exact Kd.R_nil _ _ _ _ _ | exact Kd.N_nil _ _ _ _ _ | exact Kd.V_nil _ _ _ _ _ | exact Kd.Q_nil _ _ _ _ _ | exact Kd.S_nil _ _ _ _ _⟩,⟨by first | exact Kd.R_nil _ _ _ _ _ | exact Kd.N_nil _ _ _ _ _ | exact Kd.V_nil _ _ _ _ _ | exact Kd.Q_nil _ _ _ _ _ | exact Kd.S_nil _ _ _ _ _⟩,⟨by (with_reducible repeat (first | refine blk_drewN ?_ _ | refine blk_drew ?_ | refine blk_alloc ?_ _));refine blk_far ?_ NB186_187.out _;(with_reducible repeat (first | refine blk_drewN ?_ _ | refine blk_drew ?_ | refine blk_alloc ?_ _));refine blk_far ?_ NB186_187.out _;(with_reducible repeat (first | refine blk_drewN ?_ _ | refine blk_drew ?_ | refine blk_alloc ?_ _));refine blk_far ?_ NB186_187.out _;(with_reducible repeat (first | refine blk_drewN ?_ _ | refine blk_drew ?_ | refine blk_alloc ?_ _));refine blk_far ?_ NB186_187.out _;(with_reducible repeat (first | refine blk_drewN ?_ _ | refine blk_drew ?_ | refine blk_alloc ?_ _));exact BK186.out⟩,⟨by (with_reducible repeat (first | refine blk_drewN ?_ _ | refine blk_drew ?_ | refine blk_alloc ?_ _));refine blk_put (cs:=#[.slice none 0 0,.slice none 0 0,.int .i64 0,.int .i64 0]) ?_ 3 _ rfl;(with_reducible repeat (first | refine blk_drewN ?_ _ | refine blk_drew ?_ | refine blk_alloc ?_ _));refine blk_put (cs:=#[.slice none 0 0,.slice none 0 0,.int .i64 0,.int .i64 0]) ?_ 2 _ rfl;(with_reducible repeat (first | refine blk_drewN ?_ _ | refine blk_drew ?_ | refine blk_alloc ?_ _));refine blk_put (cs:=#[.slice none 0 0,.slice none 0 0,.int .i64 0,.int .i64 0]) ?_ 1 _ rfl;(with_reducible repeat (first | refine blk_drewN ?_ _ | refine blk_drew ?_ | refine blk_alloc ?_ _));refine blk_put (cs:=#[.slice none 0 0,.slice none 0 0,.int .i64 0,.int .i64 0]) ?_ 0 _ rfl;(with_reducible repeat (first | refine blk_drewN ?_ _ | refine blk_drew ?_ | refine blk_alloc ?_ _));exact BK187.out⟩,⟨by repeat (first | (with_reducible first | exact HB.out | apply below_alloc | apply pw_below_drewN | apply below_drew1 | refine below_set ?_ GE186.out | refine below_set ?_ GE187.out) | exact HB.out)⟩⟩
 case round =>
  clear H'
  try clear p2
  try clear c4
  try clear hcz5_0
  try clear hcz5_1
  try clear hcz5_2
  try clear hcz5_3
  try clear hfz5_0
  try clear hfz5_1
  try clear hfz5_2
  try clear hfz5_3
  obtain ⟨x4_1,x5_1,x6_1,x7_1,x8_1,x17_1,x187002_1,x187003_1,x188000_1,x188001_1,x188002_1,x188003_1,u188000,u188001,rfl,rfl,rfl,rfl,HA,HK1,HO_7,HO_8,HO_188000,HO_188001,BK186,BK187,HB⟩:=hrel
  cases gk with
  | zero => exact absurd HA.out (by simp [spec_l4Walk.l0])
  | succ k1 =>
   have H:=HA.out
   clear HA
   simp only [spec_l4Walk.l0] at H
   by_cases c6 : x17_1 < (l0.length : Int)
   ·rw [if_pos c6] at H
    have c6b0 : decide (x17_1 < (l0.length : Int)) = true:=decide_eq_true c6
    clear c6
    by_cases c7 : 0 ≤ x17_1
    ·rw [if_pos c7] at H
     have c7b0 : decide (0 ≤ x17_1) = true:=decide_eq_true c7
     clear c7
     by_cases c8 : x17_1 < (l0.length : Int)
     ·rw [if_pos c8] at H
      have c8b0 : decide (x17_1 < (l0.length : Int)) = true:=decide_eq_true c8
      clear c8
      by_cases c9 : x188000_1.length < 17592186044416
      ·rw [if_pos c9] at H
       have LMc9:=Aside0.mk c9
       clear c9
       obtain ⟨y193,hy193⟩ : ∃ y_ : List Int,y_ = (x188000_1 ++ [x4_1]):=⟨_,rfl⟩
       replace H : (if x188001_1.length < 140737488355328 then ((some (x188001_1 ++ [x6_1] : List Bool)).bind fun y196 => ((spec_l4Needs.f k1 ((rd_T56 l0 x17_1).f0)).bind fun bt199 => (if (wrap64 (x4_1 - bt199.1)) < x5_1 then (if x6_1 = true then (spec_l4Walk.j1 k1 l0 (wrap64 (x5_1 + bt199.1)) x5_1 x6_1 x7_1 x8_1 bt199.1 bt199.2 l0 (l0.length : Int) x17_1 y193 y196 x188002_1 x17_1 ((rd_T56 l0 x17_1).f0) ((rd_T56 l0 x17_1).f1) ((rd_T56 l0 x17_1).f2)) else (some (y193,y196,2,x17_1))) else (spec_l4Walk.j1 k1 l0 x4_1 x5_1 x6_1 x7_1 x8_1 bt199.1 bt199.2 l0 (l0.length : Int) x17_1 y193 y196 x188002_1 x17_1 ((rd_T56 l0 x17_1).f0) ((rd_T56 l0 x17_1).f1) ((rd_T56 l0 x17_1).f2))))) else (none)) = some (r1,r2,r3,r4):=by first | (rw [hy193];with_reducible exact H) | (have H2_:=(Option.bind_some _ _).symm.trans H;rw [hy193];with_reducible exact H2_) | (have H2_:=(Option.bind_some _ _).symm.trans H;with_reducible exact H2_) | with_reducible exact H | (rw [hy193];exact H) | exact H
       have Ny193:=Aside0.mk hy193
       clear hy193
       by_cases c10 : x188001_1.length < 140737488355328
       ·rw [if_pos c10] at H
        have LMc10:=Aside0.mk c10
        clear c10
        obtain ⟨y196,hy196⟩ : ∃ y_ : List Bool,y_ = (x188001_1 ++ [x6_1]):=⟨_,rfl⟩
        replace H : ((spec_l4Needs.f k1 ((rd_T56 l0 x17_1).f0)).bind fun bt199 => (if (wrap64 (x4_1 - bt199.1)) < x5_1 then (if x6_1 = true then (spec_l4Walk.j1 k1 l0 (wrap64 (x5_1 + bt199.1)) x5_1 x6_1 x7_1 x8_1 bt199.1 bt199.2 l0 (l0.length : Int) x17_1 y193 y196 x188002_1 x17_1 ((rd_T56 l0 x17_1).f0) ((rd_T56 l0 x17_1).f1) ((rd_T56 l0 x17_1).f2)) else (some (y193,y196,2,x17_1))) else (spec_l4Walk.j1 k1 l0 x4_1 x5_1 x6_1 x7_1 x8_1 bt199.1 bt199.2 l0 (l0.length : Int) x17_1 y193 y196 x188002_1 x17_1 ((rd_T56 l0 x17_1).f0) ((rd_T56 l0 x17_1).f1) ((rd_T56 l0 x17_1).f2)))) = some (r1,r2,r3,r4):=by first | (rw [hy196];with_reducible exact H) | (have H2_:=(Option.bind_some _ _).symm.trans H;rw [hy196];with_reducible exact H2_) | (have H2_:=(Option.bind_some _ _).symm.trans H;with_reducible exact H2_) | with_reducible exact H | (rw [hy196];exact H) | exact H
        have Ny196:=Aside0.mk hy196
        clear hy196
        replace H:=Option.bind_eq_some_iff.mp H
        obtain ⟨⟨t199,t200⟩,A110,H⟩:=H
        replace H : (if (wrap64 (x4_1 - t199)) < x5_1 then (if x6_1 = true then (spec_l4Walk.j1 k1 l0 (wrap64 (x5_1 + t199)) x5_1 x6_1 x7_1 x8_1 t199 t200 l0 (l0.length : Int) x17_1 y193 y196 x188002_1 x17_1 ((rd_T56 l0 x17_1).f0) ((rd_T56 l0 x17_1).f1) ((rd_T56 l0 x17_1).f2)) else (some (y193,y196,2,x17_1))) else (spec_l4Walk.j1 k1 l0 x4_1 x5_1 x6_1 x7_1 x8_1 t199 t200 l0 (l0.length : Int) x17_1 y193 y196 x188002_1 x17_1 ((rd_T56 l0 x17_1).f0) ((rd_T56 l0 x17_1).f1) ((rd_T56 l0 x17_1).f2))) = some (r1,r2,r3,r4):=H
        have A11:=Aside0.mk A110
        clear A110
        have HC12:=Aside0.mk H
        clear H
        have p191 : 0 ≤ (x17_1 : Int):=of_decide_eq_true (by first | (with_reducible assumption) | assumption)
        have q191 : x17_1 < (l0.length : Int):=of_decide_eq_true (by first | (with_reducible assumption) | assumption)
        obtain ⟨ad191,A191_2,c191_2,e191,hx191_0,hx191_1,hx191_2,hl191_2,hi191_2⟩:=at_T56 HR0.out x17_1 p191 q191
        cases e191
        replace hx191_0:=(HB.out.cell (World.block_lt_of_cell? w _ hx191_0)).trans hx191_0
        replace hx191_1:=(HB.out.cell (World.block_lt_of_cell? w _ hx191_1)).trans hx191_1
        replace hx191_2:=(HB.out.cell (World.block_lt_of_cell? w _ hx191_2)).trans hx191_2
        have HR191_2:=Aside0.mk hi191_2
        have HC191_2:=Aside0.mk hl191_2
        clear hi191_2 hl191_2
        replace p191:=eq_true p191
        replace q191:=eq_true q191
        go_upto_if 46 with (first | ((with_reducible refine gate_dst (N:=10) rfl ?_);refine box_event ?hg (N:=10) ?hd (cs:=#[.int .i64 0,.int .i64 0,.slice none 0 0]) (t:=56) ?hr ?_;(case hd => rfl);(case hg => rfl);(case hr => first | (go_simp;done) | (go_simp;rfl));intro gb192 hg w13 hbox hb;have n0_:=Aside0.mk (Kd.R_below (by (with_reducible repeat (first | apply Kd.R_alloc | apply Kd.R_drewN | apply Kd.R_drew));exact HO_7.out) hb);have n1_:=Aside0.mk (Kd.R_below (by (with_reducible repeat (first | apply Kd.R_alloc | apply Kd.R_drewN | apply Kd.R_drew));exact HO_8.out) hb);have n2_:=Aside0.mk (Kd.R_below (by (with_reducible repeat (first | apply Kd.R_alloc | apply Kd.R_drewN | apply Kd.R_drew));exact HO_188000.out) hb);have n3_:=Aside0.mk (Kd.R_below (by (with_reducible repeat (first | apply Kd.R_alloc | apply Kd.R_drewN | apply Kd.R_drew));exact HO_188001.out) hb);have n4_:=Aside0.mk (blk_below (g:=gb186) (o:=.cells #[.slice none 0 0,.slice none 0 0,.int .i64 x187002_1,.int .i64 x187003_1] 79 (0,0)) (by (with_reducible repeat (first | refine blk_drewN ?_ _ | refine blk_drew ?_ | refine blk_alloc ?_ _));exact BK186.out) hb);have n5_:=Aside0.mk (blk_below (g:=gb187) (o:=.cells #[u188000,u188001,.int .i64 x188002_1,.int .i64 x188003_1] 79 (0,0)) (by (with_reducible repeat (first | refine blk_drewN ?_ _ | refine blk_drew ?_ | refine blk_alloc ?_ _));exact BK187.out) hb);have n6_:=Aside0.mk (below_step (by repeat (first | (with_reducible first | exact HB.out | apply below_alloc | apply pw_below_drewN | apply below_drew1 | refine below_set ?_ GE186.out | refine below_set ?_ GE187.out) | exact HB.out)) hb);have n7_:=Aside0.mk (hbox);have n8_:=Aside0.mk ((by rw [hg];exact (below_size (by repeat (first | (with_reducible first | exact HB.out | apply below_alloc | apply pw_below_drewN | apply below_drew1 | refine below_set ?_ GE186.out | refine below_set ?_ GE187.out) | exact HB.out))) : w.heap.size ≤ gb192));have n9_:=Aside0.mk ((by rw [hg];exact (below_size (by repeat (first | (with_reducible first | exact HB.out | apply below_alloc | apply pw_below_drewN | apply below_drew1 | refine below_set ?_ GE186.out | refine below_set ?_ GE187.out) | exact HB.out))) : w.heap.size ≤ gb192));have n10_:=Aside0.mk ((by rw [hg];exact Nat.ne_of_lt (blk_lt (g:=gb186) (o:=.cells #[.slice none 0 0,.slice none 0 0,.int .i64 x187002_1,.int .i64 x187003_1] 79 (0,0)) (by (with_reducible repeat (first | refine blk_drewN ?_ _ | refine blk_drew ?_ | refine blk_alloc ?_ _));exact BK186.out)) : gb186 ≠ gb192));have n11_:=Aside0.mk ((by rw [hg];exact Nat.ne_of_gt (blk_lt (g:=gb186) (o:=.cells #[.slice none 0 0,.slice none 0 0,.int .i64 x187002_1,.int .i64 x187003_1] 79 (0,0)) (by (with_reducible repeat (first | refine blk_drewN ?_ _ | refine blk_drew ?_ | refine blk_alloc ?_ _));exact BK186.out)) : gb192 ≠ gb186));have n12_:=Aside0.mk ((by rw [hg];exact Nat.ne_of_lt (blk_lt (g:=gb187) (o:=.cells #[u188000,u188001,.int .i64 x188002_1,.int .i64 x188003_1] 79 (0,0)) (by (with_reducible repeat (first | refine blk_drewN ?_ _ | refine blk_drew ?_ | refine blk_alloc ?_ _));exact BK187.out)) : gb187 ≠ gb192));have n13_:=Aside0.mk ((by rw [hg];exact Nat.ne_of_gt (blk_lt (g:=gb187) (o:=.cells #[u188000,u188001,.int .i64 x188002_1,.int .i64 x188003_1] 79 (0,0)) (by (with_reducible repeat (first | refine blk_drewN ?_ _ | refine blk_drew ?_ | refine blk_alloc ?_ _));exact BK187.out)) : gb192 ≠ gb187));clear HO_7;clear HO_8;clear HO_188000;clear HO_188001;clear BK186;clear BK187;clear HB;have HO_7:=n0_;have HO_8:=n1_;have HO_188000:=n2_;have HO_188001:=n3_;have BK186:=n4_;have BK187:=n5_;have HB:=n6_;have BK192:=n7_;have GW192:=n8_;have GE192:=n9_;have NB186_192:=n10_;have NB192_186:=n11_;have NB187_192:=n12_;have NB192_187:=n13_;clear n0_ n1_ n2_ n3_ n4_ n5_ n6_ n7_ n8_ n9_ n10_ n11_ n12_ n13_;clear hb hbox hg;have hnb14:=NB192_186.out;have hnc14:=NB186_192.out;have hnb15:=NB192_187.out;have hnc15:=NB187_192.out;have hcz16_0 : w13.cell? ⟨gb192,0,none⟩ = some (.int .i64 0):=(blk_cell BK192.out 0).trans rfl;have hcz16_1 : w13.cell? ⟨gb192,1,none⟩ = some (.int .i64 0):=(blk_cell BK192.out 1).trans rfl;have hcz16_2 : w13.cell? ⟨gb192,2,none⟩ = some (.slice none 0 0):=(blk_cell BK192.out 2).trans rfl;have hfz16_0:=blk_frozen BK192.out 0;have hfz16_1:=blk_frozen BK192.out 1;have hfz16_2:=blk_frozen BK192.out 2;have hnb17:=NB187_186.out;have hnc17:=NB186_187.out;have hcz18_0 : w13.cell? ⟨gb187,0,none⟩ = some (u188000):=(blk_cell BK187.out 0).trans rfl;have hcz18_1 : w13.cell? ⟨gb187,1,none⟩ = some (u188001):=(blk_cell BK187.out 1).trans rfl;have hcz18_2 : w13.cell? ⟨gb187,2,none⟩ = some (.int .i64 x188002_1):=(blk_cell BK187.out 2).trans rfl;have hcz18_3 : w13.cell? ⟨gb187,3,none⟩ = some (.int .i64 x188003_1):=(blk_cell BK187.out 3).trans rfl;have hfz18_0:=blk_frozen BK187.out 0;have hfz18_1:=blk_frozen BK187.out 1;have hfz18_2:=blk_frozen BK187.out 2;have hfz18_3:=blk_frozen BK187.out 3) | ((with_reducible refine gate_builtin (b:=.append) (xs:=#[.tmp 23,.tmp 25]) rfl ?_);at_builtin;refine Kd.R_append (Kd.int .i64) (w0:=w) w.heap.size rfl (.tmp 23) (.tmp 25) 29 3 (.int .i64 0) 8 rfl Try.underlying29 info3 rfl (by decide) (by omega) u188000 x188000_1 x4_1 [.int .i64 x4_1] (fun k_ => some k_ ≠ (u7 : Value).ownBlock) (fun _ => False) rfl (by first | (go_simp;done) | (go_simp;rfl)) ?aP (fun _ hk => hk.elim) ?aF ?aO ?aB ?aS ?aL ?_;(case aP => exact rfl);(case aB => exact (by repeat (first | (with_reducible first | exact HB.out | apply below_alloc | apply pw_below_drewN | apply below_drew1 | refine below_set ?_ GE186.out | refine below_set ?_ GE187.out | refine below_set ?_ GE192.out) | exact HB.out)));(case aF => exact (fun k_ hk => Kd.fresh' (Kd.R_lt (by (with_reducible repeat (first | apply Kd.R_alloc | apply Kd.R_drewN | apply Kd.R_drew));exact (Kd.R_mono (Kd.R_far (p:=⟨gb192,2,none⟩) (Kd.R_far (p:=⟨gb192,1,none⟩) (Kd.R_far (p:=⟨gb192,0,none⟩) (Kd.R_types HO_7.out BK192.out (by decide)) (fun _ hk => hk.2) (.int .i64 ((rd_T56 l0 x17_1).f0))) (fun _ hk => hk.2) (.int .i64 ((rd_T56 l0 x17_1).f1))) (fun _ hk => hk.2) (.slice A191_2 ((rd_T56 l0 x17_1).f2).length c191_2)) (fun _ h_ => h_.1)))) k_ hk));(case aO => exact (by (with_reducible repeat (first | apply Kd.R_alloc | apply Kd.R_drewN | apply Kd.R_drew));exact Kd.R_mono (Kd.R_far (p:=⟨gb192,2,none⟩) (Kd.R_far (p:=⟨gb192,1,none⟩) (Kd.R_far (p:=⟨gb192,0,none⟩) (Kd.R_types HO_188000.out BK192.out (by decide)) (fun _ hk => hk.2) (.int .i64 ((rd_T56 l0 x17_1).f0))) (fun _ hk => hk.2) (.int .i64 ((rd_T56 l0 x17_1).f1))) (fun _ hk => hk.2) (.slice A191_2 ((rd_T56 l0 x17_1).f2).length c191_2)) (fun _ hk => hk.1)));(case aS => exact (below_size (by repeat (first | (with_reducible first | exact HB.out | apply below_alloc | apply pw_below_drewN | apply below_drew1 | refine below_set ?_ GE186.out | refine below_set ?_ GE187.out | refine below_set ?_ GE192.out) | exact HB.out))));(case aL => have:=LMc9.out;omega);intro v194 w19 ho hb hg hat;rw [← Ny193.out] at ho;have n0_:=Aside0.mk (Kd.R_after (ok:=(fun _ => True)) (by (with_reducible repeat (first | apply Kd.R_alloc | apply Kd.R_drewN | apply Kd.R_drew));exact Kd.R_mono (Kd.R_far (p:=⟨gb192,2,none⟩) (Kd.R_far (p:=⟨gb192,1,none⟩) (Kd.R_far (p:=⟨gb192,0,none⟩) (Kd.R_types HO_7.out BK192.out (by decide)) (fun _ hk => hk.2) (.int .i64 ((rd_T56 l0 x17_1).f0))) (fun _ hk => hk.2) (.int .i64 ((rd_T56 l0 x17_1).f1))) (fun _ hk => hk.2) (.slice A191_2 ((rd_T56 l0 x17_1).f2).length c191_2)) (fun _ hk => ⟨trivial,hk.1⟩)) hg hat);have n1_:=Aside0.mk (Kd.R_over' (by (with_reducible repeat (first | apply Kd.R_alloc | apply Kd.R_drewN | apply Kd.R_drew));exact (Kd.R_mono (Kd.R_far (p:=⟨gb192,2,none⟩) (Kd.R_far (p:=⟨gb192,1,none⟩) (Kd.R_far (p:=⟨gb192,0,none⟩) (Kd.R_types HO_8.out BK192.out (by decide)) (fun _ hk => hk.2) (.int .i64 ((rd_T56 l0 x17_1).f0))) (fun _ hk => hk.2) (.int .i64 ((rd_T56 l0 x17_1).f1))) (fun _ hk => hk.2) (.slice A191_2 ((rd_T56 l0 x17_1).f2).length c191_2)) (fun _ h_ => h_.1))) (Kd.R_typed (by (with_reducible repeat (first | apply Kd.R_alloc | apply Kd.R_drewN | apply Kd.R_drew));exact (Kd.R_mono (Kd.R_far (p:=⟨gb192,2,none⟩) (Kd.R_far (p:=⟨gb192,1,none⟩) (Kd.R_far (p:=⟨gb192,0,none⟩) (Kd.R_types HO_188000.out BK192.out (by decide)) (fun _ hk => hk.2) (.int .i64 ((rd_T56 l0 x17_1).f0))) (fun _ hk => hk.2) (.int .i64 ((rd_T56 l0 x17_1).f1))) (fun _ hk => hk.2) (.slice A191_2 ((rd_T56 l0 x17_1).f2).length c191_2)) (fun _ h_ => h_.1)))) (by decide) hg);have n2_:=Aside0.mk (Kd.R_over' (by (with_reducible repeat (first | apply Kd.R_alloc | apply Kd.R_drewN | apply Kd.R_drew));exact (Kd.R_mono (Kd.R_far (p:=⟨gb192,2,none⟩) (Kd.R_far (p:=⟨gb192,1,none⟩) (Kd.R_far (p:=⟨gb192,0,none⟩) (Kd.R_types HO_188001.out BK192.out (by decide)) (fun _ hk => hk.2) (.int .i64 ((rd_T56 l0 x17_1).f0))) (fun _ hk => hk.2) (.int .i64 ((rd_T56 l0 x17_1).f1))) (fun _ hk => hk.2) (.slice A191_2 ((rd_T56 l0 x17_1).f2).length c191_2)) (fun _ h_ => h_.1))) (Kd.R_typed (by (with_reducible repeat (first | apply Kd.R_alloc | apply Kd.R_drewN | apply Kd.R_drew));exact (Kd.R_mono (Kd.R_far (p:=⟨gb192,2,none⟩) (Kd.R_far (p:=⟨gb192,1,none⟩) (Kd.R_far (p:=⟨gb192,0,none⟩) (Kd.R_types HO_188000.out BK192.out (by decide)) (fun _ hk => hk.2) (.int .i64 ((rd_T56 l0 x17_1).f0))) (fun _ hk => hk.2) (.int .i64 ((rd_T56 l0 x17_1).f1))) (fun _ hk => hk.2) (.slice A191_2 ((rd_T56 l0 x17_1).f2).length c191_2)) (fun _ h_ => h_.1)))) (by decide) hg);have n3_:=Aside0.mk (blk_grown (g:=gb186) (o:=.cells #[.slice none 0 0,.slice none 0 0,.int .i64 x187002_1,.int .i64 x187003_1] 79 (0,0)) (by (with_reducible repeat (first | refine blk_drewN ?_ _ | refine blk_drew ?_ | refine blk_alloc ?_ _));refine blk_far ?_ NB186_192.out _;(with_reducible repeat (first | refine blk_drewN ?_ _ | refine blk_drew ?_ | refine blk_alloc ?_ _));refine blk_far ?_ NB186_192.out _;(with_reducible repeat (first | refine blk_drewN ?_ _ | refine blk_drew ?_ | refine blk_alloc ?_ _));refine blk_far ?_ NB186_192.out _;(with_reducible repeat (first | refine blk_drewN ?_ _ | refine blk_drew ?_ | refine blk_alloc ?_ _));exact BK186.out) hg (Kd.R_ne HO_188000.out BK186.out (by decide)));have n4_:=Aside0.mk (blk_grown (g:=gb187) (o:=.cells #[u188000,u188001,.int .i64 x188002_1,.int .i64 x188003_1] 79 (0,0)) (by (with_reducible repeat (first | refine blk_drewN ?_ _ | refine blk_drew ?_ | refine blk_alloc ?_ _));refine blk_far ?_ NB187_192.out _;(with_reducible repeat (first | refine blk_drewN ?_ _ | refine blk_drew ?_ | refine blk_alloc ?_ _));refine blk_far ?_ NB187_192.out _;(with_reducible repeat (first | refine blk_drewN ?_ _ | refine blk_drew ?_ | refine blk_alloc ?_ _));refine blk_far ?_ NB187_192.out _;(with_reducible repeat (first | refine blk_drewN ?_ _ | refine blk_drew ?_ | refine blk_alloc ?_ _));exact BK187.out) hg (Kd.R_ne HO_188000.out BK187.out (by decide)));have n5_:=Aside0.mk (blk_grown (g:=gb192) (o:=.cells #[.int .i64 ((rd_T56 l0 x17_1).f0),.int .i64 ((rd_T56 l0 x17_1).f1),.slice A191_2 ((rd_T56 l0 x17_1).f2).length c191_2] 56 (0,0)) (by (with_reducible repeat (first | refine blk_drewN ?_ _ | refine blk_drew ?_ | refine blk_alloc ?_ _));refine blk_put (cs:=#[.int .i64 ((rd_T56 l0 x17_1).f0),.int .i64 ((rd_T56 l0 x17_1).f1),.slice none 0 0]) ?_ 2 _ rfl;(with_reducible repeat (first | refine blk_drewN ?_ _ | refine blk_drew ?_ | refine blk_alloc ?_ _));refine blk_put (cs:=#[.int .i64 ((rd_T56 l0 x17_1).f0),.int .i64 0,.slice none 0 0]) ?_ 1 _ rfl;(with_reducible repeat (first | refine blk_drewN ?_ _ | refine blk_drew ?_ | refine blk_alloc ?_ _));refine blk_put (cs:=#[.int .i64 0,.int .i64 0,.slice none 0 0]) ?_ 0 _ rfl;(with_reducible repeat (first | refine blk_drewN ?_ _ | refine blk_drew ?_ | refine blk_alloc ?_ _));exact BK192.out) hg (Kd.R_ne HO_188000.out BK192.out (by decide)));have n6_:=Aside0.mk (hb);have n7_:=Aside0.mk (ho);clear HO_7;clear HO_8;clear HO_188001;clear BK186;clear BK187;clear BK192;clear HB;clear HO_188000;have HO_7:=n0_;have HO_8:=n1_;have HO_188001:=n2_;have BK186:=n3_;have BK187:=n4_;have BK192:=n5_;have HB:=n6_;have HO195:=n7_;clear n0_ n1_ n2_ n3_ n4_ n5_ n6_ n7_;clear ho hb hg hat;obtain ⟨Ao20,co20,eo20⟩:=Kd.R_slice HO195.out;subst eo20;have hcz21_0 : w19.cell? ⟨gb187,0,none⟩ = some (u188000):=(blk_cell BK187.out 0).trans rfl;have hcz21_1 : w19.cell? ⟨gb187,1,none⟩ = some (u188001):=(blk_cell BK187.out 1).trans rfl;have hcz21_2 : w19.cell? ⟨gb187,2,none⟩ = some (.int .i64 x188002_1):=(blk_cell BK187.out 2).trans rfl;have hcz21_3 : w19.cell? ⟨gb187,3,none⟩ = some (.int .i64 x188003_1):=(blk_cell BK187.out 3).trans rfl;have hfz21_0:=blk_frozen BK187.out 0;have hfz21_1:=blk_frozen BK187.out 1;have hfz21_2:=blk_frozen BK187.out 2;have hfz21_3:=blk_frozen BK187.out 3) | ((with_reducible refine gate_builtin (b:=.append) (xs:=#[.tmp 29,.tmp 31]) rfl ?_);at_builtin;refine Kd.R_append Kd.bool (w0:=w) w.heap.size rfl (.tmp 29) (.tmp 31) 46 4 (.bool false) 1 rfl Try.underlying46 info4 rfl (by decide) (by omega) u188001 x188001_1 x6_1 [.bool x6_1] (fun k_ => some k_ ≠ (u8 : Value).ownBlock) (fun _ => False) rfl (by first | (go_simp;done) | (go_simp;rfl)) ?aP (fun _ hk => hk.elim) ?aF ?aO ?aB ?aS ?aL ?_;(case aP => exact rfl);(case aB => exact (by repeat (first | (with_reducible first | exact HB.out | apply below_alloc | apply pw_below_drewN | apply below_drew1 | refine below_set ?_ GE186.out | refine below_set ?_ GE187.out | refine below_set ?_ GE192.out) | exact HB.out)));(case aF => exact (fun k_ hk => Kd.fresh' (Kd.R_lt (by (with_reducible repeat (first | apply Kd.R_alloc | apply Kd.R_drewN | apply Kd.R_drew));exact (Kd.R_mono (Kd.R_far (p:=⟨gb187,0,none⟩) (Kd.R_types HO_8.out BK187.out (by decide)) (fun _ hk => hk.2) (.slice Ao20 y193.length co20)) (fun _ h_ => h_.1)))) k_ hk));(case aO => exact (by (with_reducible repeat (first | apply Kd.R_alloc | apply Kd.R_drewN | apply Kd.R_drew));exact Kd.R_mono (Kd.R_far (p:=⟨gb187,0,none⟩) (Kd.R_types HO_188001.out BK187.out (by decide)) (fun _ hk => hk.2) (.slice Ao20 y193.length co20)) (fun _ hk => hk.1)));(case aS => exact (below_size (by repeat (first | (with_reducible first | exact HB.out | apply below_alloc | apply pw_below_drewN | apply below_drew1 | refine below_set ?_ GE186.out | refine below_set ?_ GE187.out | refine below_set ?_ GE192.out) | exact HB.out))));(case aL => have:=LMc10.out;omega);intro v197 w22 ho hb hg hat;rw [← Ny196.out] at ho;have n0_:=Aside0.mk (Kd.R_over' (by (with_reducible repeat (first | apply Kd.R_alloc | apply Kd.R_drewN | apply Kd.R_drew));exact (Kd.R_mono (Kd.R_far (p:=⟨gb187,0,none⟩) (Kd.R_types HO_7.out BK187.out (by decide)) (fun _ hk => hk.2) (.slice Ao20 y193.length co20)) (fun _ h_ => h_.1))) (Kd.R_typed (by (with_reducible repeat (first | apply Kd.R_alloc | apply Kd.R_drewN | apply Kd.R_drew));exact (Kd.R_mono (Kd.R_far (p:=⟨gb187,0,none⟩) (Kd.R_types HO_188001.out BK187.out (by decide)) (fun _ hk => hk.2) (.slice Ao20 y193.length co20)) (fun _ h_ => h_.1)))) (by decide) hg);have n1_:=Aside0.mk (Kd.R_after (ok:=(fun _ => True)) (by (with_reducible repeat (first | apply Kd.R_alloc | apply Kd.R_drewN | apply Kd.R_drew));exact Kd.R_mono (Kd.R_far (p:=⟨gb187,0,none⟩) (Kd.R_types HO_8.out BK187.out (by decide)) (fun _ hk => hk.2) (.slice Ao20 y193.length co20)) (fun _ hk => ⟨trivial,hk.1⟩)) hg hat);have n2_:=Aside0.mk (blk_grown (g:=gb186) (o:=.cells #[.slice none 0 0,.slice none 0 0,.int .i64 x187002_1,.int .i64 x187003_1] 79 (0,0)) (by (with_reducible repeat (first | refine blk_drewN ?_ _ | refine blk_drew ?_ | refine blk_alloc ?_ _));refine blk_far ?_ NB186_187.out _;(with_reducible repeat (first | refine blk_drewN ?_ _ | refine blk_drew ?_ | refine blk_alloc ?_ _));exact BK186.out) hg (Kd.R_ne HO_188001.out BK186.out (by decide)));have n3_:=Aside0.mk (blk_grown (g:=gb187) (o:=.cells #[.slice Ao20 y193.length co20,u188001,.int .i64 x188002_1,.int .i64 x188003_1] 79 (0,0)) (by (with_reducible repeat (first | refine blk_drewN ?_ _ | refine blk_drew ?_ | refine blk_alloc ?_ _));refine blk_put (cs:=#[u188000,u188001,.int .i64 x188002_1,.int .i64 x188003_1]) ?_ 0 _ rfl;(with_reducible repeat (first | refine blk_drewN ?_ _ | refine blk_drew ?_ | refine blk_alloc ?_ _));exact BK187.out) hg (Kd.R_ne HO_188001.out BK187.out (by decide)));have n4_:=Aside0.mk (blk_grown (g:=gb192) (o:=.cells #[.int .i64 ((rd_T56 l0 x17_1).f0),.int .i64 ((rd_T56 l0 x17_1).f1),.slice A191_2 ((rd_T56 l0 x17_1).f2).length c191_2] 56 (0,0)) (by (with_reducible repeat (first | refine blk_drewN ?_ _ | refine blk_drew ?_ | refine blk_alloc ?_ _));refine blk_far ?_ NB192_187.out _;(with_reducible repeat (first | refine blk_drewN ?_ _ | refine blk_drew ?_ | refine blk_alloc ?_ _));exact BK192.out) hg (Kd.R_ne HO_188001.out BK192.out (by decide)));have n5_:=Aside0.mk (Kd.R_over' (by (with_reducible repeat (first | apply Kd.R_alloc | apply Kd.R_drewN | apply Kd.R_drew));exact (Kd.R_mono (Kd.R_far (p:=⟨gb187,0,none⟩) (Kd.R_types HO195.out BK187.out (by decide)) (fun _ hk => hk.2) (.slice Ao20 y193.length co20)) (fun _ h_ => h_.1))) (Kd.R_typed (by (with_reducible repeat (first | apply Kd.R_alloc | apply Kd.R_drewN | apply Kd.R_drew));exact (Kd.R_mono (Kd.R_far (p:=⟨gb187,0,none⟩) (Kd.R_types HO_188001.out BK187.out (by decide)) (fun _ hk => hk.2) (.slice Ao20 y193.length co20)) (fun _ h_ => h_.1)))) (by decide) hg);have n6_:=Aside0.mk (hb);have n7_:=Aside0.mk (ho);clear HO_7;clear HO_8;clear BK186;clear BK187;clear BK192;clear HO195;clear HB;clear HO_188001;have HO_7:=n0_;have HO_8:=n1_;have BK186:=n2_;have BK187:=n3_;have BK192:=n4_;have HO195:=n5_;have HB:=n6_;have HO198:=n7_;clear n0_ n1_ n2_ n3_ n4_ n5_ n6_ n7_;clear ho hb hg hat;obtain ⟨Ao23,co23,eo23⟩:=Kd.R_slice HO198.out;subst eo23;have hcz24_0 : w22.cell? ⟨gb187,0,none⟩ = some (.slice Ao20 y193.length co20):=(blk_cell BK187.out 0).trans rfl;have hcz24_1 : w22.cell? ⟨gb187,1,none⟩ = some (u188001):=(blk_cell BK187.out 1).trans rfl;have hcz24_2 : w22.cell? ⟨gb187,2,none⟩ = some (.int .i64 x188002_1):=(blk_cell BK187.out 2).trans rfl;have hcz24_3 : w22.cell? ⟨gb187,3,none⟩ = some (.int .i64 x188003_1):=(blk_cell BK187.out 3).trans rfl;have hfz24_0:=blk_frozen BK187.out 0;have hfz24_1:=blk_frozen BK187.out 1;have hfz24_2:=blk_frozen BK187.out 2;have hfz24_3:=blk_frozen BK187.out 3;have hcz25_0 : w22.cell? ⟨gb192,0,none⟩ = some (.int .i64 ((rd_T56 l0 x17_1).f0)):=(blk_cell BK192.out 0).trans rfl;have hcz25_1 : w22.cell? ⟨gb192,1,none⟩ = some (.int .i64 ((rd_T56 l0 x17_1).f1)):=(blk_cell BK192.out 1).trans rfl;have hcz25_2 : w22.cell? ⟨gb192,2,none⟩ = some (.slice A191_2 ((rd_T56 l0 x17_1).f2).length c191_2):=(blk_cell BK192.out 2).trans rfl;have hfz25_0:=blk_frozen BK192.out 0;have hfz25_1:=blk_frozen BK192.out 1;have hfz25_2:=blk_frozen BK192.out 2) | ((with_reducible refine gate_callee (f:=90) rfl ?_);refine goesL_ (some 39) rfl rfl Try.func90 (by kernel_rfl) rfl #[.int .i64 ((rd_T56 l0 x17_1).f0)] rfl (by (try simp only [List.map_toArray,List.map_cons,List.map_nil]);first | done | rfl | (simp only [List.length_drop,List.length_take];rfl)) ?_;(with_reducible refine (spec_l4Needs.calls k1 ((rd_T56 l0 x17_1).f0) t199 t200 _ A11.out).mono ?_);rintro e w' ⟨rfl,⟨nd,rfl⟩⟩;refine ⟨_,rfl,?_⟩))
        (try simp only [Act.put,List.setIfInBounds_toArray,List.set_cons_zero,List.set_cons_succ])
        go_cut [4] (fun v4 wc => ∃ (kq : Nat) (x4_11 : Int) (x187002_11 : Int) (x187003_11 : Int) (x188002_11 : Int),v4 = .int .i64 x4_11 ∧ Aside0 (spec_l4Walk.j1 kq l0 x4_11 x5_1 x6_1 x7_1 x8_1 t199 t200 l0 (l0.length : Int) x17_1 y193 y196 x188002_11 x17_1 ((rd_T56 l0 x17_1).f0) ((rd_T56 l0 x17_1).f1) ((rd_T56 l0 x17_1).f2) = some (r1,r2,r3,r4)) ∧ Aside0 (kq ≤ k1) ∧ Aside0 (Kd.R (Kd.int .i64) 3 wc w.heap.size (fun k_ => some k_ ≠ ((.slice Ao20 y193.length co20) : Value).ownBlock) u7 x7_1) ∧ Aside0 (Kd.R Kd.bool 4 wc w.heap.size (fun k_ => some k_ ≠ ((.slice Ao23 y196.length co23) : Value).ownBlock) u8 x8_1) ∧ Aside0 (Kd.R (Kd.int .i64) 3 wc w.heap.size (fun k_ => some k_ ≠ (u7 : Value).ownBlock) (.slice Ao20 y193.length co20) y193) ∧ Aside0 (Kd.R Kd.bool 4 wc w.heap.size (fun k_ => some k_ ≠ (u8 : Value).ownBlock) (.slice Ao23 y196.length co23) y196) ∧ Aside0 (wc.heap[gb186]? = some (.cells #[(.slice none 0 0),(.slice none 0 0),.int .i64 x187002_11,.int .i64 x187003_11] 79 (0,0))) ∧ Aside0 (wc.heap[gb187]? = some (.cells #[(.slice Ao20 y193.length co20),(.slice Ao23 y196.length co23),.int .i64 x188002_11,.int .i64 x17_1] 79 (0,0))) ∧ Aside0 (wc.heap[gb192]? = some (.cells #[.int .i64 ((rd_T56 l0 x17_1).f0),.int .i64 ((rd_T56 l0 x17_1).f1),(.slice A191_2 ((rd_T56 l0 x17_1).f2).length c191_2)] 56 (0,0))) ∧ Aside0 (Below w.heap.size w wc))
        case first =>
         have H:=HC12.out
         clear HC12
         by_cases c26 : (wrap64 (x4_1 - t199)) < x5_1
         ·rw [if_pos c26] at H
          have c26b0 : decide ((wrap64 (x4_1 - t199)) < x5_1) = true:=decide_eq_true c26
          clear c26
          (first | rw [c26b0] | (simp only [i64_w,i32_w];rw [c26b0]) | skip)
          by_cases c27 : x6_1 = true
          ·subst c27
           have H1 : (spec_l4Walk.j1 k1 l0 (wrap64 (x5_1 + t199)) x5_1 true x7_1 x8_1 t199 t200 l0 (l0.length : Int) x17_1 y193 y196 x188002_1 x17_1 ((rd_T56 l0 x17_1).f0) ((rd_T56 l0 x17_1).f1) ((rd_T56 l0 x17_1).f2)) = some (r1,r2,r3,r4):=by rw [if_pos rfl] at H;exact H
           clear H
           have H:=H1
           clear H1
           have H':=Aside0.mk H
           clear H
           go_wp2
           go_meet
           case rel => exact ⟨_,(wrap64 (x5_1 + t199)),(x187002_1),(x187003_1),(x188002_1),(by first | rfl | (simp;done) | (simp [*];done)),H',⟨by have:=HK1.out;first | omega | exact Nat.le_refl _⟩,⟨by (with_reducible repeat (first | apply Kd.R_alloc | apply Kd.R_drewN | apply Kd.R_drew));exact Kd.R_mono (Kd.R_far (p:=⟨gb187,3,none⟩) (Kd.R_far (p:=⟨gb187,1,none⟩) (Kd.R_types HO_7.out BK187.out (by decide)) (fun _ hk => hk.2) (.slice Ao23 y196.length co23)) (fun _ hk => hk.2) (.int .i64 x17_1)) (fun _ hk => hk.1.2)⟩,⟨by (with_reducible repeat (first | apply Kd.R_alloc | apply Kd.R_drewN | apply Kd.R_drew));exact Kd.R_mono (Kd.R_far (p:=⟨gb187,3,none⟩) (Kd.R_far (p:=⟨gb187,1,none⟩) (Kd.R_types HO_8.out BK187.out (by decide)) (fun _ hk => hk.2) (.slice Ao23 y196.length co23)) (fun _ hk => hk.2) (.int .i64 x17_1)) (fun _ hk => hk.1.2)⟩,⟨by (with_reducible repeat (first | apply Kd.R_alloc | apply Kd.R_drewN | apply Kd.R_drew));exact Kd.R_mono (Kd.R_far (p:=⟨gb187,3,none⟩) (Kd.R_far (p:=⟨gb187,1,none⟩) (Kd.R_types HO195.out BK187.out (by decide)) (fun _ hk => hk.2) (.slice Ao23 y196.length co23)) (fun _ hk => hk.2) (.int .i64 x17_1)) (fun _ hk => hk.1)⟩,⟨by (with_reducible repeat (first | apply Kd.R_alloc | apply Kd.R_drewN | apply Kd.R_drew));exact Kd.R_mono (Kd.R_far (p:=⟨gb187,3,none⟩) (Kd.R_far (p:=⟨gb187,1,none⟩) (Kd.R_types HO198.out BK187.out (by decide)) (fun _ hk => hk.2) (.slice Ao23 y196.length co23)) (fun _ hk => hk.2) (.int .i64 x17_1)) (fun _ hk => hk.1)⟩,⟨by (with_reducible repeat (first | refine blk_drewN ?_ _ | refine blk_drew ?_ | refine blk_alloc ?_ _));refine blk_far ?_ NB186_187.out _;(with_reducible repeat (first | refine blk_drewN ?_ _ | refine blk_drew ?_ | refine blk_alloc ?_ _));refine blk_far ?_ NB186_187.out _;(with_reducible repeat (first | refine blk_drewN ?_ _ | refine blk_drew ?_ | refine blk_alloc ?_ _));exact BK186.out⟩,⟨by (with_reducible repeat (first | refine blk_drewN ?_ _ | refine blk_drew ?_ | refine blk_alloc ?_ _));refine blk_put (cs:=#[.slice Ao20 y193.length co20,.slice Ao23 y196.length co23,.int .i64 x188002_1,.int .i64 x188003_1]) ?_ 3 _ rfl;(with_reducible repeat (first | refine blk_drewN ?_ _ | refine blk_drew ?_ | refine blk_alloc ?_ _));refine blk_put (cs:=#[.slice Ao20 y193.length co20,u188001,.int .i64 x188002_1,.int .i64 x188003_1]) ?_ 1 _ rfl;(with_reducible repeat (first | refine blk_drewN ?_ _ | refine blk_drew ?_ | refine blk_alloc ?_ _));exact BK187.out⟩,⟨by (with_reducible repeat (first | refine blk_drewN ?_ _ | refine blk_drew ?_ | refine blk_alloc ?_ _));refine blk_far ?_ NB192_187.out _;(with_reducible repeat (first | refine blk_drewN ?_ _ | refine blk_drew ?_ | refine blk_alloc ?_ _));refine blk_far ?_ NB192_187.out _;(with_reducible repeat (first | refine blk_drewN ?_ _ | refine blk_drew ?_ | refine blk_alloc ?_ _));exact BK192.out⟩,⟨by repeat (first | (with_reducible first | exact HB.out | apply below_alloc | apply pw_below_drewN | apply below_drew1 | refine below_set ?_ GE186.out | refine below_set ?_ GE187.out | refine below_set ?_ GE192.out) | exact HB.out)⟩⟩
          ·replace c27:=Bool.eq_false_iff.mpr c27
           subst c27
           have H1 : (some (y193,y196,2,x17_1)) = some (r1,r2,r3,r4):=by rw [if_neg (show ¬ (false = true) by decide)] at H;exact H
           clear H
           have H:=H1
           clear H1
           simp only [Option.some.injEq,Prod.mk.injEq] at H
           obtain ⟨rfl,rfl,rfl,rfl⟩:=H
           have hnb28:=NB187_186.out
           have hnc28:=NB186_187.out
           have hnb29:=NB187_192.out
           have hnc29:=NB192_187.out
           have hcz30_0 : w22.cell? ⟨gb187,0,none⟩ = some (.slice Ao20 y193.length co20):=(blk_cell BK187.out 0).trans rfl
           have hcz30_1 : w22.cell? ⟨gb187,1,none⟩ = some (u188001):=(blk_cell BK187.out 1).trans rfl
           have hcz30_2 : w22.cell? ⟨gb187,2,none⟩ = some (.int .i64 x188002_1):=(blk_cell BK187.out 2).trans rfl
           have hcz30_3 : w22.cell? ⟨gb187,3,none⟩ = some (.int .i64 x188003_1):=(blk_cell BK187.out 3).trans rfl
           have hfz30_0:=blk_frozen BK187.out 0
           have hfz30_1:=blk_frozen BK187.out 1
           have hfz30_2:=blk_frozen BK187.out 2
           have hfz30_3:=blk_frozen BK187.out 3
           have hnb31:=NB186_192.out
           have hnc31:=NB192_186.out
           have hcz32_0 : w22.cell? ⟨gb186,0,none⟩ = some (.slice none 0 0):=(blk_cell BK186.out 0).trans rfl
           have hcz32_1 : w22.cell? ⟨gb186,1,none⟩ = some (.slice none 0 0):=(blk_cell BK186.out 1).trans rfl
           have hcz32_2 : w22.cell? ⟨gb186,2,none⟩ = some (.int .i64 x187002_1):=(blk_cell BK186.out 2).trans rfl
           have hcz32_3 : w22.cell? ⟨gb186,3,none⟩ = some (.int .i64 x187003_1):=(blk_cell BK186.out 3).trans rfl
           have hfz32_0:=blk_frozen BK186.out 0
           have hfz32_1:=blk_frozen BK186.out 1
           have hfz32_2:=blk_frozen BK186.out 2
           have hfz32_3:=blk_frozen BK186.out 3
           go_wp2
           refine bodyPost_ret (results_cell_row rfl _ _ gb186 79 #[.slice Ao20 y193.length co20,.slice Ao23 y196.length co23,.int .i64 2,.int .i64 x17_1] (0,0) _ rfl (by (with_reducible repeat (first | refine blk_drewN ?_ _ | refine blk_drew ?_ | refine blk_alloc ?_ _));refine blk_put (cs:=#[.slice Ao20 y193.length co20,.slice Ao23 y196.length co23,.int .i64 2,.int .i64 x187003_1]) ?_ 3 _ rfl;(with_reducible repeat (first | refine blk_drewN ?_ _ | refine blk_drew ?_ | refine blk_alloc ?_ _));refine blk_put (cs:=#[.slice Ao20 y193.length co20,.slice Ao23 y196.length co23,.int .i64 x187002_1,.int .i64 x187003_1]) ?_ 2 _ rfl;(with_reducible repeat (first | refine blk_drewN ?_ _ | refine blk_drew ?_ | refine blk_alloc ?_ _));refine blk_put (cs:=#[.slice Ao20 y193.length co20,.slice none 0 0,.int .i64 x187002_1,.int .i64 x187003_1]) ?_ 1 _ rfl;(with_reducible repeat (first | refine blk_drewN ?_ _ | refine blk_drew ?_ | refine blk_alloc ?_ _));refine blk_put (cs:=#[.slice none 0 0,.slice none 0 0,.int .i64 x187002_1,.int .i64 x187003_1]) ?_ 0 _ rfl;(with_reducible repeat (first | refine blk_drewN ?_ _ | refine blk_drew ?_ | refine blk_alloc ?_ _));refine blk_far ?_ NB186_187.out _;(with_reducible repeat (first | refine blk_drewN ?_ _ | refine blk_drew ?_ | refine blk_alloc ?_ _));refine blk_far ?_ NB186_187.out _;(with_reducible repeat (first | refine blk_drewN ?_ _ | refine blk_drew ?_ | refine blk_alloc ?_ _));refine blk_far ?_ NB186_187.out _;(with_reducible repeat (first | refine blk_drewN ?_ _ | refine blk_drew ?_ | refine blk_alloc ?_ _));exact BK186.out) Try.underlying79 rfl (by kernel_rfl)) rfl ?_
           exact ⟨_,_,by first | rfl | (simp [errW_none,errW_some] <;> rfl) | (simp [*,errW_none,errW_some] <;> rfl),by (with_reducible repeat (first | apply Kd.R_alloc | apply Kd.R_drewN | apply Kd.R_drew));exact Kd.R_mono (Kd.R_far (p:=⟨gb186,3,none⟩) (Kd.R_far (p:=⟨gb186,2,none⟩) (Kd.R_far (p:=⟨gb186,1,none⟩) (Kd.R_far (p:=⟨gb186,0,none⟩) (Kd.R_far (p:=⟨gb187,2,none⟩) (Kd.R_far (p:=⟨gb187,3,none⟩) (Kd.R_far (p:=⟨gb187,1,none⟩) (Kd.R_types (Kd.R_types HO195.out BK187.out (by decide)) BK186.out (by decide)) (fun _ hk => hk.1.2) (.slice Ao23 y196.length co23)) (fun _ hk => hk.1.2) (.int .i64 x17_1)) (fun _ hk => hk.1.2) (.int .i64 2)) (fun _ hk => hk.2) (.slice Ao20 y193.length co20)) (fun _ hk => hk.2) (.slice Ao23 y196.length co23)) (fun _ hk => hk.2) (.int .i64 2)) (fun _ hk => hk.2) (.int .i64 x17_1)) (fun _ hk => trivial),by (with_reducible repeat (first | apply Kd.R_alloc | apply Kd.R_drewN | apply Kd.R_drew));exact Kd.R_mono (Kd.R_far (p:=⟨gb186,3,none⟩) (Kd.R_far (p:=⟨gb186,2,none⟩) (Kd.R_far (p:=⟨gb186,1,none⟩) (Kd.R_far (p:=⟨gb186,0,none⟩) (Kd.R_far (p:=⟨gb187,2,none⟩) (Kd.R_far (p:=⟨gb187,3,none⟩) (Kd.R_far (p:=⟨gb187,1,none⟩) (Kd.R_types (Kd.R_types HO198.out BK187.out (by decide)) BK186.out (by decide)) (fun _ hk => hk.1.2) (.slice Ao23 y196.length co23)) (fun _ hk => hk.1.2) (.int .i64 x17_1)) (fun _ hk => hk.1.2) (.int .i64 2)) (fun _ hk => hk.2) (.slice Ao20 y193.length co20)) (fun _ hk => hk.2) (.slice Ao23 y196.length co23)) (fun _ hk => hk.2) (.int .i64 2)) (fun _ hk => hk.2) (.int .i64 x17_1)) (fun _ hk => trivial),by repeat (first | (with_reducible first | exact HB.out | apply below_alloc | apply pw_below_drewN | apply below_drew1 | refine below_set ?_ GE186.out | refine below_set ?_ GE187.out | refine below_set ?_ GE192.out) | exact HB.out)⟩
         ·rw [if_neg c26] at H
          have c26b0 : decide ((wrap64 (x4_1 - t199)) < x5_1) = false:=decide_eq_false c26
          clear c26
          (first | rw [c26b0] | (simp only [i64_w,i32_w];rw [c26b0]) | skip)
          have H':=Aside0.mk H
          clear H
          go_wp2
          go_meet
          case rel => exact ⟨_,(x4_1),(x187002_1),(x187003_1),(x188002_1),(by first | rfl | (simp;done) | (simp [*];done)),H',⟨by have:=HK1.out;first | omega | exact Nat.le_refl _⟩,⟨by (with_reducible repeat (first | apply Kd.R_alloc | apply Kd.R_drewN | apply Kd.R_drew));exact Kd.R_mono (Kd.R_far (p:=⟨gb187,3,none⟩) (Kd.R_far (p:=⟨gb187,1,none⟩) (Kd.R_types HO_7.out BK187.out (by decide)) (fun _ hk => hk.2) (.slice Ao23 y196.length co23)) (fun _ hk => hk.2) (.int .i64 x17_1)) (fun _ hk => hk.1.2)⟩,⟨by (with_reducible repeat (first | apply Kd.R_alloc | apply Kd.R_drewN | apply Kd.R_drew));exact Kd.R_mono (Kd.R_far (p:=⟨gb187,3,none⟩) (Kd.R_far (p:=⟨gb187,1,none⟩) (Kd.R_types HO_8.out BK187.out (by decide)) (fun _ hk => hk.2) (.slice Ao23 y196.length co23)) (fun _ hk => hk.2) (.int .i64 x17_1)) (fun _ hk => hk.1.2)⟩,⟨by (with_reducible repeat (first | apply Kd.R_alloc | apply Kd.R_drewN | apply Kd.R_drew));exact Kd.R_mono (Kd.R_far (p:=⟨gb187,3,none⟩) (Kd.R_far (p:=⟨gb187,1,none⟩) (Kd.R_types HO195.out BK187.out (by decide)) (fun _ hk => hk.2) (.slice Ao23 y196.length co23)) (fun _ hk => hk.2) (.int .i64 x17_1)) (fun _ hk => hk.1)⟩,⟨by (with_reducible repeat (first | apply Kd.R_alloc | apply Kd.R_drewN | apply Kd.R_drew));exact Kd.R_mono (Kd.R_far (p:=⟨gb187,3,none⟩) (Kd.R_far (p:=⟨gb187,1,none⟩) (Kd.R_types HO198.out BK187.out (by decide)) (fun _ hk => hk.2) (.slice Ao23 y196.length co23)) (fun _ hk => hk.2) (.int .i64 x17_1)) (fun _ hk => hk.1)⟩,⟨by (with_reducible repeat (first | refine blk_drewN ?_ _ | refine blk_drew ?_ | refine blk_alloc ?_ _));refine blk_far ?_ NB186_187.out _;(with_reducible repeat (first | refine blk_drewN ?_ _ | refine blk_drew ?_ | refine blk_alloc ?_ _));refine blk_far ?_ NB186_187.out _;(with_reducible repeat (first | refine blk_drewN ?_ _ | refine blk_drew ?_ | refine blk_alloc ?_ _));exact BK186.out⟩,⟨by (with_reducible repeat (first | refine blk_drewN ?_ _ | refine blk_drew ?_ | refine blk_alloc ?_ _));refine blk_put (cs:=#[.slice Ao20 y193.length co20,.slice Ao23 y196.length co23,.int .i64 x188002_1,.int .i64 x188003_1]) ?_ 3 _ rfl;(with_reducible repeat (first | refine blk_drewN ?_ _ | refine blk_drew ?_ | refine blk_alloc ?_ _));refine blk_put (cs:=#[.slice Ao20 y193.length co20,u188001,.int .i64 x188002_1,.int .i64 x188003_1]) ?_ 1 _ rfl;(with_reducible repeat (first | refine blk_drewN ?_ _ | refine blk_drew ?_ | refine blk_alloc ?_ _));exact BK187.out⟩,⟨by (with_reducible repeat (first | refine blk_drewN ?_ _ | refine blk_drew ?_ | refine blk_alloc ?_ _));refine blk_far ?_ NB192_187.out _;(with_reducible repeat (first | refine blk_drewN ?_ _ | refine blk_drew ?_ | refine blk_alloc ?_ _));refine blk_far ?_ NB192_187.out _;(with_reducible repeat (first | refine blk_drewN ?_ _ | refine blk_drew ?_ | refine blk_alloc ?_ _));exact BK192.out⟩,⟨by repeat (first | (with_reducible first | exact HB.out | apply below_alloc | apply pw_below_drewN | apply below_drew1 | refine below_set ?_ GE186.out | refine below_set ?_ GE187.out | refine below_set ?_ GE192.out) | exact HB.out)⟩⟩
        case rest =>
         clear HC12
         try clear c1
         try clear p1
         try clear q1
         try clear hx1
         try clear c2
         try clear p2
         try clear c3
         try clear c4
         try clear c6
         try clear c6b0
         try clear p6
         try clear c7
         try clear c7b0
         try clear c8
         try clear c8b0
         try clear c9
         try clear c10
         try clear c14
         try clear c15
         try clear c17
         try clear c19
         try clear p19
         try clear q19
         try clear hx19
         try clear c26
         try clear c26b0
         try clear c27
         try clear c28
         try clear c29
         try clear c31
         try clear hcz16_0
         try clear hcz16_1
         try clear hcz16_2
         try clear hcz18_0
         try clear hcz18_1
         try clear hcz18_2
         try clear hcz18_3
         try clear hcz21_0
         try clear hcz21_1
         try clear hcz21_2
         try clear hcz21_3
         try clear hcz24_0
         try clear hcz24_1
         try clear hcz24_2
         try clear hcz24_3
         try clear hcz25_0
         try clear hcz25_1
         try clear hcz25_2
         try clear hcz30_0
         try clear hcz30_1
         try clear hcz30_2
         try clear hcz30_3
         try clear hcz32_0
         try clear hcz32_1
         try clear hcz32_2
         try clear hcz32_3
         try clear hcz5_0
         try clear hcz5_1
         try clear hcz5_2
         try clear hcz5_3
         try clear hfz16_0
         try clear hfz16_1
         try clear hfz16_2
         try clear hfz18_0
         try clear hfz18_1
         try clear hfz18_2
         try clear hfz18_3
         try clear hfz21_0
         try clear hfz21_1
         try clear hfz21_2
         try clear hfz21_3
         try clear hfz24_0
         try clear hfz24_1
         try clear hfz24_2
         try clear hfz24_3
         try clear hfz25_0
         try clear hfz25_1
         try clear hfz25_2
         try clear hfz30_0
         try clear hfz30_1
         try clear hfz30_2
         try clear hfz30_3
         try clear hfz32_0
         try clear hfz32_1
         try clear hfz32_2
         try clear hfz32_3
         try clear hfz5_0
         try clear hfz5_1
         try clear hfz5_2
         try clear hfz5_3
         try clear hx191_0
         try clear hx191_1
         try clear hx191_2
         try clear p191
         try clear p2
         try clear q191
         obtain ⟨kq,x4_11,x187002_11,x187003_11,x188002_11,rfl,HA,HJ11,HO_7,HO_8,HO_188000,HO_188001,BK186,BK187,BK192,HB⟩:=hcut
         cases kq with
         | zero => exact absurd HA.out (by simp [spec_l4Walk.j1])
         | succ kj11 =>
          have H:=HA.out
          clear HA
          simp only [spec_l4Walk.j1] at H
          by_cases c33 : (wrap64 (x4_11 + (wrap64 (t200 - t199)))) > 4
          ·rw [if_pos c33] at H
           have c33b0 : decide (4 < (wrap64 (x4_11 + (wrap64 (t200 - t199))))) = true:=decide_eq_true c33
           clear c33
           simp only [Option.some.injEq,Prod.mk.injEq] at H
           obtain ⟨rfl,rfl,rfl,rfl⟩:=H
           have hnb34:=NB187_186.out
           have hnc34:=NB186_187.out
           have hnb35:=NB187_192.out
           have hnc35:=NB192_187.out
           have hcz36_0 : wc.cell? ⟨gb187,0,none⟩ = some (.slice Ao20 y193.length co20):=(blk_cell BK187.out 0).trans rfl
           have hcz36_1 : wc.cell? ⟨gb187,1,none⟩ = some (.slice Ao23 y196.length co23):=(blk_cell BK187.out 1).trans rfl
           have hcz36_2 : wc.cell? ⟨gb187,2,none⟩ = some (.int .i64 x188002_11):=(blk_cell BK187.out 2).trans rfl
           have hcz36_3 : wc.cell? ⟨gb187,3,none⟩ = some (.int .i64 x17_1):=(blk_cell BK187.out 3).trans rfl
           have hfz36_0:=blk_frozen BK187.out 0
           have hfz36_1:=blk_frozen BK187.out 1
           have hfz36_2:=blk_frozen BK187.out 2
           have hfz36_3:=blk_frozen BK187.out 3
           have hnb37:=NB186_192.out
           have hnc37:=NB192_186.out
           have hcz38_0 : wc.cell? ⟨gb186,0,none⟩ = some (.slice none 0 0):=(blk_cell BK186.out 0).trans rfl
           have hcz38_1 : wc.cell? ⟨gb186,1,none⟩ = some (.slice none 0 0):=(blk_cell BK186.out 1).trans rfl
           have hcz38_2 : wc.cell? ⟨gb186,2,none⟩ = some (.int .i64 x187002_11):=(blk_cell BK186.out 2).trans rfl
           have hcz38_3 : wc.cell? ⟨gb186,3,none⟩ = some (.int .i64 x187003_11):=(blk_cell BK186.out 3).trans rfl
           have hfz38_0:=blk_frozen BK186.out 0
           have hfz38_1:=blk_frozen BK186.out 1
           have hfz38_2:=blk_frozen BK186.out 2
           have hfz38_3:=blk_frozen BK186.out 3
           go_wp2
           refine bodyPost_ret (results_cell_row rfl _ _ gb186 79 #[.slice Ao20 y193.length co20,.slice Ao23 y196.length co23,.int .i64 4,.int .i64 x17_1] (0,0) _ rfl (by (with_reducible repeat (first | refine blk_drewN ?_ _ | refine blk_drew ?_ | refine blk_alloc ?_ _));refine blk_put (cs:=#[.slice Ao20 y193.length co20,.slice Ao23 y196.length co23,.int .i64 4,.int .i64 x187003_11]) ?_ 3 _ rfl;(with_reducible repeat (first | refine blk_drewN ?_ _ | refine blk_drew ?_ | refine blk_alloc ?_ _));refine blk_put (cs:=#[.slice Ao20 y193.length co20,.slice Ao23 y196.length co23,.int .i64 x187002_11,.int .i64 x187003_11]) ?_ 2 _ rfl;(with_reducible repeat (first | refine blk_drewN ?_ _ | refine blk_drew ?_ | refine blk_alloc ?_ _));refine blk_put (cs:=#[.slice Ao20 y193.length co20,.slice none 0 0,.int .i64 x187002_11,.int .i64 x187003_11]) ?_ 1 _ rfl;(with_reducible repeat (first | refine blk_drewN ?_ _ | refine blk_drew ?_ | refine blk_alloc ?_ _));refine blk_put (cs:=#[.slice none 0 0,.slice none 0 0,.int .i64 x187002_11,.int .i64 x187003_11]) ?_ 0 _ rfl;(with_reducible repeat (first | refine blk_drewN ?_ _ | refine blk_drew ?_ | refine blk_alloc ?_ _));refine blk_far ?_ NB186_187.out _;(with_reducible repeat (first | refine blk_drewN ?_ _ | refine blk_drew ?_ | refine blk_alloc ?_ _));exact BK186.out) Try.underlying79 rfl (by kernel_rfl)) rfl ?_
           exact ⟨_,_,by first | rfl | (simp [errW_none,errW_some] <;> rfl) | (simp [*,errW_none,errW_some] <;> rfl),by (with_reducible repeat (first | apply Kd.R_alloc | apply Kd.R_drewN | apply Kd.R_drew));exact Kd.R_mono (Kd.R_far (p:=⟨gb186,3,none⟩) (Kd.R_far (p:=⟨gb186,2,none⟩) (Kd.R_far (p:=⟨gb186,1,none⟩) (Kd.R_far (p:=⟨gb186,0,none⟩) (Kd.R_far (p:=⟨gb187,2,none⟩) (Kd.R_types (Kd.R_types HO_188000.out BK187.out (by decide)) BK186.out (by decide)) (fun _ hk => hk.1.2) (.int .i64 4)) (fun _ hk => hk.2) (.slice Ao20 y193.length co20)) (fun _ hk => hk.2) (.slice Ao23 y196.length co23)) (fun _ hk => hk.2) (.int .i64 4)) (fun _ hk => hk.2) (.int .i64 x17_1)) (fun _ hk => trivial),by (with_reducible repeat (first | apply Kd.R_alloc | apply Kd.R_drewN | apply Kd.R_drew));exact Kd.R_mono (Kd.R_far (p:=⟨gb186,3,none⟩) (Kd.R_far (p:=⟨gb186,2,none⟩) (Kd.R_far (p:=⟨gb186,1,none⟩) (Kd.R_far (p:=⟨gb186,0,none⟩) (Kd.R_far (p:=⟨gb187,2,none⟩) (Kd.R_types (Kd.R_types HO_188001.out BK187.out (by decide)) BK186.out (by decide)) (fun _ hk => hk.1.2) (.int .i64 4)) (fun _ hk => hk.2) (.slice Ao20 y193.length co20)) (fun _ hk => hk.2) (.slice Ao23 y196.length co23)) (fun _ hk => hk.2) (.int .i64 4)) (fun _ hk => hk.2) (.int .i64 x17_1)) (fun _ hk => trivial),by repeat (first | (with_reducible first | exact HB.out | apply below_alloc | apply pw_below_drewN | apply below_drew1 | refine below_set ?_ GE186.out | refine below_set ?_ GE187.out | refine below_set ?_ GE192.out) | exact HB.out)⟩
          ·rw [if_neg c33] at H
           have c33b0 : decide (4 < (wrap64 (x4_11 + (wrap64 (t200 - t199))))) = false:=decide_eq_false c33
           clear c33
           replace H:=Option.bind_eq_some_iff.mp H
           obtain ⟨t201,A390,H⟩:=H
           replace H : (if t201 = true then (if x7_1.length < 17592186044416 then (if x8_1.length < 140737488355328 then (spec_l4Walk.l0 kj11 l0 (wrap64 (x4_11 + (wrap64 (t200 - t199)))) (wrap64 (x4_11 + (wrap64 (t200 - t199)))) x6_1 (x7_1 ++ [x5_1]) (x8_1 ++ [x6_1]) l0 (l0.length : Int) (wrap64 (x17_1 + 1)) y193 y196 x188002_11 x17_1) else (none)) else (none)) else (if ((rd_T56 l0 x17_1).f0) = 18 then (spec_l4Walk.j2 kj11 l0 (wrap64 (x4_11 + (wrap64 (t200 - t199)))) x5_1 x6_1 x7_1 x8_1 (x7_1.length : Int) l0 (l0.length : Int) x17_1 true y193 y196 x188002_11 x17_1 ((rd_T56 l0 x17_1).f0) ((rd_T56 l0 x17_1).f1) ((rd_T56 l0 x17_1).f2)) else (spec_l4Walk.j2 kj11 l0 (wrap64 (x4_11 + (wrap64 (t200 - t199)))) x5_1 x6_1 x7_1 x8_1 (x7_1.length : Int) l0 (l0.length : Int) x17_1 (((rd_T56 l0 x17_1).f0) == 19) y193 y196 x188002_11 x17_1 ((rd_T56 l0 x17_1).f0) ((rd_T56 l0 x17_1).f1) ((rd_T56 l0 x17_1).f2)))) = some (r1,r2,r3,r4):=H
           have A39:=Aside0.mk A390
           clear A390
           by_cases c40 : t201 = true
           ·subst c40
            have H1 : (if x7_1.length < 17592186044416 then (if x8_1.length < 140737488355328 then (spec_l4Walk.l0 kj11 l0 (wrap64 (x4_11 + (wrap64 (t200 - t199)))) (wrap64 (x4_11 + (wrap64 (t200 - t199)))) x6_1 (x7_1 ++ [x5_1]) (x8_1 ++ [x6_1]) l0 (l0.length : Int) (wrap64 (x17_1 + 1)) y193 y196 x188002_11 x17_1) else (none)) else (none)) = some (r1,r2,r3,r4):=by rw [if_pos rfl] at H;exact H
            clear H
            have H:=H1
            clear H1
            by_cases c41 : x7_1.length < 17592186044416
            ·rw [if_pos c41] at H
             have LMc41:=Aside0.mk c41
             clear c41
             obtain ⟨y202,hy202⟩ : ∃ y_ : List Int,y_ = (x7_1 ++ [x5_1]):=⟨_,rfl⟩
             replace H : (if x8_1.length < 140737488355328 then (spec_l4Walk.l0 kj11 l0 (wrap64 (x4_11 + (wrap64 (t200 - t199)))) (wrap64 (x4_11 + (wrap64 (t200 - t199)))) x6_1 y202 (x8_1 ++ [x6_1]) l0 (l0.length : Int) (wrap64 (x17_1 + 1)) y193 y196 x188002_11 x17_1) else (none)) = some (r1,r2,r3,r4):=by first | (rw [hy202];with_reducible exact H) | (have H2_:=(Option.bind_some _ _).symm.trans H;rw [hy202];with_reducible exact H2_) | (have H2_:=(Option.bind_some _ _).symm.trans H;with_reducible exact H2_) | with_reducible exact H | (rw [hy202];exact H) | exact H
             have Ny202:=Aside0.mk hy202
             clear hy202
             by_cases c42 : x8_1.length < 140737488355328
             ·rw [if_pos c42] at H
              have LMc42:=Aside0.mk c42
              clear c42
              obtain ⟨y205,hy205⟩ : ∃ y_ : List Bool,y_ = (x8_1 ++ [x6_1]):=⟨_,rfl⟩
              replace H : (spec_l4Walk.l0 kj11 l0 (wrap64 (x4_11 + (wrap64 (t200 - t199)))) (wrap64 (x4_11 + (wrap64 (t200 - t199)))) x6_1 y202 y205 l0 (l0.length : Int) (wrap64 (x17_1 + 1)) y193 y196 x188002_11 x17_1) = some (r1,r2,r3,r4):=by first | (rw [hy205];with_reducible exact H) | (have H2_:=(Option.bind_some _ _).symm.trans H;rw [hy205];with_reducible exact H2_) | (have H2_:=(Option.bind_some _ _).symm.trans H;with_reducible exact H2_) | with_reducible exact H | (rw [hy205];exact H) | exact H
              have Ny205:=Aside0.mk hy205
              clear hy205
              have H':=Aside0.mk H
              clear H
              obtain ⟨Ao43,co43,eo43⟩:=Kd.R_slice HO_7.out
              subst eo43
              have hnb44:=NB192_186.out
              have hnc44:=NB186_192.out
              have hnb45:=NB192_187.out
              have hnc45:=NB187_192.out
              have hcz46_0 : wc.cell? ⟨gb192,0,none⟩ = some (.int .i64 ((rd_T56 l0 x17_1).f0)):=(blk_cell BK192.out 0).trans rfl
              have hcz46_1 : wc.cell? ⟨gb192,1,none⟩ = some (.int .i64 ((rd_T56 l0 x17_1).f1)):=(blk_cell BK192.out 1).trans rfl
              have hcz46_2 : wc.cell? ⟨gb192,2,none⟩ = some (.slice A191_2 ((rd_T56 l0 x17_1).f2).length c191_2):=(blk_cell BK192.out 2).trans rfl
              have hfz46_0:=blk_frozen BK192.out 0
              have hfz46_1:=blk_frozen BK192.out 1
              have hfz46_2:=blk_frozen BK192.out 2
              go_wp2_with (first | ((with_reducible refine gate_callee (f:=74) rfl ?_);refine goesL_ (some 68) rfl rfl Try.func74 (by kernel_rfl) rfl #[.int .i64 ((rd_T56 l0 x17_1).f0)] rfl (by (try simp only [List.map_toArray,List.map_cons,List.map_nil]);first | done | rfl | (simp only [List.length_drop,List.length_take];rfl)) ?_;(with_reducible refine (spec_l3Opens.calls ((rd_T56 l0 x17_1).f0) true _ A39.out).mono ?_);rintro e w' ⟨rfl,⟨nd,rfl⟩⟩;refine ⟨_,rfl,?_⟩) | ((with_reducible refine gate_builtin (b:=.append) (xs:=#[.tmp 69,.tmp 71]) rfl ?_);at_builtin;refine Kd.R_append (Kd.int .i64) (w0:=w) w.heap.size rfl (.tmp 69) (.tmp 71) 29 3 (.int .i64 0) 8 rfl Try.underlying29 info3 rfl (by decide) (by omega) (.slice Ao43 x7_1.length co43) x7_1 x5_1 [.int .i64 x5_1] (fun k_ => some k_ ≠ (.slice Ao20 y193.length co20 : Value).ownBlock) (fun _ => False) rfl rfl ?aP (fun _ hk => hk.elim) ?aF ?aO ?aB ?aS ?aL ?_;(case aP => exact rfl);(case aB => exact (by repeat (first | (with_reducible first | exact HB.out | apply below_alloc | apply pw_below_drewN | apply below_drew1 | refine below_set ?_ GE186.out | refine below_set ?_ GE187.out | refine below_set ?_ GE192.out) | exact HB.out)));(case aF => exact (fun k_ hk => Kd.fresh' (Kd.R_lt (by (with_reducible repeat (first | apply Kd.R_alloc | apply Kd.R_drewN | apply Kd.R_drew));exact HO_188000.out)) k_ hk));(case aO => exact (by (with_reducible repeat (first | apply Kd.R_alloc | apply Kd.R_drewN | apply Kd.R_drew));exact HO_7.out));(case aS => exact (below_size (by repeat (first | (with_reducible first | exact HB.out | apply below_alloc | apply pw_below_drewN | apply below_drew1 | refine below_set ?_ GE186.out | refine below_set ?_ GE187.out | refine below_set ?_ GE192.out) | exact HB.out))));(case aL => have:=LMc41.out;omega);intro v203 w47 ho hb hg hat;rw [← Ny202.out] at ho;have n0_:=Aside0.mk (Kd.R_over' (by (with_reducible repeat (first | apply Kd.R_alloc | apply Kd.R_drewN | apply Kd.R_drew));exact HO_8.out) (Kd.R_typed (by (with_reducible repeat (first | apply Kd.R_alloc | apply Kd.R_drewN | apply Kd.R_drew));exact HO_7.out)) (by decide) hg);have n1_:=Aside0.mk (Kd.R_after (ok:=(fun _ => True)) (by (with_reducible repeat (first | apply Kd.R_alloc | apply Kd.R_drewN | apply Kd.R_drew));exact Kd.R_mono HO_188000.out (fun _ hk => ⟨trivial,hk⟩)) hg hat);have n2_:=Aside0.mk (Kd.R_over' (by (with_reducible repeat (first | apply Kd.R_alloc | apply Kd.R_drewN | apply Kd.R_drew));exact HO_188001.out) (Kd.R_typed (by (with_reducible repeat (first | apply Kd.R_alloc | apply Kd.R_drewN | apply Kd.R_drew));exact HO_7.out)) (by decide) hg);have n3_:=Aside0.mk (blk_grown (g:=gb186) (o:=.cells #[.slice none 0 0,.slice none 0 0,.int .i64 x187002_11,.int .i64 x187003_11] 79 (0,0)) (by (with_reducible repeat (first | refine blk_drewN ?_ _ | refine blk_drew ?_ | refine blk_alloc ?_ _));exact BK186.out) hg (Kd.R_ne HO_7.out BK186.out (by decide)));have n4_:=Aside0.mk (blk_grown (g:=gb187) (o:=.cells #[.slice Ao20 y193.length co20,.slice Ao23 y196.length co23,.int .i64 x188002_11,.int .i64 x17_1] 79 (0,0)) (by (with_reducible repeat (first | refine blk_drewN ?_ _ | refine blk_drew ?_ | refine blk_alloc ?_ _));exact BK187.out) hg (Kd.R_ne HO_7.out BK187.out (by decide)));have n5_:=Aside0.mk (blk_grown (g:=gb192) (o:=.cells #[.int .i64 ((rd_T56 l0 x17_1).f0),.int .i64 ((rd_T56 l0 x17_1).f1),.slice A191_2 ((rd_T56 l0 x17_1).f2).length c191_2] 56 (0,0)) (by (with_reducible repeat (first | refine blk_drewN ?_ _ | refine blk_drew ?_ | refine blk_alloc ?_ _));exact BK192.out) hg (Kd.R_ne HO_7.out BK192.out (by decide)));have n6_:=Aside0.mk (hb);have n7_:=Aside0.mk (ho);clear HO_8;clear HO_188000;clear HO_188001;clear BK186;clear BK187;clear BK192;clear HB;clear HO_7;have HO_8:=n0_;have HO_188000:=n1_;have HO_188001:=n2_;have BK186:=n3_;have BK187:=n4_;have BK192:=n5_;have HB:=n6_;have HO204:=n7_;clear n0_ n1_ n2_ n3_ n4_ n5_ n6_ n7_;clear ho hb hg hat) | ((with_reducible refine gate_builtin (b:=.append) (xs:=#[.tmp 73,.tmp 75]) rfl ?_);at_builtin;refine Kd.R_append Kd.bool (w0:=w) w.heap.size rfl (.tmp 73) (.tmp 75) 46 4 (.bool false) 1 rfl Try.underlying46 info4 rfl (by decide) (by omega) u8 x8_1 x6_1 [.bool x6_1] (fun k_ => some k_ ≠ (.slice Ao23 y196.length co23 : Value).ownBlock) (fun _ => False) rfl rfl ?aP (fun _ hk => hk.elim) ?aF ?aO ?aB ?aS ?aL ?_;(case aP => exact rfl);(case aB => exact (by repeat (first | (with_reducible first | exact HB.out | apply below_alloc | apply pw_below_drewN | apply below_drew1 | refine below_set ?_ GE186.out | refine below_set ?_ GE187.out | refine below_set ?_ GE192.out) | exact HB.out)));(case aF => exact (fun k_ hk => Kd.fresh' (Kd.R_lt (by (with_reducible repeat (first | apply Kd.R_alloc | apply Kd.R_drewN | apply Kd.R_drew));exact HO_188001.out)) k_ hk));(case aO => exact (by (with_reducible repeat (first | apply Kd.R_alloc | apply Kd.R_drewN | apply Kd.R_drew));exact HO_8.out));(case aS => exact (below_size (by repeat (first | (with_reducible first | exact HB.out | apply below_alloc | apply pw_below_drewN | apply below_drew1 | refine below_set ?_ GE186.out | refine below_set ?_ GE187.out | refine below_set ?_ GE192.out) | exact HB.out))));(case aL => have:=LMc42.out;omega);intro v206 w48 ho hb hg hat;rw [← Ny205.out] at ho;have n0_:=Aside0.mk (Kd.R_over' (by (with_reducible repeat (first | apply Kd.R_alloc | apply Kd.R_drewN | apply Kd.R_drew));exact HO_188000.out) (Kd.R_typed (by (with_reducible repeat (first | apply Kd.R_alloc | apply Kd.R_drewN | apply Kd.R_drew));exact HO_8.out)) (by decide) hg);have n1_:=Aside0.mk (Kd.R_after (ok:=(fun _ => True)) (by (with_reducible repeat (first | apply Kd.R_alloc | apply Kd.R_drewN | apply Kd.R_drew));exact Kd.R_mono HO_188001.out (fun _ hk => ⟨trivial,hk⟩)) hg hat);have n2_:=Aside0.mk (blk_grown (g:=gb186) (o:=.cells #[.slice none 0 0,.slice none 0 0,.int .i64 x187002_11,.int .i64 x187003_11] 79 (0,0)) (by (with_reducible repeat (first | refine blk_drewN ?_ _ | refine blk_drew ?_ | refine blk_alloc ?_ _));exact BK186.out) hg (Kd.R_ne HO_8.out BK186.out (by decide)));have n3_:=Aside0.mk (blk_grown (g:=gb187) (o:=.cells #[.slice Ao20 y193.length co20,.slice Ao23 y196.length co23,.int .i64 x188002_11,.int .i64 x17_1] 79 (0,0)) (by (with_reducible repeat (first | refine blk_drewN ?_ _ | refine blk_drew ?_ | refine blk_alloc ?_ _));exact BK187.out) hg (Kd.R_ne HO_8.out BK187.out (by decide)));have n4_:=Aside0.mk (blk_grown (g:=gb192) (o:=.cells #[.int .i64 ((rd_T56 l0 x17_1).f0),.int .i64 ((rd_T56 l0 x17_1).f1),.slice A191_2 ((rd_T56 l0 x17_1).f2).length c191_2] 56 (0,0)) (by (with_reducible repeat (first | refine blk_drewN ?_ _ | refine blk_drew ?_ | refine blk_alloc ?_ _));exact BK192.out) hg (Kd.R_ne HO_8.out BK192.out (by decide)));have n5_:=Aside0.mk (Kd.R_over' (by (with_reducible repeat (first | apply Kd.R_alloc | apply Kd.R_drewN | apply Kd.R_drew));exact HO204.out) (Kd.R_typed (by (with_reducible repeat (first | apply Kd.R_alloc | apply Kd.R_drewN | apply Kd.R_drew));exact HO_8.out)) (by decide) hg);have n6_:=Aside0.mk (hb);have n7_:=Aside0.mk (ho);clear HO_188000;clear HO_188001;clear BK186;clear BK187;clear BK192;clear HO204;clear HB;clear HO_8;have HO_188000:=n0_;have HO_188001:=n1_;have BK186:=n2_;have BK187:=n3_;have BK192:=n4_;have HO204:=n5_;have HB:=n6_;have HO207:=n7_;clear n0_ n1_ n2_ n3_ n4_ n5_ n6_ n7_;clear ho hb hg hat))
              go_roundg kj11
              case measure => have:=HK1.out;have:=HJ11.out;omega
              case rel => exact ⟨(wrap64 (x4_11 + (wrap64 (t200 - t199)))),(wrap64 (x4_11 + (wrap64 (t200 - t199)))),(x6_1),(y202),(y205),(wrap64 (x17_1 + 1)),(x187002_11),(x187003_11),(y193),(y196),(x188002_11),(x17_1),(.slice Ao20 y193.length co20),(.slice Ao23 y196.length co23),(by first | rfl | (simp;done) | (simp [*];done)),(by first | rfl | (simp;done) | (simp [*];done)),(by first | rfl | (simp;done) | (simp [*];done)),(by first | rfl | (simp;done) | (simp [*];done)),H',⟨by have:=HK1.out;have:=HJ11.out;omega⟩,⟨by (with_reducible repeat (first | apply Kd.R_alloc | apply Kd.R_drewN | apply Kd.R_drew));exact HO204.out⟩,⟨by (with_reducible repeat (first | apply Kd.R_alloc | apply Kd.R_drewN | apply Kd.R_drew));exact HO207.out⟩,⟨by (with_reducible repeat (first | apply Kd.R_alloc | apply Kd.R_drewN | apply Kd.R_drew));exact Kd.R_mono HO_188000.out (fun _ hk => hk.2)⟩,⟨by (with_reducible repeat (first | apply Kd.R_alloc | apply Kd.R_drewN | apply Kd.R_drew));exact Kd.R_mono HO_188001.out (fun _ hk => hk.2)⟩,⟨by (with_reducible repeat (first | refine blk_drewN ?_ _ | refine blk_drew ?_ | refine blk_alloc ?_ _));exact BK186.out⟩,⟨by (with_reducible repeat (first | refine blk_drewN ?_ _ | refine blk_drew ?_ | refine blk_alloc ?_ _));exact BK187.out⟩,⟨by repeat (first | (with_reducible first | exact HB.out | apply below_alloc | apply pw_below_drewN | apply below_drew1 | refine below_set ?_ GE186.out | refine below_set ?_ GE187.out | refine below_set ?_ GE192.out) | exact HB.out)⟩⟩
             ·rw [if_neg c42] at H
              exact absurd H (by simp)
            ·rw [if_neg c41] at H
             exact absurd H (by simp)
           ·replace c40:=Bool.eq_false_iff.mpr c40
            subst c40
            have H1 : (if ((rd_T56 l0 x17_1).f0) = 18 then (spec_l4Walk.j2 kj11 l0 (wrap64 (x4_11 + (wrap64 (t200 - t199)))) x5_1 x6_1 x7_1 x8_1 (x7_1.length : Int) l0 (l0.length : Int) x17_1 true y193 y196 x188002_11 x17_1 ((rd_T56 l0 x17_1).f0) ((rd_T56 l0 x17_1).f1) ((rd_T56 l0 x17_1).f2)) else (spec_l4Walk.j2 kj11 l0 (wrap64 (x4_11 + (wrap64 (t200 - t199)))) x5_1 x6_1 x7_1 x8_1 (x7_1.length : Int) l0 (l0.length : Int) x17_1 (((rd_T56 l0 x17_1).f0) == 19) y193 y196 x188002_11 x17_1 ((rd_T56 l0 x17_1).f0) ((rd_T56 l0 x17_1).f1) ((rd_T56 l0 x17_1).f2))) = some (r1,r2,r3,r4):=by rw [if_neg (show ¬ (false = true) by decide)] at H;exact H
            clear H
            have H:=H1
            clear H1
            have HC49:=Aside0.mk H
            clear H
            obtain ⟨Ao50,co50,eo50⟩:=Kd.R_slice HO_7.out
            subst eo50
            have hnb51:=NB192_186.out
            have hnc51:=NB186_192.out
            have hnb52:=NB192_187.out
            have hnc52:=NB187_192.out
            have hcz53_0 : wc.cell? ⟨gb192,0,none⟩ = some (.int .i64 ((rd_T56 l0 x17_1).f0)):=(blk_cell BK192.out 0).trans rfl
            have hcz53_1 : wc.cell? ⟨gb192,1,none⟩ = some (.int .i64 ((rd_T56 l0 x17_1).f1)):=(blk_cell BK192.out 1).trans rfl
            have hcz53_2 : wc.cell? ⟨gb192,2,none⟩ = some (.slice A191_2 ((rd_T56 l0 x17_1).f2).length c191_2):=(blk_cell BK192.out 2).trans rfl
            have hfz53_0:=blk_frozen BK192.out 0
            have hfz53_1:=blk_frozen BK192.out 1
            have hfz53_2:=blk_frozen BK192.out 2
            go_upto_region 28 with (first | ((with_reducible refine gate_callee (f:=74) rfl ?_);refine goesL_ (some 68) rfl rfl Try.func74 (by kernel_rfl) rfl #[.int .i64 ((rd_T56 l0 x17_1).f0)] rfl (by (try simp only [List.map_toArray,List.map_cons,List.map_nil]);first | done | rfl | (simp only [List.length_drop,List.length_take];rfl)) ?_;(with_reducible refine (spec_l3Opens.calls ((rd_T56 l0 x17_1).f0) false _ A39.out).mono ?_);rintro e w' ⟨rfl,⟨nd,rfl⟩⟩;refine ⟨_,rfl,?_⟩))
            (try simp only [Act.put,List.setIfInBounds_toArray,List.set_cons_zero,List.set_cons_succ])
            go_cut [78] (fun v78 wc => ∃ (kq : Nat) (x78_48 : Bool),v78 = .bool x78_48 ∧ Aside0 (spec_l4Walk.j2 kq l0 (wrap64 (x4_11 + (wrap64 (t200 - t199)))) x5_1 x6_1 x7_1 x8_1 (x7_1.length : Int) l0 (l0.length : Int) x17_1 x78_48 y193 y196 x188002_11 x17_1 ((rd_T56 l0 x17_1).f0) ((rd_T56 l0 x17_1).f1) ((rd_T56 l0 x17_1).f2) = some (r1,r2,r3,r4)) ∧ Aside0 (kq ≤ kj11) ∧ Aside0 (Kd.R (Kd.int .i64) 3 wc w.heap.size (fun k_ => some k_ ≠ ((.slice Ao20 y193.length co20) : Value).ownBlock) (.slice Ao50 x7_1.length co50) x7_1) ∧ Aside0 (Kd.R Kd.bool 4 wc w.heap.size (fun k_ => some k_ ≠ ((.slice Ao23 y196.length co23) : Value).ownBlock) u8 x8_1) ∧ Aside0 (Kd.R (Kd.int .i64) 3 wc w.heap.size (fun k_ => some k_ ≠ ((.slice Ao50 x7_1.length co50) : Value).ownBlock) (.slice Ao20 y193.length co20) y193) ∧ Aside0 (Kd.R Kd.bool 4 wc w.heap.size (fun k_ => some k_ ≠ (u8 : Value).ownBlock) (.slice Ao23 y196.length co23) y196) ∧ Aside0 (wc.heap[gb186]? = some (.cells #[(.slice none 0 0),(.slice none 0 0),.int .i64 x187002_11,.int .i64 x187003_11] 79 (0,0))) ∧ Aside0 (wc.heap[gb187]? = some (.cells #[(.slice Ao20 y193.length co20),(.slice Ao23 y196.length co23),.int .i64 x188002_11,.int .i64 x17_1] 79 (0,0))) ∧ Aside0 (wc.heap[gb192]? = some (.cells #[.int .i64 ((rd_T56 l0 x17_1).f0),.int .i64 ((rd_T56 l0 x17_1).f1),(.slice A191_2 ((rd_T56 l0 x17_1).f2).length c191_2)] 56 (0,0))) ∧ Aside0 (Below w.heap.size w wc))
            case first =>
             have H:=HC49.out
             clear HC49
             by_cases c54 : ((rd_T56 l0 x17_1).f0) = 18
             ·rw [if_pos c54] at H
              have c54b0 : (((rd_T56 l0 x17_1).f0) == 18) = true:=beq_iff_eq.mpr c54
              have c54b1 : (((rd_T56 l0 x17_1).f0) != 18) = false:=bne_eq_false_iff_eq.mpr c54
              clear c54
              (first | rw [c54b0] | (simp only [i64_w,i32_w];rw [c54b0]) | skip)
              have H':=Aside0.mk H
              clear H
              have hnb55:=NB192_186.out
              have hnc55:=NB186_192.out
              have hnb56:=NB192_187.out
              have hnc56:=NB187_192.out
              have hcz57_0 : wc.cell? ⟨gb192,0,none⟩ = some (.int .i64 ((rd_T56 l0 x17_1).f0)):=(blk_cell BK192.out 0).trans rfl
              have hcz57_1 : wc.cell? ⟨gb192,1,none⟩ = some (.int .i64 ((rd_T56 l0 x17_1).f1)):=(blk_cell BK192.out 1).trans rfl
              have hcz57_2 : wc.cell? ⟨gb192,2,none⟩ = some (.slice A191_2 ((rd_T56 l0 x17_1).f2).length c191_2):=(blk_cell BK192.out 2).trans rfl
              have hfz57_0:=blk_frozen BK192.out 0
              have hfz57_1:=blk_frozen BK192.out 1
              have hfz57_2:=blk_frozen BK192.out 2
              go_wp2
              go_meet
              case rel => exact ⟨_,(true),(by first | rfl | (simp;done) | (simp [*];done)),H',⟨by have:=HK1.out;have:=HJ11.out;first | omega | exact Nat.le_refl _⟩,⟨by (with_reducible repeat (first | apply Kd.R_alloc | apply Kd.R_drewN | apply Kd.R_drew));exact HO_7.out⟩,⟨by (with_reducible repeat (first | apply Kd.R_alloc | apply Kd.R_drewN | apply Kd.R_drew));exact HO_8.out⟩,⟨by (with_reducible repeat (first | apply Kd.R_alloc | apply Kd.R_drewN | apply Kd.R_drew));exact HO_188000.out⟩,⟨by (with_reducible repeat (first | apply Kd.R_alloc | apply Kd.R_drewN | apply Kd.R_drew));exact HO_188001.out⟩,⟨by (with_reducible repeat (first | refine blk_drewN ?_ _ | refine blk_drew ?_ | refine blk_alloc ?_ _));exact BK186.out⟩,⟨by (with_reducible repeat (first | refine blk_drewN ?_ _ | refine blk_drew ?_ | refine blk_alloc ?_ _));exact BK187.out⟩,⟨by (with_reducible repeat (first | refine blk_drewN ?_ _ | refine blk_drew ?_ | refine blk_alloc ?_ _));exact BK192.out⟩,⟨by repeat (first | (with_reducible first | exact HB.out | apply below_alloc | apply pw_below_drewN | apply below_drew1 | refine below_set ?_ GE186.out | refine below_set ?_ GE187.out | refine below_set ?_ GE192.out) | exact HB.out)⟩⟩
             ·rw [if_neg c54] at H
              have c54b0 : (((rd_T56 l0 x17_1).f0) == 18) = false:=beq_eq_false_iff_ne.mpr c54
              have c54b1 : (((rd_T56 l0 x17_1).f0) != 18) = true:=bne_iff_ne.mpr c54
              (first | rw [c54b0] | (simp only [i64_w,i32_w];rw [c54b0]) | skip)
              have H':=Aside0.mk H
              clear H
              have hnb58:=NB192_186.out
              have hnc58:=NB186_192.out
              have hnb59:=NB192_187.out
              have hnc59:=NB187_192.out
              have hcz60_0 : wc.cell? ⟨gb192,0,none⟩ = some (.int .i64 ((rd_T56 l0 x17_1).f0)):=(blk_cell BK192.out 0).trans rfl
              have hcz60_1 : wc.cell? ⟨gb192,1,none⟩ = some (.int .i64 ((rd_T56 l0 x17_1).f1)):=(blk_cell BK192.out 1).trans rfl
              have hcz60_2 : wc.cell? ⟨gb192,2,none⟩ = some (.slice A191_2 ((rd_T56 l0 x17_1).f2).length c191_2):=(blk_cell BK192.out 2).trans rfl
              have hfz60_0:=blk_frozen BK192.out 0
              have hfz60_1:=blk_frozen BK192.out 1
              have hfz60_2:=blk_frozen BK192.out 2
              go_wp2
              go_meet
              case rel => exact ⟨_,((((rd_T56 l0 x17_1).f0) == 19)),(by first | rfl | (simp;done) | (simp [*];done)),H',⟨by have:=HK1.out;have:=HJ11.out;first | omega | exact Nat.le_refl _⟩,⟨by (with_reducible repeat (first | apply Kd.R_alloc | apply Kd.R_drewN | apply Kd.R_drew));exact HO_7.out⟩,⟨by (with_reducible repeat (first | apply Kd.R_alloc | apply Kd.R_drewN | apply Kd.R_drew));exact HO_8.out⟩,⟨by (with_reducible repeat (first | apply Kd.R_alloc | apply Kd.R_drewN | apply Kd.R_drew));exact HO_188000.out⟩,⟨by (with_reducible repeat (first | apply Kd.R_alloc | apply Kd.R_drewN | apply Kd.R_drew));exact HO_188001.out⟩,⟨by (with_reducible repeat (first | refine blk_drewN ?_ _ | refine blk_drew ?_ | refine blk_alloc ?_ _));exact BK186.out⟩,⟨by (with_reducible repeat (first | refine blk_drewN ?_ _ | refine blk_drew ?_ | refine blk_alloc ?_ _));exact BK187.out⟩,⟨by (with_reducible repeat (first | refine blk_drewN ?_ _ | refine blk_drew ?_ | refine blk_alloc ?_ _));exact BK192.out⟩,⟨by repeat (first | (with_reducible first | exact HB.out | apply below_alloc | apply pw_below_drewN | apply below_drew1 | refine below_set ?_ GE186.out | refine below_set ?_ GE187.out | refine below_set ?_ GE192.out) | exact HB.out)⟩⟩
            case rest =>
             clear HC49
             try clear c1
             try clear p1
             try clear q1
             try clear hx1
             try clear c2
             try clear p2
             try clear c3
             try clear c4
             try clear c5
             try clear c6
             try clear c6b0
             try clear p6
             try clear c7
             try clear c7b0
             try clear c8
             try clear c8b0
             try clear c9
             try clear c10
             try clear c14
             try clear c15
             try clear c17
             try clear c19
             try clear p19
             try clear q19
             try clear hx19
             try clear c26
             try clear c26b0
             try clear c27
             try clear c28
             try clear c29
             try clear c31
             try clear c33
             try clear c33b0
             try clear c34
             try clear c35
             try clear c37
             try clear c40
             try clear c41
             try clear c42
             try clear c44
             try clear c45
             try clear c51
             try clear c52
             try clear c54
             try clear c54b0
             try clear c54b1
             try clear c55
             try clear c56
             try clear c58
             try clear c59
             try clear hcz16_0
             try clear hcz16_1
             try clear hcz16_2
             try clear hcz18_0
             try clear hcz18_1
             try clear hcz18_2
             try clear hcz18_3
             try clear hcz21_0
             try clear hcz21_1
             try clear hcz21_2
             try clear hcz21_3
             try clear hcz24_0
             try clear hcz24_1
             try clear hcz24_2
             try clear hcz24_3
             try clear hcz25_0
             try clear hcz25_1
             try clear hcz25_2
             try clear hcz30_0
             try clear hcz30_1
             try clear hcz30_2
             try clear hcz30_3
             try clear hcz32_0
             try clear hcz32_1
             try clear hcz32_2
             try clear hcz32_3
             try clear hcz36_0
             try clear hcz36_1
             try clear hcz36_2
             try clear hcz36_3
             try clear hcz38_0
             try clear hcz38_1
             try clear hcz38_2
             try clear hcz38_3
             try clear hcz46_0
             try clear hcz46_1
             try clear hcz46_2
             try clear hcz53_0
             try clear hcz53_1
             try clear hcz53_2
             try clear hcz57_0
             try clear hcz57_1
             try clear hcz57_2
             try clear hcz5_0
             try clear hcz5_1
             try clear hcz5_2
             try clear hcz5_3
             try clear hcz60_0
             try clear hcz60_1
             try clear hcz60_2
             try clear hfz16_0
             try clear hfz16_1
             try clear hfz16_2
             try clear hfz18_0
             try clear hfz18_1
             try clear hfz18_2
             try clear hfz18_3
             try clear hfz21_0
             try clear hfz21_1
             try clear hfz21_2
             try clear hfz21_3
             try clear hfz24_0
             try clear hfz24_1
             try clear hfz24_2
             try clear hfz24_3
             try clear hfz25_0
             try clear hfz25_1
             try clear hfz25_2
             try clear hfz30_0
             try clear hfz30_1
             try clear hfz30_2
             try clear hfz30_3
             try clear hfz32_0
             try clear hfz32_1
             try clear hfz32_2
             try clear hfz32_3
             try clear hfz36_0
             try clear hfz36_1
             try clear hfz36_2
             try clear hfz36_3
             try clear hfz38_0
             try clear hfz38_1
             try clear hfz38_2
             try clear hfz38_3
             try clear hfz46_0
             try clear hfz46_1
             try clear hfz46_2
             try clear hfz53_0
             try clear hfz53_1
             try clear hfz53_2
             try clear hfz57_0
             try clear hfz57_1
             try clear hfz57_2
             try clear hfz5_0
             try clear hfz5_1
             try clear hfz5_2
             try clear hfz5_3
             try clear hfz60_0
             try clear hfz60_1
             try clear hfz60_2
             try clear hx191_0
             try clear hx191_1
             try clear hx191_2
             try clear p1
             try clear p19
             try clear p191
             try clear p2
             try clear p6
             try clear q1
             try clear q19
             try clear q191
             obtain ⟨kq,x78_48,rfl,HA,HJ48,HO_7,HO_8,HO_188000,HO_188001,BK186,BK187,BK192,HB⟩:=hcut
             cases kq with
             | zero => exact absurd HA.out (by simp [spec_l4Walk.j2])
             | succ kj48 =>
              have H:=HA.out
              clear HA
              simp only [spec_l4Walk.j2] at H
              by_cases c61 : x78_48 = true
              ·subst c61
               have H1 : (if (wrap64 (x4_11 + (wrap64 (t200 - t199)))) = x5_1 then (if 0 ≤ (wrap64 ((x7_1.length : Int) - 1)) then (if (wrap64 ((x7_1.length : Int) - 1)) < (x8_1.length : Int) then (if ((rd_T56 l0 x17_1).f0) = 19 then (if (wrap64 ((x7_1.length : Int) - 1)) < (x7_1.length : Int) then (if (wrap64 ((x7_1.length : Int) - 1)) ≤ (x7_1.length : Int) then (if (wrap64 ((x7_1.length : Int) - 1)) ≤ (x8_1.length : Int) then (spec_l4Walk.l0 kj48 l0 (wrap64 (x4_11 + (wrap64 (t200 - t199)))) (rd x7_1 (wrap64 ((x7_1.length : Int) - 1))) (rdOf false x8_1 (wrap64 ((x7_1.length : Int) - 1))) (x7_1.take ((wrap64 ((x7_1.length : Int) - 1)) : Int).toNat) (x8_1.take ((wrap64 ((x7_1.length : Int) - 1)) : Int).toNat) l0 (l0.length : Int) (wrap64 (x17_1 + 1)) y193 y196 x188002_11 x17_1) else (none)) else (none)) else (none)) else (spec_l4Walk.l0 kj48 l0 (wrap64 (x4_11 + (wrap64 (t200 - t199)))) x5_1 (rdOf false x8_1 (wrap64 ((x7_1.length : Int) - 1))) x7_1 x8_1 l0 (l0.length : Int) (wrap64 (x17_1 + 1)) y193 y196 x188002_11 x17_1)) else (none)) else (none)) else (some (y193,y196,3,x17_1))) = some (r1,r2,r3,r4):=by rw [if_pos rfl] at H;exact H
               clear H
               have H:=H1
               clear H1
               by_cases c62 : (wrap64 (x4_11 + (wrap64 (t200 - t199)))) = x5_1
               ·rw [if_pos c62] at H
                have c62b0 : ((wrap64 (x4_11 + (wrap64 (t200 - t199)))) == x5_1) = true:=beq_iff_eq.mpr c62
                have c62b1 : ((wrap64 (x4_11 + (wrap64 (t200 - t199)))) != x5_1) = false:=bne_eq_false_iff_eq.mpr c62
                clear c62
                obtain ⟨ji63,hji63⟩ : ∃ j_ : Int,(wrap64 ((x7_1.length : Int) - 1)) = j_:=⟨_,rfl⟩
                replace H : (if 0 ≤ (ji63) then (if (ji63) < (x8_1.length : Int) then (if ((rd_T56 l0 x17_1).f0) = 19 then (if (ji63) < (x7_1.length : Int) then (if (ji63) ≤ (x7_1.length : Int) then (if (ji63) ≤ (x8_1.length : Int) then (spec_l4Walk.l0 kj48 l0 (wrap64 (x4_11 + (wrap64 (t200 - t199)))) (rd x7_1 (ji63)) (rdOf false x8_1 (ji63)) (x7_1.take ((ji63) : Int).toNat) (x8_1.take ((ji63) : Int).toNat) l0 (l0.length : Int) (wrap64 (x17_1 + 1)) y193 y196 x188002_11 x17_1) else (none)) else (none)) else (none)) else (spec_l4Walk.l0 kj48 l0 (wrap64 (x4_11 + (wrap64 (t200 - t199)))) x5_1 (rdOf false x8_1 (ji63)) x7_1 x8_1 l0 (l0.length : Int) (wrap64 (x17_1 + 1)) y193 y196 x188002_11 x17_1)) else (none)) else (none)) = some (r1,r2,r3,r4):=by first | (rw [hji63] at H;exact H) | (simp only [hji63] at H ⊢;exact H)
                have hji63w : (IntKind.i64.wrap ((x7_1.length : Int) - 1)) = ji63:=(i64_w _).trans hji63
                by_cases c64 : 0 ≤ (ji63)
                ·rw [if_pos c64] at H
                 have c64b0 : decide (0 ≤ (ji63)) = true:=decide_eq_true c64
                 clear c64
                 by_cases c65 : (ji63) < (x8_1.length : Int)
                 ·rw [if_pos c65] at H
                  have c65b0 : decide ((ji63) < (x8_1.length : Int)) = true:=decide_eq_true c65
                  clear c65
                  by_cases c66 : ((rd_T56 l0 x17_1).f0) = 19
                  ·rw [if_pos c66] at H
                   have c66b0 : (((rd_T56 l0 x17_1).f0) == 19) = true:=beq_iff_eq.mpr c66
                   have c66b1 : (((rd_T56 l0 x17_1).f0) != 19) = false:=bne_eq_false_iff_eq.mpr c66
                   clear c66
                   by_cases c67 : (ji63) < (x7_1.length : Int)
                   ·rw [if_pos c67] at H
                    have c67b0 : decide ((ji63) < (x7_1.length : Int)) = true:=decide_eq_true c67
                    clear c67
                    by_cases c68 : (ji63) ≤ (x7_1.length : Int)
                    ·rw [if_pos c68] at H
                     have c68b0:=eq_true c68
                     have c68b1 : decide ((ji63) ≤ (x7_1.length : Int)) = true:=decide_eq_true c68
                     clear c68
                     obtain ⟨y210,hy210⟩ : ∃ y_ : List Int,y_ = (x7_1.take ((ji63) : Int).toNat):=⟨_,rfl⟩
                     replace H : (if (ji63) ≤ (x8_1.length : Int) then (spec_l4Walk.l0 kj48 l0 (wrap64 (x4_11 + (wrap64 (t200 - t199)))) (rd x7_1 (ji63)) (rdOf false x8_1 (ji63)) y210 (x8_1.take ((ji63) : Int).toNat) l0 (l0.length : Int) (wrap64 (x17_1 + 1)) y193 y196 x188002_11 x17_1) else (none)) = some (r1,r2,r3,r4):=by first | (rw [hy210];with_reducible exact H) | (have H2_:=(Option.bind_some _ _).symm.trans H;rw [hy210];with_reducible exact H2_) | (have H2_:=(Option.bind_some _ _).symm.trans H;with_reducible exact H2_) | with_reducible exact H | (rw [hy210];exact H) | exact H
                     have Ny210:=Aside0.mk hy210
                     clear hy210
                     by_cases c69 : (ji63) ≤ (x8_1.length : Int)
                     ·rw [if_pos c69] at H
                      have c69b0:=eq_true c69
                      have c69b1 : decide ((ji63) ≤ (x8_1.length : Int)) = true:=decide_eq_true c69
                      clear c69
                      obtain ⟨y213,hy213⟩ : ∃ y_ : List Bool,y_ = (x8_1.take ((ji63) : Int).toNat):=⟨_,rfl⟩
                      replace H : (spec_l4Walk.l0 kj48 l0 (wrap64 (x4_11 + (wrap64 (t200 - t199)))) (rd x7_1 (ji63)) (rdOf false x8_1 (ji63)) y210 y213 l0 (l0.length : Int) (wrap64 (x17_1 + 1)) y193 y196 x188002_11 x17_1) = some (r1,r2,r3,r4):=by first | (rw [hy213];with_reducible exact H) | (have H2_:=(Option.bind_some _ _).symm.trans H;rw [hy213];with_reducible exact H2_) | (have H2_:=(Option.bind_some _ _).symm.trans H;with_reducible exact H2_) | with_reducible exact H | (rw [hy213];exact H) | exact H
                      have Ny213:=Aside0.mk hy213
                      clear hy213
                      have H':=Aside0.mk H
                      clear H
                      obtain ⟨Ao70,co70,eo70⟩:=Kd.R_slice HO_8.out
                      subst eo70
                      have p208 : 0 ≤ ((ji63) : Int):=of_decide_eq_true (by first | (with_reducible assumption) | assumption)
                      have q208 : (ji63) < (x8_1.length : Int):=of_decide_eq_true (by first | (with_reducible assumption) | assumption)
                      obtain ⟨ad208,e208,hx208_0⟩:=Kd.at_bool (Kd.R_reads' HO_8.out).2.2 (ji63) p208 q208
                      cases e208
                      replace p208:=eq_true p208
                      replace q208:=eq_true q208
                      have hnb71:=NB192_186.out
                      have hnc71:=NB186_192.out
                      have hnb72:=NB192_187.out
                      have hnc72:=NB187_192.out
                      have hcz73_0 : wc.cell? ⟨gb192,0,none⟩ = some (.int .i64 ((rd_T56 l0 x17_1).f0)):=(blk_cell BK192.out 0).trans rfl
                      have hcz73_1 : wc.cell? ⟨gb192,1,none⟩ = some (.int .i64 ((rd_T56 l0 x17_1).f1)):=(blk_cell BK192.out 1).trans rfl
                      have hcz73_2 : wc.cell? ⟨gb192,2,none⟩ = some (.slice A191_2 ((rd_T56 l0 x17_1).f2).length c191_2):=(blk_cell BK192.out 2).trans rfl
                      have hfz73_0:=blk_frozen BK192.out 0
                      have hfz73_1:=blk_frozen BK192.out 1
                      have hfz73_2:=blk_frozen BK192.out 2
                      have p209 : 0 ≤ ((ji63) : Int):=of_decide_eq_true (by first | (with_reducible assumption) | assumption)
                      have q209 : (ji63) < (x7_1.length : Int):=of_decide_eq_true (by first | (with_reducible assumption) | assumption)
                      obtain ⟨ad209,e209,hx209_0⟩:=Kd.at_int (Kd.R_reads' HO_7.out).2.2 (ji63) p209 q209
                      cases e209
                      replace p209:=eq_true p209
                      replace q209:=eq_true q209
                      have q74 : ((ji63) : Int) ≤ ((x7_1.length : Int) : Int):=of_decide_eq_true (by first | (with_reducible assumption) | assumption)
                      obtain ⟨i074,hi074,_,hsz74,_⟩:=info_parts info3
                      have hcut74:=cut_to (P:=Try.prog) 29 3 .i64 Try.underlying29 hi074 (some ad209) x7_1.length co50 (ji63) (of_decide_eq_true (by first | (with_reducible assumption) | assumption)) q74 (Kd.R_reads' HO_7.out).2.1
                      have hr74:=Kd.R_take (m:=((ji63) : Int).toNat) HO_7.out (by omega)
                      have hy74 : y210.length = ((ji63) : Int).toNat:=(by rw [Ny210.out,List.length_take];omega)
                      rw [← Ny210.out] at hr74
                      rw [← hy74] at hr74 hcut74
                      clear hy74 hi074 hsz74 HO_7
                      have HO212:=Aside0.mk hr74
                      clear hr74
                      replace q74:=eq_true q74
                      have q75 : ((ji63) : Int) ≤ ((x8_1.length : Int) : Int):=of_decide_eq_true (by first | (with_reducible assumption) | assumption)
                      obtain ⟨i075,hi075,_,hsz75,_⟩:=info_parts info4
                      have hcut75:=cut_to (P:=Try.prog) 46 4 .i64 Try.underlying46 hi075 (some ad208) x8_1.length co70 (ji63) (of_decide_eq_true (by first | (with_reducible assumption) | assumption)) q75 (Kd.R_reads' HO_8.out).2.1
                      have hr75:=Kd.R_take (m:=((ji63) : Int).toNat) HO_8.out (by omega)
                      have hy75 : y213.length = ((ji63) : Int).toNat:=(by rw [Ny213.out,List.length_take];omega)
                      rw [← Ny213.out] at hr75
                      rw [← hy75] at hr75 hcut75
                      clear hy75 hi075 hsz75 HO_8
                      have HO215:=Aside0.mk hr75
                      clear hr75
                      replace q75:=eq_true q75
                      go_wp2
                      go_roundg kj48
                      case measure => have:=HK1.out;have:=HJ11.out;have:=HJ48.out;omega
                      case rel => exact ⟨((wrap64 (x4_11 + (wrap64 (t200 - t199))))),(rd x7_1 (ji63)),(rdOf false x8_1 (ji63)),(y210),(y213),(wrap64 (x17_1 + 1)),(x187002_11),(x187003_11),(y193),(y196),(x188002_11),(x17_1),(.slice Ao20 y193.length co20),(.slice Ao23 y196.length co23),(by first | rfl | (simp;done) | (simp [*];done)),(by first | rfl | (simp;done) | (simp only [← hji63] <;> (first | rfl | simp)) | (simp [*];done)),(by first | rfl | (simp;done) | (simp only [← hji63] <;> (first | rfl | simp)) | (simp [*];done)),(by first | rfl | (simp;done) | (simp [*];done)),H',⟨by have:=HK1.out;have:=HJ11.out;have:=HJ48.out;omega⟩,⟨by (with_reducible repeat (first | apply Kd.R_alloc | apply Kd.R_drewN | apply Kd.R_drew));exact HO212.out⟩,⟨by (with_reducible repeat (first | apply Kd.R_alloc | apply Kd.R_drewN | apply Kd.R_drew));exact HO215.out⟩,⟨by (with_reducible repeat (first | apply Kd.R_alloc | apply Kd.R_drewN | apply Kd.R_drew));exact HO_188000.out⟩,⟨by (with_reducible repeat (first | apply Kd.R_alloc | apply Kd.R_drewN | apply Kd.R_drew));exact HO_188001.out⟩,⟨by (with_reducible repeat (first | refine blk_drewN ?_ _ | refine blk_drew ?_ | refine blk_alloc ?_ _));exact BK186.out⟩,⟨by (with_reducible repeat (first | refine blk_drewN ?_ _ | refine blk_drew ?_ | refine blk_alloc ?_ _));exact BK187.out⟩,⟨by repeat (first | (with_reducible first | exact HB.out | apply below_alloc | apply pw_below_drewN | apply below_drew1 | refine below_set ?_ GE186.out | refine below_set ?_ GE187.out | refine below_set ?_ GE192.out) | exact HB.out)⟩⟩
                     ·rw [if_neg c69] at H
                      exact absurd H (by simp)
                    ·rw [if_neg c68] at H
                     exact absurd H (by simp)
                   ·rw [if_neg c67] at H
                    exact absurd H (by simp)
                  ·rw [if_neg c66] at H
                   have c66b0 : (((rd_T56 l0 x17_1).f0) == 19) = false:=beq_eq_false_iff_ne.mpr c66
                   have c66b1 : (((rd_T56 l0 x17_1).f0) != 19) = true:=bne_iff_ne.mpr c66
                   have H':=Aside0.mk H
                   clear H
                   obtain ⟨Ao76,co76,eo76⟩:=Kd.R_slice HO_8.out
                   subst eo76
                   have p208 : 0 ≤ ((ji63) : Int):=of_decide_eq_true (by first | (with_reducible assumption) | assumption)
                   have q208 : (ji63) < (x8_1.length : Int):=of_decide_eq_true (by first | (with_reducible assumption) | assumption)
                   obtain ⟨ad208,e208,hx208_0⟩:=Kd.at_bool (Kd.R_reads' HO_8.out).2.2 (ji63) p208 q208
                   cases e208
                   replace p208:=eq_true p208
                   replace q208:=eq_true q208
                   have hnb77:=NB192_186.out
                   have hnc77:=NB186_192.out
                   have hnb78:=NB192_187.out
                   have hnc78:=NB187_192.out
                   have hcz79_0 : wc.cell? ⟨gb192,0,none⟩ = some (.int .i64 ((rd_T56 l0 x17_1).f0)):=(blk_cell BK192.out 0).trans rfl
                   have hcz79_1 : wc.cell? ⟨gb192,1,none⟩ = some (.int .i64 ((rd_T56 l0 x17_1).f1)):=(blk_cell BK192.out 1).trans rfl
                   have hcz79_2 : wc.cell? ⟨gb192,2,none⟩ = some (.slice A191_2 ((rd_T56 l0 x17_1).f2).length c191_2):=(blk_cell BK192.out 2).trans rfl
                   have hfz79_0:=blk_frozen BK192.out 0
                   have hfz79_1:=blk_frozen BK192.out 1
                   have hfz79_2:=blk_frozen BK192.out 2
                   go_wp2
                   go_roundg kj48
                   case measure => have:=HK1.out;have:=HJ11.out;have:=HJ48.out;omega
                   case rel => exact ⟨((wrap64 (x4_11 + (wrap64 (t200 - t199))))),(x5_1),(rdOf false x8_1 (ji63)),(x7_1),(x8_1),(wrap64 (x17_1 + 1)),(x187002_11),(x187003_11),(y193),(y196),(x188002_11),(x17_1),(.slice Ao20 y193.length co20),(.slice Ao23 y196.length co23),(by first | rfl | (simp;done) | (simp [*];done)),(by first | rfl | (simp;done) | (simp [*];done)),(by first | rfl | (simp;done) | (simp only [← hji63] <;> (first | rfl | simp)) | (simp [*];done)),(by first | rfl | (simp;done) | (simp [*];done)),H',⟨by have:=HK1.out;have:=HJ11.out;have:=HJ48.out;omega⟩,⟨by (with_reducible repeat (first | apply Kd.R_alloc | apply Kd.R_drewN | apply Kd.R_drew));exact HO_7.out⟩,⟨by (with_reducible repeat (first | apply Kd.R_alloc | apply Kd.R_drewN | apply Kd.R_drew));exact HO_8.out⟩,⟨by (with_reducible repeat (first | apply Kd.R_alloc | apply Kd.R_drewN | apply Kd.R_drew));exact HO_188000.out⟩,⟨by (with_reducible repeat (first | apply Kd.R_alloc | apply Kd.R_drewN | apply Kd.R_drew));exact HO_188001.out⟩,⟨by (with_reducible repeat (first | refine blk_drewN ?_ _ | refine blk_drew ?_ | refine blk_alloc ?_ _));exact BK186.out⟩,⟨by (with_reducible repeat (first | refine blk_drewN ?_ _ | refine blk_drew ?_ | refine blk_alloc ?_ _));exact BK187.out⟩,⟨by repeat (first | (with_reducible first | exact HB.out | apply below_alloc | apply pw_below_drewN | apply below_drew1 | refine below_set ?_ GE186.out | refine below_set ?_ GE187.out | refine below_set ?_ GE192.out) | exact HB.out)⟩⟩
                 ·rw [if_neg c65] at H
                  exact absurd H (by simp)
                ·rw [if_neg c64] at H
                 exact absurd H (by simp)
               ·rw [if_neg c62] at H
                have c62b0 : ((wrap64 (x4_11 + (wrap64 (t200 - t199)))) == x5_1) = false:=beq_eq_false_iff_ne.mpr c62
                have c62b1 : ((wrap64 (x4_11 + (wrap64 (t200 - t199)))) != x5_1) = true:=bne_iff_ne.mpr c62
                simp only [Option.some.injEq,Prod.mk.injEq] at H
                obtain ⟨rfl,rfl,rfl,rfl⟩:=H
                have hnb80:=NB187_186.out
                have hnc80:=NB186_187.out
                have hnb81:=NB187_192.out
                have hnc81:=NB192_187.out
                have hcz82_0 : wc.cell? ⟨gb187,0,none⟩ = some (.slice Ao20 y193.length co20):=(blk_cell BK187.out 0).trans rfl
                have hcz82_1 : wc.cell? ⟨gb187,1,none⟩ = some (.slice Ao23 y196.length co23):=(blk_cell BK187.out 1).trans rfl
                have hcz82_2 : wc.cell? ⟨gb187,2,none⟩ = some (.int .i64 x188002_11):=(blk_cell BK187.out 2).trans rfl
                have hcz82_3 : wc.cell? ⟨gb187,3,none⟩ = some (.int .i64 x17_1):=(blk_cell BK187.out 3).trans rfl
                have hfz82_0:=blk_frozen BK187.out 0
                have hfz82_1:=blk_frozen BK187.out 1
                have hfz82_2:=blk_frozen BK187.out 2
                have hfz82_3:=blk_frozen BK187.out 3
                have hnb83:=NB186_192.out
                have hnc83:=NB192_186.out
                have hcz84_0 : wc.cell? ⟨gb186,0,none⟩ = some (.slice none 0 0):=(blk_cell BK186.out 0).trans rfl
                have hcz84_1 : wc.cell? ⟨gb186,1,none⟩ = some (.slice none 0 0):=(blk_cell BK186.out 1).trans rfl
                have hcz84_2 : wc.cell? ⟨gb186,2,none⟩ = some (.int .i64 x187002_11):=(blk_cell BK186.out 2).trans rfl
                have hcz84_3 : wc.cell? ⟨gb186,3,none⟩ = some (.int .i64 x187003_11):=(blk_cell BK186.out 3).trans rfl
                have hfz84_0:=blk_frozen BK186.out 0
                have hfz84_1:=blk_frozen BK186.out 1
                have hfz84_2:=blk_frozen BK186.out 2
                have hfz84_3:=blk_frozen BK186.out 3
                go_wp2
                refine bodyPost_ret (results_cell_row rfl _ _ gb186 79 #[.slice Ao20 y193.length co20,.slice Ao23 y196.length co23,.int .i64 3,.int .i64 x17_1] (0,0) _ rfl (by (with_reducible repeat (first | refine blk_drewN ?_ _ | refine blk_drew ?_ | refine blk_alloc ?_ _));refine blk_put (cs:=#[.slice Ao20 y193.length co20,.slice Ao23 y196.length co23,.int .i64 3,.int .i64 x187003_11]) ?_ 3 _ rfl;(with_reducible repeat (first | refine blk_drewN ?_ _ | refine blk_drew ?_ | refine blk_alloc ?_ _));refine blk_put (cs:=#[.slice Ao20 y193.length co20,.slice Ao23 y196.length co23,.int .i64 x187002_11,.int .i64 x187003_11]) ?_ 2 _ rfl;(with_reducible repeat (first | refine blk_drewN ?_ _ | refine blk_drew ?_ | refine blk_alloc ?_ _));refine blk_put (cs:=#[.slice Ao20 y193.length co20,.slice none 0 0,.int .i64 x187002_11,.int .i64 x187003_11]) ?_ 1 _ rfl;(with_reducible repeat (first | refine blk_drewN ?_ _ | refine blk_drew ?_ | refine blk_alloc ?_ _));refine blk_put (cs:=#[.slice none 0 0,.slice none 0 0,.int .i64 x187002_11,.int .i64 x187003_11]) ?_ 0 _ rfl;(with_reducible repeat (first | refine blk_drewN ?_ _ | refine blk_drew ?_ | refine blk_alloc ?_ _));refine blk_far ?_ NB186_187.out _;(with_reducible repeat (first | refine blk_drewN ?_ _ | refine blk_drew ?_ | refine blk_alloc ?_ _));exact BK186.out) Try.underlying79 rfl (by kernel_rfl)) rfl ?_
                exact ⟨_,_,by first | rfl | (simp [errW_none,errW_some] <;> rfl) | (simp [*,errW_none,errW_some] <;> rfl),by (with_reducible repeat (first | apply Kd.R_alloc | apply Kd.R_drewN | apply Kd.R_drew));exact Kd.R_mono (Kd.R_far (p:=⟨gb186,3,none⟩) (Kd.R_far (p:=⟨gb186,2,none⟩) (Kd.R_far (p:=⟨gb186,1,none⟩) (Kd.R_far (p:=⟨gb186,0,none⟩) (Kd.R_far (p:=⟨gb187,2,none⟩) (Kd.R_types (Kd.R_types HO_188000.out BK187.out (by decide)) BK186.out (by decide)) (fun _ hk => hk.1.2) (.int .i64 3)) (fun _ hk => hk.2) (.slice Ao20 y193.length co20)) (fun _ hk => hk.2) (.slice Ao23 y196.length co23)) (fun _ hk => hk.2) (.int .i64 3)) (fun _ hk => hk.2) (.int .i64 x17_1)) (fun _ hk => trivial),by (with_reducible repeat (first | apply Kd.R_alloc | apply Kd.R_drewN | apply Kd.R_drew));exact Kd.R_mono (Kd.R_far (p:=⟨gb186,3,none⟩) (Kd.R_far (p:=⟨gb186,2,none⟩) (Kd.R_far (p:=⟨gb186,1,none⟩) (Kd.R_far (p:=⟨gb186,0,none⟩) (Kd.R_far (p:=⟨gb187,2,none⟩) (Kd.R_types (Kd.R_types HO_188001.out BK187.out (by decide)) BK186.out (by decide)) (fun _ hk => hk.1.2) (.int .i64 3)) (fun _ hk => hk.2) (.slice Ao20 y193.length co20)) (fun _ hk => hk.2) (.slice Ao23 y196.length co23)) (fun _ hk => hk.2) (.int .i64 3)) (fun _ hk => hk.2) (.int .i64 x17_1)) (fun _ hk => trivial),by repeat (first | (with_reducible first | exact HB.out | apply below_alloc | apply pw_below_drewN | apply below_drew1 | refine below_set ?_ GE186.out | refine below_set ?_ GE187.out | refine below_set ?_ GE192.out) | exact HB.out)⟩
              ·replace c61:=Bool.eq_false_iff.mpr c61
               subst c61
               have H1 : (if ((rd_T56 l0 x17_1).f0) = 20 then (spec_l4Walk.l0 kj48 l0 x5_1 x5_1 true x7_1 x8_1 l0 (l0.length : Int) (wrap64 (x17_1 + 1)) y193 y196 x188002_11 x17_1) else (if ((rd_T56 l0 x17_1).f0) = 22 then (spec_l4Walk.l0 kj48 l0 x5_1 x5_1 true x7_1 x8_1 l0 (l0.length : Int) (wrap64 (x17_1 + 1)) y193 y196 x188002_11 x17_1) else (if ((rd_T56 l0 x17_1).f0) = 14 then (spec_l4Walk.l0 kj48 l0 x5_1 x5_1 true x7_1 x8_1 l0 (l0.length : Int) (wrap64 (x17_1 + 1)) y193 y196 x188002_11 x17_1) else (spec_l4Walk.l0 kj48 l0 (wrap64 (x4_11 + (wrap64 (t200 - t199)))) x5_1 x6_1 x7_1 x8_1 l0 (l0.length : Int) (wrap64 (x17_1 + 1)) y193 y196 x188002_11 x17_1)))) = some (r1,r2,r3,r4):=by rw [if_neg (show ¬ (false = true) by decide)] at H;exact H
               clear H
               have H:=H1
               clear H1
               by_cases c85 : ((rd_T56 l0 x17_1).f0) = 20
               ·rw [if_pos c85] at H
                have c85b0 : (((rd_T56 l0 x17_1).f0) == 20) = true:=beq_iff_eq.mpr c85
                have c85b1 : (((rd_T56 l0 x17_1).f0) != 20) = false:=bne_eq_false_iff_eq.mpr c85
                clear c85
                have H':=Aside0.mk H
                clear H
                have hnb86:=NB192_186.out
                have hnc86:=NB186_192.out
                have hnb87:=NB192_187.out
                have hnc87:=NB187_192.out
                have hcz88_0 : wc.cell? ⟨gb192,0,none⟩ = some (.int .i64 ((rd_T56 l0 x17_1).f0)):=(blk_cell BK192.out 0).trans rfl
                have hcz88_1 : wc.cell? ⟨gb192,1,none⟩ = some (.int .i64 ((rd_T56 l0 x17_1).f1)):=(blk_cell BK192.out 1).trans rfl
                have hcz88_2 : wc.cell? ⟨gb192,2,none⟩ = some (.slice A191_2 ((rd_T56 l0 x17_1).f2).length c191_2):=(blk_cell BK192.out 2).trans rfl
                have hfz88_0:=blk_frozen BK192.out 0
                have hfz88_1:=blk_frozen BK192.out 1
                have hfz88_2:=blk_frozen BK192.out 2
                go_wp2
                go_roundg kj48
                case measure => have:=HK1.out;have:=HJ11.out;have:=HJ48.out;omega
                case rel => exact ⟨(x5_1),(x5_1),(true),(x7_1),(x8_1),(wrap64 (x17_1 + 1)),(x187002_11),(x187003_11),(y193),(y196),(x188002_11),(x17_1),(.slice Ao20 y193.length co20),(.slice Ao23 y196.length co23),(by first | rfl | (simp;done) | (simp [*];done)),(by first | rfl | (simp;done) | (simp [*];done)),(by first | rfl | (simp;done) | (simp [*];done)),(by first | rfl | (simp;done) | (simp [*];done)),H',⟨by have:=HK1.out;have:=HJ11.out;have:=HJ48.out;omega⟩,⟨by (with_reducible repeat (first | apply Kd.R_alloc | apply Kd.R_drewN | apply Kd.R_drew));exact HO_7.out⟩,⟨by (with_reducible repeat (first | apply Kd.R_alloc | apply Kd.R_drewN | apply Kd.R_drew));exact HO_8.out⟩,⟨by (with_reducible repeat (first | apply Kd.R_alloc | apply Kd.R_drewN | apply Kd.R_drew));exact HO_188000.out⟩,⟨by (with_reducible repeat (first | apply Kd.R_alloc | apply Kd.R_drewN | apply Kd.R_drew));exact HO_188001.out⟩,⟨by (with_reducible repeat (first | refine blk_drewN ?_ _ | refine blk_drew ?_ | refine blk_alloc ?_ _));exact BK186.out⟩,⟨by (with_reducible repeat (first | refine blk_drewN ?_ _ | refine blk_drew ?_ | refine blk_alloc ?_ _));exact BK187.out⟩,⟨by repeat (first | (with_reducible first | exact HB.out | apply below_alloc | apply pw_below_drewN | apply below_drew1 | refine below_set ?_ GE186.out | refine below_set ?_ GE187.out | refine below_set ?_ GE192.out) | exact HB.out)⟩⟩
               ·rw [if_neg c85] at H
                have c85b0 : (((rd_T56 l0 x17_1).f0) == 20) = false:=beq_eq_false_iff_ne.mpr c85
                have c85b1 : (((rd_T56 l0 x17_1).f0) != 20) = true:=bne_iff_ne.mpr c85
                by_cases c89 : ((rd_T56 l0 x17_1).f0) = 22
                ·rw [if_pos c89] at H
                 have c89b0 : (((rd_T56 l0 x17_1).f0) == 22) = true:=beq_iff_eq.mpr c89
                 have c89b1 : (((rd_T56 l0 x17_1).f0) != 22) = false:=bne_eq_false_iff_eq.mpr c89
                 clear c89
                 have H':=Aside0.mk H
                 clear H
                 have hnb90:=NB192_186.out
                 have hnc90:=NB186_192.out
                 have hnb91:=NB192_187.out
                 have hnc91:=NB187_192.out
                 have hcz92_0 : wc.cell? ⟨gb192,0,none⟩ = some (.int .i64 ((rd_T56 l0 x17_1).f0)):=(blk_cell BK192.out 0).trans rfl
                 have hcz92_1 : wc.cell? ⟨gb192,1,none⟩ = some (.int .i64 ((rd_T56 l0 x17_1).f1)):=(blk_cell BK192.out 1).trans rfl
                 have hcz92_2 : wc.cell? ⟨gb192,2,none⟩ = some (.slice A191_2 ((rd_T56 l0 x17_1).f2).length c191_2):=(blk_cell BK192.out 2).trans rfl
                 have hfz92_0:=blk_frozen BK192.out 0
                 have hfz92_1:=blk_frozen BK192.out 1
                 have hfz92_2:=blk_frozen BK192.out 2
                 go_wp2
                 go_roundg kj48
                 case measure => have:=HK1.out;have:=HJ11.out;have:=HJ48.out;omega
                 case rel => exact ⟨(x5_1),(x5_1),(true),(x7_1),(x8_1),(wrap64 (x17_1 + 1)),(x187002_11),(x187003_11),(y193),(y196),(x188002_11),(x17_1),(.slice Ao20 y193.length co20),(.slice Ao23 y196.length co23),(by first | rfl | (simp;done) | (simp [*];done)),(by first | rfl | (simp;done) | (simp [*];done)),(by first | rfl | (simp;done) | (simp [*];done)),(by first | rfl | (simp;done) | (simp [*];done)),H',⟨by have:=HK1.out;have:=HJ11.out;have:=HJ48.out;omega⟩,⟨by (with_reducible repeat (first | apply Kd.R_alloc | apply Kd.R_drewN | apply Kd.R_drew));exact HO_7.out⟩,⟨by (with_reducible repeat (first | apply Kd.R_alloc | apply Kd.R_drewN | apply Kd.R_drew));exact HO_8.out⟩,⟨by (with_reducible repeat (first | apply Kd.R_alloc | apply Kd.R_drewN | apply Kd.R_drew));exact HO_188000.out⟩,⟨by (with_reducible repeat (first | apply Kd.R_alloc | apply Kd.R_drewN | apply Kd.R_drew));exact HO_188001.out⟩,⟨by (with_reducible repeat (first | refine blk_drewN ?_ _ | refine blk_drew ?_ | refine blk_alloc ?_ _));exact BK186.out⟩,⟨by (with_reducible repeat (first | refine blk_drewN ?_ _ | refine blk_drew ?_ | refine blk_alloc ?_ _));exact BK187.out⟩,⟨by repeat (first | (with_reducible first | exact HB.out | apply below_alloc | apply pw_below_drewN | apply below_drew1 | refine below_set ?_ GE186.out | refine below_set ?_ GE187.out | refine below_set ?_ GE192.out) | exact HB.out)⟩⟩
                ·rw [if_neg c89] at H
                 have c89b0 : (((rd_T56 l0 x17_1).f0) == 22) = false:=beq_eq_false_iff_ne.mpr c89
                 have c89b1 : (((rd_T56 l0 x17_1).f0) != 22) = true:=bne_iff_ne.mpr c89
                 by_cases c93 : ((rd_T56 l0 x17_1).f0) = 14
                 ·rw [if_pos c93] at H
                  have c93b0 : (((rd_T56 l0 x17_1).f0) == 14) = true:=beq_iff_eq.mpr c93
                  have c93b1 : (((rd_T56 l0 x17_1).f0) != 14) = false:=bne_eq_false_iff_eq.mpr c93
                  clear c93
                  have H':=Aside0.mk H
                  clear H
                  have hnb94:=NB192_186.out
                  have hnc94:=NB186_192.out
                  have hnb95:=NB192_187.out
                  have hnc95:=NB187_192.out
                  have hcz96_0 : wc.cell? ⟨gb192,0,none⟩ = some (.int .i64 ((rd_T56 l0 x17_1).f0)):=(blk_cell BK192.out 0).trans rfl
                  have hcz96_1 : wc.cell? ⟨gb192,1,none⟩ = some (.int .i64 ((rd_T56 l0 x17_1).f1)):=(blk_cell BK192.out 1).trans rfl
                  have hcz96_2 : wc.cell? ⟨gb192,2,none⟩ = some (.slice A191_2 ((rd_T56 l0 x17_1).f2).length c191_2):=(blk_cell BK192.out 2).trans rfl
                  have hfz96_0:=blk_frozen BK192.out 0
                  have hfz96_1:=blk_frozen BK192.out 1
                  have hfz96_2:=blk_frozen BK192.out 2
                  go_wp2
                  go_roundg kj48
                  case measure => have:=HK1.out;have:=HJ11.out;have:=HJ48.out;omega
                  case rel => exact ⟨(x5_1),(x5_1),(true),(x7_1),(x8_1),(wrap64 (x17_1 + 1)),(x187002_11),(x187003_11),(y193),(y196),(x188002_11),(x17_1),(.slice Ao20 y193.length co20),(.slice Ao23 y196.length co23),(by first | rfl | (simp;done) | (simp [*];done)),(by first | rfl | (simp;done) | (simp [*];done)),(by first | rfl | (simp;done) | (simp [*];done)),(by first | rfl | (simp;done) | (simp [*];done)),H',⟨by have:=HK1.out;have:=HJ11.out;have:=HJ48.out;omega⟩,⟨by (with_reducible repeat (first | apply Kd.R_alloc | apply Kd.R_drewN | apply Kd.R_drew));exact HO_7.out⟩,⟨by (with_reducible repeat (first | apply Kd.R_alloc | apply Kd.R_drewN | apply Kd.R_drew));exact HO_8.out⟩,⟨by (with_reducible repeat (first | apply Kd.R_alloc | apply Kd.R_drewN | apply Kd.R_drew));exact HO_188000.out⟩,⟨by (with_reducible repeat (first | apply Kd.R_alloc | apply Kd.R_drewN | apply Kd.R_drew));exact HO_188001.out⟩,⟨by (with_reducible repeat (first | refine blk_drewN ?_ _ | refine blk_drew ?_ | refine blk_alloc ?_ _));exact BK186.out⟩,⟨by (with_reducible repeat (first | refine blk_drewN ?_ _ | refine blk_drew ?_ | refine blk_alloc ?_ _));exact BK187.out⟩,⟨by repeat (first | (with_reducible first | exact HB.out | apply below_alloc | apply pw_below_drewN | apply below_drew1 | refine below_set ?_ GE186.out | refine below_set ?_ GE187.out | refine below_set ?_ GE192.out) | exact HB.out)⟩⟩
                 ·rw [if_neg c93] at H
                  have c93b0 : (((rd_T56 l0 x17_1).f0) == 14) = false:=beq_eq_false_iff_ne.mpr c93
                  have c93b1 : (((rd_T56 l0 x17_1).f0) != 14) = true:=bne_iff_ne.mpr c93
                  have H':=Aside0.mk H
                  clear H
                  have hnb97:=NB192_186.out
                  have hnc97:=NB186_192.out
                  have hnb98:=NB192_187.out
                  have hnc98:=NB187_192.out
                  have hcz99_0 : wc.cell? ⟨gb192,0,none⟩ = some (.int .i64 ((rd_T56 l0 x17_1).f0)):=(blk_cell BK192.out 0).trans rfl
                  have hcz99_1 : wc.cell? ⟨gb192,1,none⟩ = some (.int .i64 ((rd_T56 l0 x17_1).f1)):=(blk_cell BK192.out 1).trans rfl
                  have hcz99_2 : wc.cell? ⟨gb192,2,none⟩ = some (.slice A191_2 ((rd_T56 l0 x17_1).f2).length c191_2):=(blk_cell BK192.out 2).trans rfl
                  have hfz99_0:=blk_frozen BK192.out 0
                  have hfz99_1:=blk_frozen BK192.out 1
                  have hfz99_2:=blk_frozen BK192.out 2
                  go_wp2
                  go_roundg kj48
                  case measure => have:=HK1.out;have:=HJ11.out;have:=HJ48.out;omega
                  case rel => exact ⟨((wrap64 (x4_11 + (wrap64 (t200 - t199))))),(x5_1),(x6_1),(x7_1),(x8_1),(wrap64 (x17_1 + 1)),(x187002_11),(x187003_11),(y193),(y196),(x188002_11),(x17_1),(.slice Ao20 y193.length co20),(.slice Ao23 y196.length co23),(by first | rfl | (simp;done) | (simp [*];done)),(by first | rfl | (simp;done) | (simp [*];done)),(by first | rfl | (simp;done) | (simp [*];done)),(by first | rfl | (simp;done) | (simp [*];done)),H',⟨by have:=HK1.out;have:=HJ11.out;have:=HJ48.out;omega⟩,⟨by (with_reducible repeat (first | apply Kd.R_alloc | apply Kd.R_drewN | apply Kd.R_drew));exact HO_7.out⟩,⟨by (with_reducible repeat (first | apply Kd.R_alloc | apply Kd.R_drewN | apply Kd.R_drew));exact HO_8.out⟩,⟨by (with_reducible repeat (first | apply Kd.R_alloc | apply Kd.R_drewN | apply Kd.R_drew));exact HO_188000.out⟩,⟨by (with_reducible repeat (first | apply Kd.R_alloc | apply Kd.R_drewN | apply Kd.R_drew));exact HO_188001.out⟩,⟨by (with_reducible repeat (first | refine blk_drewN ?_ _ | refine blk_drew ?_ | refine blk_alloc ?_ _));exact BK186.out⟩,⟨by (with_reducible repeat (first | refine blk_drewN ?_ _ | refine blk_drew ?_ | refine blk_alloc ?_ _));exact BK187.out⟩,⟨by repeat (first | (with_reducible first | exact HB.out | apply below_alloc | apply pw_below_drewN | apply below_drew1 | refine below_set ?_ GE186.out | refine below_set ?_ GE187.out | refine below_set ?_ GE192.out) | exact HB.out)⟩⟩
       ·rw [if_neg c10] at H
        exact absurd H (by simp)
      ·rw [if_neg c9] at H
       exact absurd H (by simp)
     ·rw [if_neg c8] at H
      exact absurd H (by simp)
    ·rw [if_neg c7] at H
     exact absurd H (by simp)
   ·rw [if_neg c6] at H
    have c6b0 : decide (x17_1 < (l0.length : Int)) = false:=decide_eq_false c6
    clear c6
    by_cases c100 : x188000_1.length < 17592186044416
    ·rw [if_pos c100] at H
     have LMc100:=Aside0.mk c100
     clear c100
     obtain ⟨y188,hy188⟩ : ∃ y_ : List Int,y_ = (x188000_1 ++ [x4_1]):=⟨_,rfl⟩
     replace H : (if x4_1 = 0 then (some (y188,x188001_1,x188002_1,(l0.length : Int))) else (some (y188,x188001_1,3,(l0.length : Int)))) = some (r1,r2,r3,r4):=by first | (rw [hy188];with_reducible exact H) | (have H2_:=(Option.bind_some _ _).symm.trans H;rw [hy188];with_reducible exact H2_) | (have H2_:=(Option.bind_some _ _).symm.trans H;with_reducible exact H2_) | with_reducible exact H | (rw [hy188];exact H) | exact H
     have Ny188:=Aside0.mk hy188
     clear hy188
     by_cases c101 : x4_1 = 0
     ·rw [if_pos c101] at H
      have c101b0 : (x4_1 == 0) = true:=beq_iff_eq.mpr c101
      have c101b1 : (x4_1 != 0) = false:=bne_eq_false_iff_eq.mpr c101
      clear c101
      simp only [Option.some.injEq,Prod.mk.injEq] at H
      obtain ⟨rfl,rfl,rfl,rfl⟩:=H
      have hnb102:=NB187_186.out
      have hnc102:=NB186_187.out
      have hcz103_0 : wr.cell? ⟨gb187,0,none⟩ = some (u188000):=(blk_cell BK187.out 0).trans rfl
      have hcz103_1 : wr.cell? ⟨gb187,1,none⟩ = some (u188001):=(blk_cell BK187.out 1).trans rfl
      have hcz103_2 : wr.cell? ⟨gb187,2,none⟩ = some (.int .i64 x188002_1):=(blk_cell BK187.out 2).trans rfl
      have hcz103_3 : wr.cell? ⟨gb187,3,none⟩ = some (.int .i64 x188003_1):=(blk_cell BK187.out 3).trans rfl
      have hfz103_0:=blk_frozen BK187.out 0
      have hfz103_1:=blk_frozen BK187.out 1
      have hfz103_2:=blk_frozen BK187.out 2
      have hfz103_3:=blk_frozen BK187.out 3
      go_wp2_with (first | ((with_reducible refine gate_builtin (b:=.append) (xs:=#[.tmp 130,.tmp 132]) rfl ?_);at_builtin;refine Kd.R_append (Kd.int .i64) (w0:=w) w.heap.size rfl (.tmp 130) (.tmp 132) 29 3 (.int .i64 0) 8 rfl Try.underlying29 info3 rfl (by decide) (by omega) u188000 x188000_1 x4_1 [.int .i64 x4_1] (fun k_ => some k_ ≠ (u7 : Value).ownBlock) (fun _ => False) rfl rfl ?aP (fun _ hk => hk.elim) ?aF ?aO ?aB ?aS ?aL ?_;(case aP => exact rfl);(case aB => exact (by repeat (first | (with_reducible first | exact HB.out | apply below_alloc | apply pw_below_drewN | apply below_drew1 | refine below_set ?_ GE186.out | refine below_set ?_ GE187.out) | exact HB.out)));(case aF => exact (fun k_ hk => Kd.fresh' (Kd.R_lt (by (with_reducible repeat (first | apply Kd.R_alloc | apply Kd.R_drewN | apply Kd.R_drew));exact HO_7.out)) k_ hk));(case aO => exact (by (with_reducible repeat (first | apply Kd.R_alloc | apply Kd.R_drewN | apply Kd.R_drew));exact HO_188000.out));(case aS => exact (below_size (by repeat (first | (with_reducible first | exact HB.out | apply below_alloc | apply pw_below_drewN | apply below_drew1 | refine below_set ?_ GE186.out | refine below_set ?_ GE187.out) | exact HB.out))));(case aL => have:=LMc100.out;omega);intro v189 w104 ho hb hg hat;rw [← Ny188.out] at ho;have n0_:=Aside0.mk (Kd.R_after (ok:=(fun _ => True)) (by (with_reducible repeat (first | apply Kd.R_alloc | apply Kd.R_drewN | apply Kd.R_drew));exact Kd.R_mono HO_7.out (fun _ hk => ⟨trivial,hk⟩)) hg hat);have n1_:=Aside0.mk (Kd.R_over' (by (with_reducible repeat (first | apply Kd.R_alloc | apply Kd.R_drewN | apply Kd.R_drew));exact HO_8.out) (Kd.R_typed (by (with_reducible repeat (first | apply Kd.R_alloc | apply Kd.R_drewN | apply Kd.R_drew));exact HO_188000.out)) (by decide) hg);have n2_:=Aside0.mk (Kd.R_over' (by (with_reducible repeat (first | apply Kd.R_alloc | apply Kd.R_drewN | apply Kd.R_drew));exact HO_188001.out) (Kd.R_typed (by (with_reducible repeat (first | apply Kd.R_alloc | apply Kd.R_drewN | apply Kd.R_drew));exact HO_188000.out)) (by decide) hg);have n3_:=Aside0.mk (blk_grown (g:=gb186) (o:=.cells #[.slice none 0 0,.slice none 0 0,.int .i64 x187002_1,.int .i64 x187003_1] 79 (0,0)) (by (with_reducible repeat (first | refine blk_drewN ?_ _ | refine blk_drew ?_ | refine blk_alloc ?_ _));exact BK186.out) hg (Kd.R_ne HO_188000.out BK186.out (by decide)));have n4_:=Aside0.mk (blk_grown (g:=gb187) (o:=.cells #[u188000,u188001,.int .i64 x188002_1,.int .i64 x188003_1] 79 (0,0)) (by (with_reducible repeat (first | refine blk_drewN ?_ _ | refine blk_drew ?_ | refine blk_alloc ?_ _));exact BK187.out) hg (Kd.R_ne HO_188000.out BK187.out (by decide)));have n5_:=Aside0.mk (hb);have n6_:=Aside0.mk (ho);clear HO_7;clear HO_8;clear HO_188001;clear BK186;clear BK187;clear HB;clear HO_188000;have HO_7:=n0_;have HO_8:=n1_;have HO_188001:=n2_;have BK186:=n3_;have BK187:=n4_;have HB:=n5_;have HO190:=n6_;clear n0_ n1_ n2_ n3_ n4_ n5_ n6_;clear ho hb hg hat;obtain ⟨Ao105,co105,eo105⟩:=Kd.R_slice HO190.out;subst eo105;have hcz106_0 : w104.cell? ⟨gb187,0,none⟩ = some (u188000):=(blk_cell BK187.out 0).trans rfl;have hcz106_1 : w104.cell? ⟨gb187,1,none⟩ = some (u188001):=(blk_cell BK187.out 1).trans rfl;have hcz106_2 : w104.cell? ⟨gb187,2,none⟩ = some (.int .i64 x188002_1):=(blk_cell BK187.out 2).trans rfl;have hcz106_3 : w104.cell? ⟨gb187,3,none⟩ = some (.int .i64 x188003_1):=(blk_cell BK187.out 3).trans rfl;have hfz106_0:=blk_frozen BK187.out 0;have hfz106_1:=blk_frozen BK187.out 1;have hfz106_2:=blk_frozen BK187.out 2;have hfz106_3:=blk_frozen BK187.out 3;have hcz107_0 : w104.cell? ⟨gb186,0,none⟩ = some (.slice none 0 0):=(blk_cell BK186.out 0).trans rfl;have hcz107_1 : w104.cell? ⟨gb186,1,none⟩ = some (.slice none 0 0):=(blk_cell BK186.out 1).trans rfl;have hcz107_2 : w104.cell? ⟨gb186,2,none⟩ = some (.int .i64 x187002_1):=(blk_cell BK186.out 2).trans rfl;have hcz107_3 : w104.cell? ⟨gb186,3,none⟩ = some (.int .i64 x187003_1):=(blk_cell BK186.out 3).trans rfl;have hfz107_0:=blk_frozen BK186.out 0;have hfz107_1:=blk_frozen BK186.out 1;have hfz107_2:=blk_frozen BK186.out 2;have hfz107_3:=blk_frozen BK186.out 3;obtain ⟨Ao108,co108,eo108⟩:=Kd.R_slice HO_188001.out;subst eo108))
      refine bodyPost_ret (results_cell_row rfl _ _ gb186 79 #[.slice Ao105 y188.length co105,.slice Ao108 x188001_1.length co108,.int .i64 x188002_1,.int .i64 (l0.length : Int)] (0,0) _ rfl (by (with_reducible repeat (first | refine blk_drewN ?_ _ | refine blk_drew ?_ | refine blk_alloc ?_ _));refine blk_put (cs:=#[.slice Ao105 y188.length co105,.slice Ao108 x188001_1.length co108,.int .i64 x188002_1,.int .i64 x187003_1]) ?_ 3 _ rfl;(with_reducible repeat (first | refine blk_drewN ?_ _ | refine blk_drew ?_ | refine blk_alloc ?_ _));refine blk_put (cs:=#[.slice Ao105 y188.length co105,.slice Ao108 x188001_1.length co108,.int .i64 x187002_1,.int .i64 x187003_1]) ?_ 2 _ rfl;(with_reducible repeat (first | refine blk_drewN ?_ _ | refine blk_drew ?_ | refine blk_alloc ?_ _));refine blk_put (cs:=#[.slice Ao105 y188.length co105,.slice none 0 0,.int .i64 x187002_1,.int .i64 x187003_1]) ?_ 1 _ rfl;(with_reducible repeat (first | refine blk_drewN ?_ _ | refine blk_drew ?_ | refine blk_alloc ?_ _));refine blk_put (cs:=#[.slice none 0 0,.slice none 0 0,.int .i64 x187002_1,.int .i64 x187003_1]) ?_ 0 _ rfl;(with_reducible repeat (first | refine blk_drewN ?_ _ | refine blk_drew ?_ | refine blk_alloc ?_ _));refine blk_far ?_ NB186_187.out _;(with_reducible repeat (first | refine blk_drewN ?_ _ | refine blk_drew ?_ | refine blk_alloc ?_ _));refine blk_far ?_ NB186_187.out _;(with_reducible repeat (first | refine blk_drewN ?_ _ | refine blk_drew ?_ | refine blk_alloc ?_ _));exact BK186.out) Try.underlying79 rfl (by kernel_rfl)) rfl ?_
      exact ⟨_,_,by first | rfl | (simp [errW_none,errW_some] <;> rfl) | (simp [*,errW_none,errW_some] <;> rfl),by (with_reducible repeat (first | apply Kd.R_alloc | apply Kd.R_drewN | apply Kd.R_drew));exact Kd.R_mono (Kd.R_far (p:=⟨gb186,3,none⟩) (Kd.R_far (p:=⟨gb186,2,none⟩) (Kd.R_far (p:=⟨gb186,1,none⟩) (Kd.R_far (p:=⟨gb186,0,none⟩) (Kd.R_far (p:=⟨gb187,3,none⟩) (Kd.R_far (p:=⟨gb187,0,none⟩) (Kd.R_types (Kd.R_types HO190.out BK187.out (by decide)) BK186.out (by decide)) (fun _ hk => hk.1.2) (.slice Ao105 y188.length co105)) (fun _ hk => hk.1.2) (.int .i64 (l0.length : Int))) (fun _ hk => hk.2) (.slice Ao105 y188.length co105)) (fun _ hk => hk.2) (.slice Ao108 x188001_1.length co108)) (fun _ hk => hk.2) (.int .i64 x188002_1)) (fun _ hk => hk.2) (.int .i64 (l0.length : Int))) (fun _ hk => trivial),by (with_reducible repeat (first | apply Kd.R_alloc | apply Kd.R_drewN | apply Kd.R_drew));exact Kd.R_mono (Kd.R_far (p:=⟨gb186,3,none⟩) (Kd.R_far (p:=⟨gb186,2,none⟩) (Kd.R_far (p:=⟨gb186,1,none⟩) (Kd.R_far (p:=⟨gb186,0,none⟩) (Kd.R_far (p:=⟨gb187,3,none⟩) (Kd.R_far (p:=⟨gb187,0,none⟩) (Kd.R_types (Kd.R_types HO_188001.out BK187.out (by decide)) BK186.out (by decide)) (fun _ hk => hk.1.2) (.slice Ao105 y188.length co105)) (fun _ hk => hk.1.2) (.int .i64 (l0.length : Int))) (fun _ hk => hk.2) (.slice Ao105 y188.length co105)) (fun _ hk => hk.2) (.slice Ao108 x188001_1.length co108)) (fun _ hk => hk.2) (.int .i64 x188002_1)) (fun _ hk => hk.2) (.int .i64 (l0.length : Int))) (fun _ hk => trivial),by repeat (first | (with_reducible first | exact HB.out | apply below_alloc | apply pw_below_drewN | apply below_drew1 | refine below_set ?_ GE186.out | refine below_set ?_ GE187.out) | exact HB.out)⟩
     ·rw [if_neg c101] at H
      have c101b0 : (x4_1 == 0) = false:=beq_eq_false_iff_ne.mpr c101
      have c101b1 : (x4_1 != 0) = true:=bne_iff_ne.mpr c101
      simp only [Option.some.injEq,Prod.mk.injEq] at H
      obtain ⟨rfl,rfl,rfl,rfl⟩:=H
      have hnb109:=NB187_186.out
      have hnc109:=NB186_187.out
      have hcz110_0 : wr.cell? ⟨gb187,0,none⟩ = some (u188000):=(blk_cell BK187.out 0).trans rfl
      have hcz110_1 : wr.cell? ⟨gb187,1,none⟩ = some (u188001):=(blk_cell BK187.out 1).trans rfl
      have hcz110_2 : wr.cell? ⟨gb187,2,none⟩ = some (.int .i64 x188002_1):=(blk_cell BK187.out 2).trans rfl
      have hcz110_3 : wr.cell? ⟨gb187,3,none⟩ = some (.int .i64 x188003_1):=(blk_cell BK187.out 3).trans rfl
      have hfz110_0:=blk_frozen BK187.out 0
      have hfz110_1:=blk_frozen BK187.out 1
      have hfz110_2:=blk_frozen BK187.out 2
      have hfz110_3:=blk_frozen BK187.out 3
      go_wp2_with (first | ((with_reducible refine gate_builtin (b:=.append) (xs:=#[.tmp 130,.tmp 132]) rfl ?_);at_builtin;refine Kd.R_append (Kd.int .i64) (w0:=w) w.heap.size rfl (.tmp 130) (.tmp 132) 29 3 (.int .i64 0) 8 rfl Try.underlying29 info3 rfl (by decide) (by omega) u188000 x188000_1 x4_1 [.int .i64 x4_1] (fun k_ => some k_ ≠ (u7 : Value).ownBlock) (fun _ => False) rfl rfl ?aP (fun _ hk => hk.elim) ?aF ?aO ?aB ?aS ?aL ?_;(case aP => exact rfl);(case aB => exact (by repeat (first | (with_reducible first | exact HB.out | apply below_alloc | apply pw_below_drewN | apply below_drew1 | refine below_set ?_ GE186.out | refine below_set ?_ GE187.out) | exact HB.out)));(case aF => exact (fun k_ hk => Kd.fresh' (Kd.R_lt (by (with_reducible repeat (first | apply Kd.R_alloc | apply Kd.R_drewN | apply Kd.R_drew));exact HO_7.out)) k_ hk));(case aO => exact (by (with_reducible repeat (first | apply Kd.R_alloc | apply Kd.R_drewN | apply Kd.R_drew));exact HO_188000.out));(case aS => exact (below_size (by repeat (first | (with_reducible first | exact HB.out | apply below_alloc | apply pw_below_drewN | apply below_drew1 | refine below_set ?_ GE186.out | refine below_set ?_ GE187.out) | exact HB.out))));(case aL => have:=LMc100.out;omega);intro v189 w111 ho hb hg hat;rw [← Ny188.out] at ho;have n0_:=Aside0.mk (Kd.R_after (ok:=(fun _ => True)) (by (with_reducible repeat (first | apply Kd.R_alloc | apply Kd.R_drewN | apply Kd.R_drew));exact Kd.R_mono HO_7.out (fun _ hk => ⟨trivial,hk⟩)) hg hat);have n1_:=Aside0.mk (Kd.R_over' (by (with_reducible repeat (first | apply Kd.R_alloc | apply Kd.R_drewN | apply Kd.R_drew));exact HO_8.out) (Kd.R_typed (by (with_reducible repeat (first | apply Kd.R_alloc | apply Kd.R_drewN | apply Kd.R_drew));exact HO_188000.out)) (by decide) hg);have n2_:=Aside0.mk (Kd.R_over' (by (with_reducible repeat (first | apply Kd.R_alloc | apply Kd.R_drewN | apply Kd.R_drew));exact HO_188001.out) (Kd.R_typed (by (with_reducible repeat (first | apply Kd.R_alloc | apply Kd.R_drewN | apply Kd.R_drew));exact HO_188000.out)) (by decide) hg);have n3_:=Aside0.mk (blk_grown (g:=gb186) (o:=.cells #[.slice none 0 0,.slice none 0 0,.int .i64 x187002_1,.int .i64 x187003_1] 79 (0,0)) (by (with_reducible repeat (first | refine blk_drewN ?_ _ | refine blk_drew ?_ | refine blk_alloc ?_ _));exact BK186.out) hg (Kd.R_ne HO_188000.out BK186.out (by decide)));have n4_:=Aside0.mk (blk_grown (g:=gb187) (o:=.cells #[u188000,u188001,.int .i64 x188002_1,.int .i64 x188003_1] 79 (0,0)) (by (with_reducible repeat (first | refine blk_drewN ?_ _ | refine blk_drew ?_ | refine blk_alloc ?_ _));exact BK187.out) hg (Kd.R_ne HO_188000.out BK187.out (by decide)));have n5_:=Aside0.mk (hb);have n6_:=Aside0.mk (ho);clear HO_7;clear HO_8;clear HO_188001;clear BK186;clear BK187;clear HB;clear HO_188000;have HO_7:=n0_;have HO_8:=n1_;have HO_188001:=n2_;have BK186:=n3_;have BK187:=n4_;have HB:=n5_;have HO190:=n6_;clear n0_ n1_ n2_ n3_ n4_ n5_ n6_;clear ho hb hg hat;obtain ⟨Ao112,co112,eo112⟩:=Kd.R_slice HO190.out;subst eo112;have hcz113_0 : w111.cell? ⟨gb187,0,none⟩ = some (u188000):=(blk_cell BK187.out 0).trans rfl;have hcz113_1 : w111.cell? ⟨gb187,1,none⟩ = some (u188001):=(blk_cell BK187.out 1).trans rfl;have hcz113_2 : w111.cell? ⟨gb187,2,none⟩ = some (.int .i64 x188002_1):=(blk_cell BK187.out 2).trans rfl;have hcz113_3 : w111.cell? ⟨gb187,3,none⟩ = some (.int .i64 x188003_1):=(blk_cell BK187.out 3).trans rfl;have hfz113_0:=blk_frozen BK187.out 0;have hfz113_1:=blk_frozen BK187.out 1;have hfz113_2:=blk_frozen BK187.out 2;have hfz113_3:=blk_frozen BK187.out 3;have hcz114_0 : w111.cell? ⟨gb186,0,none⟩ = some (.slice none 0 0):=(blk_cell BK186.out 0).trans rfl;have hcz114_1 : w111.cell? ⟨gb186,1,none⟩ = some (.slice none 0 0):=(blk_cell BK186.out 1).trans rfl;have hcz114_2 : w111.cell? ⟨gb186,2,none⟩ = some (.int .i64 x187002_1):=(blk_cell BK186.out 2).trans rfl;have hcz114_3 : w111.cell? ⟨gb186,3,none⟩ = some (.int .i64 x187003_1):=(blk_cell BK186.out 3).trans rfl;have hfz114_0:=blk_frozen BK186.out 0;have hfz114_1:=blk_frozen BK186.out 1;have hfz114_2:=blk_frozen BK186.out 2;have hfz114_3:=blk_frozen BK186.out 3;obtain ⟨Ao115,co115,eo115⟩:=Kd.R_slice HO_188001.out;subst eo115))
      refine bodyPost_ret (results_cell_row rfl _ _ gb186 79 #[.slice Ao112 y188.length co112,.slice Ao115 x188001_1.length co115,.int .i64 3,.int .i64 (l0.length : Int)] (0,0) _ rfl (by (with_reducible repeat (first | refine blk_drewN ?_ _ | refine blk_drew ?_ | refine blk_alloc ?_ _));refine blk_put (cs:=#[.slice Ao112 y188.length co112,.slice Ao115 x188001_1.length co115,.int .i64 3,.int .i64 x187003_1]) ?_ 3 _ rfl;(with_reducible repeat (first | refine blk_drewN ?_ _ | refine blk_drew ?_ | refine blk_alloc ?_ _));refine blk_put (cs:=#[.slice Ao112 y188.length co112,.slice Ao115 x188001_1.length co115,.int .i64 x187002_1,.int .i64 x187003_1]) ?_ 2 _ rfl;(with_reducible repeat (first | refine blk_drewN ?_ _ | refine blk_drew ?_ | refine blk_alloc ?_ _));refine blk_put (cs:=#[.slice Ao112 y188.length co112,.slice none 0 0,.int .i64 x187002_1,.int .i64 x187003_1]) ?_ 1 _ rfl;(with_reducible repeat (first | refine blk_drewN ?_ _ | refine blk_drew ?_ | refine blk_alloc ?_ _));refine blk_put (cs:=#[.slice none 0 0,.slice none 0 0,.int .i64 x187002_1,.int .i64 x187003_1]) ?_ 0 _ rfl;(with_reducible repeat (first | refine blk_drewN ?_ _ | refine blk_drew ?_ | refine blk_alloc ?_ _));refine blk_far ?_ NB186_187.out _;(with_reducible repeat (first | refine blk_drewN ?_ _ | refine blk_drew ?_ | refine blk_alloc ?_ _));refine blk_far ?_ NB186_187.out _;(with_reducible repeat (first | refine blk_drewN ?_ _ | refine blk_drew ?_ | refine blk_alloc ?_ _));refine blk_far ?_ NB186_187.out _;(with_reducible repeat (first | refine blk_drewN ?_ _ | refine blk_drew ?_ | refine blk_alloc ?_ _));exact BK186.out) Try.underlying79 rfl (by kernel_rfl)) rfl ?_
      exact ⟨_,_,by first | rfl | (simp [errW_none,errW_some] <;> rfl) | (simp [*,errW_none,errW_some] <;> rfl),by (with_reducible repeat (first | apply Kd.R_alloc | apply Kd.R_drewN | apply Kd.R_drew));exact Kd.R_mono (Kd.R_far (p:=⟨gb186,3,none⟩) (Kd.R_far (p:=⟨gb186,2,none⟩) (Kd.R_far (p:=⟨gb186,1,none⟩) (Kd.R_far (p:=⟨gb186,0,none⟩) (Kd.R_far (p:=⟨gb187,2,none⟩) (Kd.R_far (p:=⟨gb187,3,none⟩) (Kd.R_far (p:=⟨gb187,0,none⟩) (Kd.R_types (Kd.R_types HO190.out BK187.out (by decide)) BK186.out (by decide)) (fun _ hk => hk.1.2) (.slice Ao112 y188.length co112)) (fun _ hk => hk.1.2) (.int .i64 (l0.length : Int))) (fun _ hk => hk.1.2) (.int .i64 3)) (fun _ hk => hk.2) (.slice Ao112 y188.length co112)) (fun _ hk => hk.2) (.slice Ao115 x188001_1.length co115)) (fun _ hk => hk.2) (.int .i64 3)) (fun _ hk => hk.2) (.int .i64 (l0.length : Int))) (fun _ hk => trivial),by (with_reducible repeat (first | apply Kd.R_alloc | apply Kd.R_drewN | apply Kd.R_drew));exact Kd.R_mono (Kd.R_far (p:=⟨gb186,3,none⟩) (Kd.R_far (p:=⟨gb186,2,none⟩) (Kd.R_far (p:=⟨gb186,1,none⟩) (Kd.R_far (p:=⟨gb186,0,none⟩) (Kd.R_far (p:=⟨gb187,2,none⟩) (Kd.R_far (p:=⟨gb187,3,none⟩) (Kd.R_far (p:=⟨gb187,0,none⟩) (Kd.R_types (Kd.R_types HO_188001.out BK187.out (by decide)) BK186.out (by decide)) (fun _ hk => hk.1.2) (.slice Ao112 y188.length co112)) (fun _ hk => hk.1.2) (.int .i64 (l0.length : Int))) (fun _ hk => hk.1.2) (.int .i64 3)) (fun _ hk => hk.2) (.slice Ao112 y188.length co112)) (fun _ hk => hk.2) (.slice Ao115 x188001_1.length co115)) (fun _ hk => hk.2) (.int .i64 3)) (fun _ hk => hk.2) (.int .i64 (l0.length : Int))) (fun _ hk => trivial),by repeat (first | (with_reducible first | exact HB.out | apply below_alloc | apply pw_below_drewN | apply below_drew1 | refine below_set ?_ GE186.out | refine below_set ?_ GE187.out) | exact HB.out)⟩
    ·rw [if_neg c100] at H
     exact absurd H (by simp)

end Go.Proofs.Ytmljikgegclolaa.Q
