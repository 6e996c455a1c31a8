-- WRITTEN BY A PROGRAM OF THIS SESSION
import Derived.Test.YtmljikgegclolaaQ0
import Derived.Test.YtmljikgegclolaaQ5
import Derived.Test.YtmljikgegclolaaQ7
namespace Go.Proofs.Ytmljikgegclolaa.Q
open Go.RowKit Go.Proofs.YtmljikgegclolaaW.PrintWords Go.Proofs.YtmljikgegclolaaW.PrintLast Go.Proofs.YtmljikgegclolaaW.PrintMore
attribute [local go_sem] max2_int min2_int max_two min_two max_three min_three max_four min_four   -- for this text's walks alone
set_option linter.unusedVariables false
set_option linter.unusedSimpArgs false

/-! ### spec_l4Valid: function 66 -/
def spec_l4Valid.f (k : Nat) (l0 : List (S56)) : Option (List Int × List Bool × Int × Int × Bool):=(spec_GoodSteps.f k l0).bind fun t217 => (if t217 = true then ((spec_l4Walk.f k l0).bind fun bt218 => (some (bt218.1,bt218.2.1,bt218.2.2.1,bt218.2.2.2,(bt218.2.2.1 == 0)))) else (some (([] : List Int),([] : List Bool),0,0,false)))
theorem spec_l4Valid.mono : ∀ a0 k,LeO (spec_l4Valid.f k a0) (spec_l4Valid.f (k + 1) a0):=by
 intro a0 k
 unfold spec_l4Valid.f
 repeat' first
   | (with_reducible exact spec_GoodSteps.mono _ _)
   | (with_reducible exact spec_l4Walk.mono _ _)
   | (with_reducible exact LeO.refl _)
   | (with_reducible exact LeO.none _)
   | (with_reducible refine LeO.ite ?_ ?_)
   | (with_reducible refine LeO.bind ?_ (fun _ => ?_))
   | exact spec_GoodSteps.mono _ _
   | exact spec_l4Walk.mono _ _
   | exact LeO.none _
   | refine LeO.ite ?_ ?_
   | refine LeO.bind ?_ (fun _ => ?_)
set_option maxHeartbeats 8000000 in
set_option maxRecDepth 100000 in
theorem spec_l4Valid.calls (k : Nat) (A0 : Option Addr) (c0 : Nat) (l0 : List (S56)) (r1 : List Int) (r2 : List Bool) (r3 : Int) (r4 : Int) (r5 : Bool) (w : World) (hr0 : Kd.C k56 w A0 l0.length l0) (hc0 : l0.length ≤ c0) (h : spec_l4Valid.f k l0 = some (r1,r2,r3,r4,r5)) :
  Calls Try.prog 66 #[.slice A0 l0.length c0] w fun e w' => ∃ v0_ v1_ : Value,e = .returned (.tuple #[.agg #[v0_,v1_,.int .i64 r3,.int .i64 r4],.bool r5]) ∧ Kd.R (Kd.int .i64) 3 w' w.heap.size (fun _ => True) v0_ r1 ∧ Kd.R Kd.bool 4 w' w.heap.size (fun _ => True) v1_ r2 ∧ Below w.heap.size w w':=by
 have hu79:=Try.underlying79
 have HR0:=Aside0.mk hr0
 have HC0:=Aside0.mk hc0
 clear hr0 hc0
 have HB:=Aside0.mk (Below.refl w.heap.size w)
 have H : ((spec_GoodSteps.f k l0).bind fun t217 => (if t217 = true then ((spec_l4Walk.f k l0).bind fun bt218 => (some (bt218.1,bt218.2.1,bt218.2.2.1,bt218.2.2.2,(bt218.2.2.1 == 0)))) else (some (([] : List Int),([] : List Bool),0,0,false)))) = some (r1,r2,r3,r4,r5):=h
 clear h
 replace H:=Option.bind_eq_some_iff.mp H
 obtain ⟨t217,A20,H⟩:=H
 replace H : (if t217 = true then ((spec_l4Walk.f k l0).bind fun bt218 => (some (bt218.1,bt218.2.1,bt218.2.2.1,bt218.2.2.2,(bt218.2.2.1 == 0)))) else (some (([] : List Int),([] : List Bool),0,0,false))) = some (r1,r2,r3,r4,r5):=H
 have A2:=Aside0.mk A20
 clear A20
 by_cases c3 : t217 = true
 ·subst c3
  have H1 : ((spec_l4Walk.f k l0).bind fun bt218 => (some (bt218.1,bt218.2.1,bt218.2.2.1,bt218.2.2.2,(bt218.2.2.1 == 0)))) = some (r1,r2,r3,r4,r5):=by rw [if_pos rfl] at H;exact H
  clear H
  have H:=H1
  clear H1
  replace H:=Option.bind_eq_some_iff.mp H
  obtain ⟨⟨t218,t221,t224,t225⟩,A40,H⟩:=H
  replace H : (some (t218,t221,t224,t225,(t224 == 0))) = some (r1,r2,r3,r4,r5):=H
  have A4:=Aside0.mk A40
  clear A40
  simp only [Option.some.injEq,Prod.mk.injEq] at H
  obtain ⟨rfl,rfl,rfl,rfl,rfl⟩:=H
  go_enter Try.func66,Try.ntmps66
  try go_wp2_with (first | ((with_reducible refine gate_dst (N:=2) rfl ?_);refine box_event ?hg (N:=2) ?hd (cs:=#[.slice none 0 0,.slice none 0 0,.int .i64 0,.int .i64 0]) (t:=79) ?hr ?_;(case hd => rfl);(case hg => rfl);(case hr => first | (go_simp;done) | (go_simp;rfl));intro gb216 hg w5 hbox hb;have n0_:=Aside0.mk (below_step (by repeat (first | (with_reducible first | exact HB.out | apply below_alloc | apply pw_below_drewN | apply below_drew1) | exact HB.out)) hb);have n1_:=Aside0.mk (hbox);have n2_:=Aside0.mk ((by rw [hg];exact (below_size (by repeat (first | (with_reducible first | exact HB.out | apply below_alloc | apply pw_below_drewN | apply below_drew1) | exact HB.out))) : w.heap.size ≤ gb216));have n3_:=Aside0.mk ((by rw [hg];exact (below_size (by repeat (first | (with_reducible first | exact HB.out | apply below_alloc | apply pw_below_drewN | apply below_drew1) | exact HB.out))) : w.heap.size ≤ gb216));clear HB;have HB:=n0_;have BK216:=n1_;have GW216:=n2_;have GE216:=n3_;clear n0_ n1_ n2_ n3_;clear hb hbox hg) | ((with_reducible refine gate_callee (f:=15) rfl ?_);refine goesL_ (some 6) rfl rfl Try.func15 (by kernel_rfl) rfl #[.slice A0 l0.length c0] rfl (by (try simp only [List.map_toArray,List.map_cons,List.map_nil]);first | done | rfl | (simp only [List.length_drop,List.length_take];rfl)) ?_;(with_reducible refine (spec_GoodSteps.calls k _ _ l0 true _ ?side1 ?side2 A2.out).mono ?_);(case side1 => repeat (first | exact (Kd.C_below HR0.out HB.out) | (with_reducible refine Kd.C_alloc ?_ _) | (with_reducible refine Kd.C_drewN ?_ _) | (with_reducible refine Kd.C_drew ?_)));(case side2 => exact HC0.out);rintro e w6 ⟨rfl,hb⟩;refine ⟨_,rfl,?_⟩;have n0_:=Aside0.mk (blk_below (g:=gb216) (o:=.cells #[.slice none 0 0,.slice none 0 0,.int .i64 0,.int .i64 0] 79 (0,0)) (by (with_reducible repeat (first | refine blk_drewN ?_ _ | refine blk_drew ?_ | refine blk_alloc ?_ _));exact BK216.out) hb);have n1_:=Aside0.mk (below_step (by repeat (first | (with_reducible first | exact HB.out | apply below_alloc | apply pw_below_drewN | apply below_drew1 | refine below_set ?_ GE216.out) | exact HB.out)) hb);clear BK216;clear HB;have BK216:=n0_;have HB:=n1_;clear n0_ n1_;(try clear hb);(try clear hb2);(try clear hk);(try clear hi)) | ((with_reducible refine gate_callee (f:=64) rfl ?_);refine goesL_ (some 10) rfl rfl Try.func64 (by kernel_rfl) rfl #[.slice A0 l0.length c0] rfl (by (try simp only [List.map_toArray,List.map_cons,List.map_nil]);first | done | rfl | (simp only [List.length_drop,List.length_take];rfl)) ?_;(with_reducible refine (spec_l4Walk.calls k _ _ l0 t218 t221 t224 t225 _ ?side1 ?side2 A4.out).mono ?_);(case side1 => repeat (first | exact (Kd.C_below HR0.out HB.out) | (with_reducible refine Kd.C_alloc ?_ _) | (with_reducible refine Kd.C_drewN ?_ _) | (with_reducible refine Kd.C_drew ?_)));(case side2 => exact HC0.out);rintro e w7 ⟨v219,v222,rfl,ho0,ho1,hb⟩;refine ⟨_,rfl,?_⟩;have n0_:=Aside0.mk (Kd.R_lower ho0 (below_size (by repeat (first | (with_reducible first | exact HB.out | apply below_alloc | apply pw_below_drewN | apply below_drew1 | refine below_set ?_ GE216.out) | exact HB.out))));have n1_:=Aside0.mk (Kd.R_lower ho1 (below_size (by repeat (first | (with_reducible first | exact HB.out | apply below_alloc | apply pw_below_drewN | apply below_drew1 | refine below_set ?_ GE216.out) | exact HB.out))));have n2_:=Aside0.mk (blk_below (g:=gb216) (o:=.cells #[.slice none 0 0,.slice none 0 0,.int .i64 0,.int .i64 0] 79 (0,0)) (by (with_reducible repeat (first | refine blk_drewN ?_ _ | refine blk_drew ?_ | refine blk_alloc ?_ _));exact BK216.out) hb);have n3_:=Aside0.mk (below_step (by repeat (first | (with_reducible first | exact HB.out | apply below_alloc | apply pw_below_drewN | apply below_drew1 | refine below_set ?_ GE216.out) | exact HB.out)) hb);clear BK216;clear HB;have HO220:=n0_;have HO223:=n1_;have BK216:=n2_;have HB:=n3_;clear n0_ n1_ n2_ n3_;(try clear hb);(try clear hb2);(try clear hk);(try clear hi);(try clear ho0);(try clear ho1)) | ((with_reducible refine gate_dst (N:=4) rfl ?_);refine box_event ?hg (N:=4) ?hd (cs:=#[.slice none 0 0,.slice none 0 0,.int .i64 0,.int .i64 0]) (t:=79) ?hr ?_;(case hd => rfl);(case hg => rfl);(case hr => first | (go_simp;done) | (go_simp;rfl));intro gb226 hg w8 hbox hb;have n0_:=Aside0.mk (Kd.R_below (by (with_reducible repeat (first | apply Kd.R_alloc | apply Kd.R_drewN | apply Kd.R_drew));exact HO220.out) hb);have n1_:=Aside0.mk (Kd.R_below (by (with_reducible repeat (first | apply Kd.R_alloc | apply Kd.R_drewN | apply Kd.R_drew));exact HO223.out) hb);have n2_:=Aside0.mk (blk_below (g:=gb216) (o:=.cells #[.slice none 0 0,.slice none 0 0,.int .i64 0,.int .i64 0] 79 (0,0)) (by (with_reducible repeat (first | refine blk_drewN ?_ _ | refine blk_drew ?_ | refine blk_alloc ?_ _));exact BK216.out) hb);have n3_:=Aside0.mk (below_step (by repeat (first | (with_reducible first | exact HB.out | apply below_alloc | apply pw_below_drewN | apply below_drew1 | refine below_set ?_ GE216.out) | exact HB.out)) hb);have n4_:=Aside0.mk (hbox);have n5_:=Aside0.mk ((by rw [hg];exact (below_size (by repeat (first | (with_reducible first | exact HB.out | apply below_alloc | apply pw_below_drewN | apply below_drew1 | refine below_set ?_ GE216.out) | exact HB.out))) : w.heap.size ≤ gb226));have n6_:=Aside0.mk ((by rw [hg];exact (below_size (by repeat (first | (with_reducible first | exact HB.out | apply below_alloc | apply pw_below_drewN | apply below_drew1 | refine below_set ?_ GE216.out) | exact HB.out))) : w.heap.size ≤ gb226));have n7_:=Aside0.mk ((by rw [hg];exact Nat.ne_of_lt (blk_lt (g:=gb216) (o:=.cells #[.slice none 0 0,.slice none 0 0,.int .i64 0,.int .i64 0] 79 (0,0)) (by (with_reducible repeat (first | refine blk_drewN ?_ _ | refine blk_drew ?_ | refine blk_alloc ?_ _));exact BK216.out)) : gb216 ≠ gb226));have n8_:=Aside0.mk ((by rw [hg];exact Nat.ne_of_gt (blk_lt (g:=gb216) (o:=.cells #[.slice none 0 0,.slice none 0 0,.int .i64 0,.int .i64 0] 79 (0,0)) (by (with_reducible repeat (first | refine blk_drewN ?_ _ | refine blk_drew ?_ | refine blk_alloc ?_ _));exact BK216.out)) : gb226 ≠ gb216));clear HO220;clear HO223;clear BK216;clear HB;have HO220:=n0_;have HO223:=n1_;have BK216:=n2_;have HB:=n3_;have BK226:=n4_;have GW226:=n5_;have GE226:=n6_;have NB216_226:=n7_;have NB226_216:=n8_;clear n0_ n1_ n2_ n3_ n4_ n5_ n6_ n7_ n8_;clear hb hbox hg;obtain ⟨Ao9,co9,eo9⟩:=Kd.R_slice HO220.out;subst eo9;have hnb10:=NB226_216.out;have hnc10:=NB216_226.out;have hcz11_0 : w8.cell? ⟨gb226,0,none⟩ = some (.slice none 0 0):=(blk_cell BK226.out 0).trans rfl;have hcz11_1 : w8.cell? ⟨gb226,1,none⟩ = some (.slice none 0 0):=(blk_cell BK226.out 1).trans rfl;have hcz11_2 : w8.cell? ⟨gb226,2,none⟩ = some (.int .i64 0):=(blk_cell BK226.out 2).trans rfl;have hcz11_3 : w8.cell? ⟨gb226,3,none⟩ = some (.int .i64 0):=(blk_cell BK226.out 3).trans rfl;have hfz11_0:=blk_frozen BK226.out 0;have hfz11_1:=blk_frozen BK226.out 1;have hfz11_2:=blk_frozen BK226.out 2;have hfz11_3:=blk_frozen BK226.out 3;obtain ⟨Ao12,co12,eo12⟩:=Kd.R_slice HO223.out;subst eo12))
  have n0_ : Aside0 (Kd.R (Kd.int .i64) 3 ((((w8.setCell ⟨gb226,0,none⟩ (.slice Ao9 t218.length co9)).setCell ⟨gb226,1,none⟩ (.slice Ao12 t221.length co12)).setCell ⟨gb226,2,none⟩ (.int .i64 t224)).setCell ⟨gb226,3,none⟩ (.int .i64 t225)) w.heap.size (fun _ => True) (.slice Ao9 t218.length co9) t218):=⟨by (with_reducible repeat (first | apply Kd.R_alloc | apply Kd.R_drewN | apply Kd.R_drew));exact Kd.R_mono (Kd.R_far (p:=⟨gb226,3,none⟩) (Kd.R_far (p:=⟨gb226,2,none⟩) (Kd.R_far (p:=⟨gb226,1,none⟩) (Kd.R_far (p:=⟨gb226,0,none⟩) (Kd.R_types HO220.out BK226.out (by decide)) (fun _ hk => hk.2) (.slice Ao9 t218.length co9)) (fun _ hk => hk.2) (.slice Ao12 t221.length co12)) (fun _ hk => hk.2) (.int .i64 t224)) (fun _ hk => hk.2) (.int .i64 t225)) (fun _ hk => trivial)⟩
  have n1_ : Aside0 (Kd.R Kd.bool 4 ((((w8.setCell ⟨gb226,0,none⟩ (.slice Ao9 t218.length co9)).setCell ⟨gb226,1,none⟩ (.slice Ao12 t221.length co12)).setCell ⟨gb226,2,none⟩ (.int .i64 t224)).setCell ⟨gb226,3,none⟩ (.int .i64 t225)) w.heap.size (fun _ => True) (.slice Ao12 t221.length co12) t221):=⟨by (with_reducible repeat (first | apply Kd.R_alloc | apply Kd.R_drewN | apply Kd.R_drew));exact Kd.R_mono (Kd.R_far (p:=⟨gb226,3,none⟩) (Kd.R_far (p:=⟨gb226,2,none⟩) (Kd.R_far (p:=⟨gb226,1,none⟩) (Kd.R_far (p:=⟨gb226,0,none⟩) (Kd.R_types HO223.out BK226.out (by decide)) (fun _ hk => hk.2) (.slice Ao9 t218.length co9)) (fun _ hk => hk.2) (.slice Ao12 t221.length co12)) (fun _ hk => hk.2) (.int .i64 t224)) (fun _ hk => hk.2) (.int .i64 t225)) (fun _ hk => trivial)⟩
  have n2_ : Aside0 (((((w8.setCell ⟨gb226,0,none⟩ (.slice Ao9 t218.length co9)).setCell ⟨gb226,1,none⟩ (.slice Ao12 t221.length co12)).setCell ⟨gb226,2,none⟩ (.int .i64 t224)).setCell ⟨gb226,3,none⟩ (.int .i64 t225)).heap[gb216]? = some (.cells #[.slice none 0 0,.slice none 0 0,.int .i64 0,.int .i64 0] 79 (0,0))):=⟨by (with_reducible repeat (first | refine blk_drewN ?_ _ | refine blk_drew ?_ | refine blk_alloc ?_ _));refine blk_far ?_ NB216_226.out _;(with_reducible repeat (first | refine blk_drewN ?_ _ | refine blk_drew ?_ | refine blk_alloc ?_ _));refine blk_far ?_ NB216_226.out _;(with_reducible repeat (first | refine blk_drewN ?_ _ | refine blk_drew ?_ | refine blk_alloc ?_ _));refine blk_far ?_ NB216_226.out _;(with_reducible repeat (first | refine blk_drewN ?_ _ | refine blk_drew ?_ | refine blk_alloc ?_ _));refine blk_far ?_ NB216_226.out _;(with_reducible repeat (first | refine blk_drewN ?_ _ | refine blk_drew ?_ | refine blk_alloc ?_ _));exact BK216.out⟩
  have n3_ : Aside0 (((((w8.setCell ⟨gb226,0,none⟩ (.slice Ao9 t218.length co9)).setCell ⟨gb226,1,none⟩ (.slice Ao12 t221.length co12)).setCell ⟨gb226,2,none⟩ (.int .i64 t224)).setCell ⟨gb226,3,none⟩ (.int .i64 t225)).heap[gb226]? = some (.cells #[.slice Ao9 t218.length co9,.slice Ao12 t221.length co12,.int .i64 t224,.int .i64 t225] 79 (0,0))):=⟨by (with_reducible repeat (first | refine blk_drewN ?_ _ | refine blk_drew ?_ | refine blk_alloc ?_ _));refine blk_put (cs:=#[.slice Ao9 t218.length co9,.slice Ao12 t221.length co12,.int .i64 t224,.int .i64 0]) ?_ 3 _ rfl;(with_reducible repeat (first | refine blk_drewN ?_ _ | refine blk_drew ?_ | refine blk_alloc ?_ _));refine blk_put (cs:=#[.slice Ao9 t218.length co9,.slice Ao12 t221.length co12,.int .i64 0,.int .i64 0]) ?_ 2 _ rfl;(with_reducible repeat (first | refine blk_drewN ?_ _ | refine blk_drew ?_ | refine blk_alloc ?_ _));refine blk_put (cs:=#[.slice Ao9 t218.length co9,.slice none 0 0,.int .i64 0,.int .i64 0]) ?_ 1 _ rfl;(with_reducible repeat (first | refine blk_drewN ?_ _ | refine blk_drew ?_ | refine blk_alloc ?_ _));refine blk_put (cs:=#[.slice none 0 0,.slice none 0 0,.int .i64 0,.int .i64 0]) ?_ 0 _ rfl;(with_reducible repeat (first | refine blk_drewN ?_ _ | refine blk_drew ?_ | refine blk_alloc ?_ _));exact BK226.out⟩
  have n4_ : Aside0 (Below w.heap.size w ((((w8.setCell ⟨gb226,0,none⟩ (.slice Ao9 t218.length co9)).setCell ⟨gb226,1,none⟩ (.slice Ao12 t221.length co12)).setCell ⟨gb226,2,none⟩ (.int .i64 t224)).setCell ⟨gb226,3,none⟩ (.int .i64 t225))):=⟨by repeat (first | (with_reducible first | exact HB.out | apply below_alloc | apply pw_below_drewN | apply below_drew1 | refine below_set ?_ GE216.out | refine below_set ?_ GE226.out) | exact HB.out)⟩
  (try clear HO220)
  (try clear HO223)
  (try clear BK216)
  (try clear BK226)
  (try clear HB)
  generalize ((((w8.setCell ⟨gb226,0,none⟩ (.slice Ao9 t218.length co9)).setCell ⟨gb226,1,none⟩ (.slice Ao12 t221.length co12)).setCell ⟨gb226,2,none⟩ (.int .i64 t224)).setCell ⟨gb226,3,none⟩ (.int .i64 t225)) = w13 at n0_ n1_ n2_ n3_ n4_ ⊢
  have HO220:=n0_
  have HO223:=n1_
  have BK216:=n2_
  have BK226:=n3_
  have HB:=n4_
  clear n0_ n1_ n2_ n3_ n4_
  have n0_:=Aside0.mk (Kd.R_drew HO220.out)
  have n1_:=Aside0.mk (Kd.R_drew HO223.out)
  have n2_:=Aside0.mk (blk_drew BK216.out)
  have n3_:=Aside0.mk (blk_drew BK226.out)
  have n4_:=Aside0.mk (below_drew1 HB.out)
  clear HO220
  clear HO223
  clear BK216
  clear BK226
  clear HB
  have HO220:=n0_
  have HO223:=n1_
  have BK216:=n2_
  have BK226:=n3_
  have HB:=n4_
  clear n0_ n1_ n2_ n3_ n4_
  refine start_ (n:=6) (S:=fun w' => w'.cell? ⟨gb226,0,none⟩ = some (.slice Ao9 t218.length co9) ∧ w'.cell? ⟨gb226,1,none⟩ = some (.slice Ao12 t221.length co12) ∧ w'.cell? ⟨gb226,2,none⟩ = some (.int .i64 t224) ∧ w'.cell? ⟨gb226,3,none⟩ = some (.int .i64 t225)) (ds:=[]) #[false,false,false,false,false,false] (by kernel_rfl) rfl rfl ⟨(blk_cell BK226.out 0).trans rfl,(blk_cell BK226.out 1).trans rfl,(blk_cell BK226.out 2).trans rfl,(blk_cell BK226.out 3).trans rfl⟩ (fun hHeld => ?_)
  generalize w13.drew = w14 at HO220 HO223 BK216 BK226 HB hHeld ⊢
  refine pure_ (i:=1) (N:=some 12) (v:=?_) (a':=?_) #[false,true,false,false,false,false] rfl rfl (by kernel_rfl) (fun _ _ _ h => h) (Or.inl ⟨by rfl,?_⟩) ?_ ?_
  rotate_left
  ·intro w'
   go_simp
   with_reducible rfl
  rotate_left
  ·simp only [Act.put,List.setIfInBounds_toArray,List.set_cons_zero,List.set_cons_succ,i64_w,i32_w]
   rfl
  refine take_ (i:=0) (N:=some 11) (v:=?_) (a':=?_) #[true,true,false,false,false,false] rfl rfl (by kernel_rfl) (fun _ _ _ h => h) (Or.inl ⟨by rfl,?_⟩) hHeld ?_ ?_
  rotate_left
  ·rintro w' ⟨s0,s1,s2,s3⟩
   go_simp
   with_reducible rfl
  rotate_left
  ·simp only [Act.put,List.setIfInBounds_toArray,List.set_cons_zero,List.set_cons_succ,i64_w,i32_w]
   rfl
  refine take_ (i:=2) (N:=some 13) (v:=?_) (a':=?_) #[true,true,true,false,false,false] rfl rfl (by kernel_rfl) (fun _ _ _ h => h) (Or.inl ⟨by rfl,?_⟩) hHeld ?_ ?_
  rotate_left
  ·rintro w' ⟨s0,s1,s2,s3⟩
   go_simp
   with_reducible rfl
  rotate_left
  ·simp only [Act.put,List.setIfInBounds_toArray,List.set_cons_zero,List.set_cons_succ,i64_w,i32_w]
   rfl
  refine pure_ (i:=3) (N:=some 14) (v:=?_) (a':=?_) #[true,true,true,true,false,false] rfl rfl (by kernel_rfl) (fun _ _ _ h => h) (Or.inl ⟨by rfl,?_⟩) ?_ ?_
  rotate_left
  ·intro w'
   go_simp
   with_reducible rfl
  rotate_left
  ·simp only [Act.put,List.setIfInBounds_toArray,List.set_cons_zero,List.set_cons_succ,i64_w,i32_w]
   rfl
  refine one_ (i:=4) (N:=none) #[true,true,true,true,true,false] rfl rfl (by kernel_rfl) (by decide) (fun K hK => ?_)
  have hs15 : w14.cell? ⟨gb216,0,none⟩ = some (.slice none 0 0):=(blk_cell BK216.out 0).trans rfl
  have hfs15:=blk_frozen BK216.out 0
  have hns15_1:=NB226_216.out
  have hms15_1:=NB216_226.out
  have hs16 : w14.cell? ⟨gb216,1,none⟩ = some (.slice none 0 0):=(blk_cell BK216.out 1).trans rfl
  have hfs16:=blk_frozen BK216.out 1
  have hns16_1:=NB226_216.out
  have hms16_1:=NB216_226.out
  have hs17 : w14.cell? ⟨gb216,2,none⟩ = some (.int .i64 0):=(blk_cell BK216.out 2).trans rfl
  have hfs17:=blk_frozen BK216.out 2
  have hns17_1:=NB226_216.out
  have hms17_1:=NB216_226.out
  have hs18 : w14.cell? ⟨gb216,3,none⟩ = some (.int .i64 0):=(blk_cell BK216.out 3).trans rfl
  have hfs18:=blk_frozen BK216.out 3
  have hns18_1:=NB226_216.out
  have hms18_1:=NB216_226.out
  refine skip_ (w1:=?_) (by rfl) rfl ?_ ?_
  rotate_left
  ·go_simp
   rfl
  refine hK.out _ _ ⟨((cell_far (p:=⟨gb216,_,none⟩) NB226_216.out _).trans (((cell_far (p:=⟨gb216,_,none⟩) NB226_216.out _).trans (((cell_far (p:=⟨gb216,_,none⟩) NB226_216.out _).trans (((cell_far (p:=⟨gb216,_,none⟩) NB226_216.out _).trans (hHeld.1)))))))),((cell_far (p:=⟨gb216,_,none⟩) NB226_216.out _).trans (((cell_far (p:=⟨gb216,_,none⟩) NB226_216.out _).trans (((cell_far (p:=⟨gb216,_,none⟩) NB226_216.out _).trans (((cell_far (p:=⟨gb216,_,none⟩) NB226_216.out _).trans (hHeld.2.1)))))))),((cell_far (p:=⟨gb216,_,none⟩) NB226_216.out _).trans (((cell_far (p:=⟨gb216,_,none⟩) NB226_216.out _).trans (((cell_far (p:=⟨gb216,_,none⟩) NB226_216.out _).trans (((cell_far (p:=⟨gb216,_,none⟩) NB226_216.out _).trans (hHeld.2.2.1)))))))),((cell_far (p:=⟨gb216,_,none⟩) NB226_216.out _).trans (((cell_far (p:=⟨gb216,_,none⟩) NB226_216.out _).trans (((cell_far (p:=⟨gb216,_,none⟩) NB226_216.out _).trans (((cell_far (p:=⟨gb216,_,none⟩) NB226_216.out _).trans (hHeld.2.2.2))))))))⟩ (fun hHeld => ?_)
  clear hK K
  refine pure_ (i:=5) (N:=some 3) (v:=?_) (a':=?_) #[true,true,true,true,true,true] rfl rfl (by kernel_rfl) (fun _ _ _ h => h) (Or.inl ⟨by rfl,?_⟩) ?_ ?_
  rotate_left
  ·intro w'
   go_simp
   with_reducible rfl
  rotate_left
  ·simp only [Act.put,List.setIfInBounds_toArray,List.set_cons_zero,List.set_cons_succ,i64_w,i32_w]
   rfl
  refine done_ (by kernel_rfl) ?_
  try go_wp2
  refine bodyPost_ret (results_ct rfl _ _ gb216 79 #[.slice Ao9 t218.length co9,.slice Ao12 t221.length co12,.int .i64 t224,.int .i64 t225] (0,0) _ rfl (by (with_reducible repeat (first | refine blk_drewN ?_ _ | refine blk_drew ?_ | refine blk_alloc ?_ _));refine blk_put (cs:=#[.slice Ao9 t218.length co9,.slice Ao12 t221.length co12,.int .i64 t224,.int .i64 0]) ?_ 3 _ rfl;(with_reducible repeat (first | refine blk_drewN ?_ _ | refine blk_drew ?_ | refine blk_alloc ?_ _));refine blk_put (cs:=#[.slice Ao9 t218.length co9,.slice Ao12 t221.length co12,.int .i64 0,.int .i64 0]) ?_ 2 _ rfl;(with_reducible repeat (first | refine blk_drewN ?_ _ | refine blk_drew ?_ | refine blk_alloc ?_ _));refine blk_put (cs:=#[.slice Ao9 t218.length co9,.slice none 0 0,.int .i64 0,.int .i64 0]) ?_ 1 _ rfl;(with_reducible repeat (first | refine blk_drewN ?_ _ | refine blk_drew ?_ | refine blk_alloc ?_ _));refine blk_put (cs:=#[.slice none 0 0,.slice none 0 0,.int .i64 0,.int .i64 0]) ?_ 0 _ rfl;(with_reducible repeat (first | refine blk_drewN ?_ _ | refine blk_drew ?_ | refine blk_alloc ?_ _));exact BK216.out) Try.underlying79 rfl (by kernel_rfl)) rfl ?_
  exact ⟨_,_,by first | rfl | (simp [errW_none,errW_some] <;> rfl) | (simp [*,errW_none,errW_some] <;> rfl),by (with_reducible repeat (first | apply Kd.R_alloc | apply Kd.R_drewN | apply Kd.R_drew));exact Kd.R_mono (Kd.R_far (p:=⟨gb216,3,none⟩) (Kd.R_far (p:=⟨gb216,2,none⟩) (Kd.R_far (p:=⟨gb216,1,none⟩) (Kd.R_far (p:=⟨gb216,0,none⟩) (Kd.R_types HO220.out BK216.out (by decide)) (fun _ hk => hk.2) (.slice Ao9 t218.length co9)) (fun _ hk => hk.2) (.slice Ao12 t221.length co12)) (fun _ hk => hk.2) (.int .i64 t224)) (fun _ hk => hk.2) (.int .i64 t225)) (fun _ hk => trivial),by (with_reducible repeat (first | apply Kd.R_alloc | apply Kd.R_drewN | apply Kd.R_drew));exact Kd.R_mono (Kd.R_far (p:=⟨gb216,3,none⟩) (Kd.R_far (p:=⟨gb216,2,none⟩) (Kd.R_far (p:=⟨gb216,1,none⟩) (Kd.R_far (p:=⟨gb216,0,none⟩) (Kd.R_types HO223.out BK216.out (by decide)) (fun _ hk => hk.2) (.slice Ao9 t218.length co9)) (fun _ hk => hk.2) (.slice Ao12 t221.length co12)) (fun _ hk => hk.2) (.int .i64 t224)) (fun _ hk => hk.2) (.int .i64 t225)) (fun _ hk => trivial),by repeat (first | (with_reducible first | exact HB.out | apply below_alloc | apply pw_below_drewN | apply below_drew1 | refine below_set ?_ GE216.out | refine below_set ?_ GE226.out) | exact HB.out)⟩
 ·replace c3:=Bool.eq_false_iff.mpr c3
  subst c3
  have H1 : (some (([] : List Int),([] : List Bool),0,0,false)) = some (r1,r2,r3,r4,r5):=by rw [if_neg (show ¬ (false = true) by decide)] at H;exact H
  clear H
  have H:=H1
  clear H1
  simp only [Option.some.injEq,Prod.mk.injEq] at H
  obtain ⟨rfl,rfl,rfl,rfl,rfl⟩:=H
  go_enter Try.func66,Try.ntmps66
  go_wp2_with (first | ((with_reducible refine gate_dst (N:=2) rfl ?_);refine box_event ?hg (N:=2) ?hd (cs:=#[.slice none 0 0,.slice none 0 0,.int .i64 0,.int .i64 0]) (t:=79) ?hr ?_;(case hd => rfl);(case hg => rfl);(case hr => first | (go_simp;done) | (go_simp;rfl));intro gb216 hg w19 hbox hb;have n0_:=Aside0.mk (below_step (by repeat (first | (with_reducible first | exact HB.out | apply below_alloc | apply pw_below_drewN | apply below_drew1) | exact HB.out)) hb);have n1_:=Aside0.mk (hbox);have n2_:=Aside0.mk ((by rw [hg];exact (below_size (by repeat (first | (with_reducible first | exact HB.out | apply below_alloc | apply pw_below_drewN | apply below_drew1) | exact HB.out))) : w.heap.size ≤ gb216));have n3_:=Aside0.mk ((by rw [hg];exact (below_size (by repeat (first | (with_reducible first | exact HB.out | apply below_alloc | apply pw_below_drewN | apply below_drew1) | exact HB.out))) : w.heap.size ≤ gb216));clear HB;have HB:=n0_;have BK216:=n1_;have GW216:=n2_;have GE216:=n3_;clear n0_ n1_ n2_ n3_;clear hb hbox hg) | ((with_reducible refine gate_callee (f:=15) rfl ?_);refine goesL_ (some 6) rfl rfl Try.func15 (by kernel_rfl) rfl #[.slice A0 l0.length c0] rfl (by (try simp only [List.map_toArray,List.map_cons,List.map_nil]);first | done | rfl | (simp only [List.length_drop,List.length_take];rfl)) ?_;(with_reducible refine (spec_GoodSteps.calls k _ _ l0 false _ ?side1 ?side2 A2.out).mono ?_);(case side1 => repeat (first | exact (Kd.C_below HR0.out HB.out) | (with_reducible refine Kd.C_alloc ?_ _) | (with_reducible refine Kd.C_drewN ?_ _) | (with_reducible refine Kd.C_drew ?_)));(case side2 => exact HC0.out);rintro e w20 ⟨rfl,hb⟩;refine ⟨_,rfl,?_⟩;have n0_:=Aside0.mk (blk_below (g:=gb216) (o:=.cells #[.slice none 0 0,.slice none 0 0,.int .i64 0,.int .i64 0] 79 (0,0)) (by (with_reducible repeat (first | refine blk_drewN ?_ _ | refine blk_drew ?_ | refine blk_alloc ?_ _));exact BK216.out) hb);have n1_:=Aside0.mk (below_step (by repeat (first | (with_reducible first | exact HB.out | apply below_alloc | apply pw_below_drewN | apply below_drew1 | refine below_set ?_ GE216.out) | exact HB.out)) hb);clear BK216;clear HB;have BK216:=n0_;have HB:=n1_;clear n0_ n1_;(try clear hb);(try clear hb2);(try clear hk);(try clear hi);have hcz21_0 : w20.cell? ⟨gb216,0,none⟩ = some (.slice none 0 0):=(blk_cell BK216.out 0).trans rfl;have hcz21_1 : w20.cell? ⟨gb216,1,none⟩ = some (.slice none 0 0):=(blk_cell BK216.out 1).trans rfl;have hcz21_2 : w20.cell? ⟨gb216,2,none⟩ = some (.int .i64 0):=(blk_cell BK216.out 2).trans rfl;have hcz21_3 : w20.cell? ⟨gb216,3,none⟩ = some (.int .i64 0):=(blk_cell BK216.out 3).trans rfl;have hfz21_0:=blk_frozen BK216.out 0;have hfz21_1:=blk_frozen BK216.out 1;have hfz21_2:=blk_frozen BK216.out 2;have hfz21_3:=blk_frozen BK216.out 3))
  refine bodyPost_ret (results_ct rfl _ _ gb216 79 #[.slice none 0 0,.slice none 0 0,.int .i64 0,.int .i64 0] (0,0) _ rfl (by (with_reducible repeat (first | refine blk_drewN ?_ _ | refine blk_drew ?_ | refine blk_alloc ?_ _));refine blk_put (cs:=#[.slice none 0 0,.slice none 0 0,.int .i64 0,.int .i64 0]) ?_ 3 _ rfl;(with_reducible repeat (first | refine blk_drewN ?_ _ | refine blk_drew ?_ | refine blk_alloc ?_ _));refine blk_put (cs:=#[.slice none 0 0,.slice none 0 0,.int .i64 0,.int .i64 0]) ?_ 2 _ rfl;(with_reducible repeat (first | refine blk_drewN ?_ _ | refine blk_drew ?_ | refine blk_alloc ?_ _));refine blk_put (cs:=#[.slice none 0 0,.slice none 0 0,.int .i64 0,.int .i64 0]) ?_ 1 _ rfl;(with_reducible repeat (first | refine blk_drewN ?_ _ | refine blk_drew ?_ | refine blk_alloc ?_ _));refine blk_put (cs:=#[.slice none 0 0,.slice none 0 0,.int .i64 0,.int .i64 0]) ?_ 0 _ rfl;(with_reducible repeat (first | refine blk_drewN ?_ _ | refine blk_drew ?_ | refine blk_alloc ?_ _));exact BK216.out) Try.underlying79 rfl (by kernel_rfl)) rfl ?_
  exact ⟨_,_,by first | rfl | (simp [errW_none,errW_some] <;> rfl) | (simp [*,errW_none,errW_some] <;> rfl),by first | exact Kd.R_nil _ _ _ _ _ | exact Kd.N_nil _ _ _ _ _ | exact Kd.V_nil _ _ _ _ _ | exact Kd.Q_nil _ _ _ _ _ | exact Kd.S_nil _ _ _ _ _,by first | exact Kd.R_nil _ _ _ _ _ | exact Kd.N_nil _ _ _ _ _ | exact Kd.V_nil _ _ _ _ _ | exact Kd.Q_nil _ _ _ _ _ | exact Kd.S_nil _ _ _ _ _,by repeat (first | (with_reducible first | exact HB.out | apply below_alloc | apply pw_below_drewN | apply below_drew1 | refine below_set ?_ GE216.out) | exact HB.out)⟩

end Go.Proofs.Ytmljikgegclolaa.Q
