-- WRITTEN BY A PROGRAM OF THIS SESSION
import Derived.Test.YtbmnoenbhlfjaaaQ0
import Derived.Test.YtbmnoenbhlfjaaaQ1
import Derived.Test.YtbmnoenbhlfjaaaQ6
import Derived.Test.YtbmnoenbhlfjaaaQ13
import Derived.Test.YtbmnoenbhlfjaaaQ15
namespace Go.Proofs.Ytbmnoenbhlfjaaa.Q
open Go.RowKit Go.Proofs.YtbmnoenbhlfjaaaW.PrintWords Go.Proofs.YtbmnoenbhlfjaaaW.PrintLast Go.Proofs.YtbmnoenbhlfjaaaW.PrintMore
attribute [local go_sem] max2_int min2_int max_two min_two max_three min_three max_four min_four   -- for this text's walks alone
set_option linter.unusedVariables false
set_option linter.unusedSimpArgs false

/-! ### laws_FnExactInnermostAt: function 4 -/
def laws_FnExactInnermostAt.j0 : Nat → Bool → List (List Int) → List (List Int) → Option (Bool)
 | 0,_,_,_ => none
 | k + 1,x38,x327000,x337000 => if x38 = true then (some false) else ((laws_toGraph.f k x327000).bind fun t339 => ((laws_eqGraph.f k x337000 t339).bind fun t342 => (if t342 = true then (some true) else (some false))))
def laws_FnExactInnermostAt.f (k : Nat) (l0_0 : List (List Int)) (a1 : Int) : Option (Bool):=(laws_szGraph.f k l0_0 1048576).bind fun t327 => (if t327 < 0 then (some true) else ((laws_toGraph.f k l0_0).bind fun t328 => ((spec_InnermostAt.f k t328 a1).bind fun bt331 => ((laws_toGraph.f k l0_0).bind fun t333 => ((impl_InnermostAt.f k t333 a1).bind fun bt337 => (if bt337.1 = bt331.1 then (laws_FnExactInnermostAt.j0 k (bt337.2 != bt331.2) l0_0 t333) else (laws_FnExactInnermostAt.j0 k true l0_0 t333)))))))
theorem laws_FnExactInnermostAt.mono_l : ∀ k,(∀ y0 y1 y2,LeO (laws_FnExactInnermostAt.j0 k y0 y1 y2) (laws_FnExactInnermostAt.j0 (k + 1) y0 y1 y2))
 | 0 => fun _ _ _ r h => by simp [laws_FnExactInnermostAt.j0] at h
 | k + 1 => by
  have ih0:=laws_FnExactInnermostAt.mono_l k
  ·intro y0 y1 y2
   unfold laws_FnExactInnermostAt.j0
   repeat' first
   | (with_reducible exact ih0 _ _ _)
   | (with_reducible exact impl_InnermostAt.mono _ _ _)
   | (with_reducible exact laws_eqGraph.mono _ _ _)
   | (with_reducible exact laws_szGraph.mono _ _ _)
   | (with_reducible exact laws_toGraph.mono _ _)
   | (with_reducible exact spec_InnermostAt.mono _ _ _)
   | (with_reducible exact LeO.refl _)
   | (with_reducible exact LeO.none _)
   | (with_reducible refine LeO.ite ?_ ?_)
   | (with_reducible refine LeO.bind ?_ (fun _ => ?_))
   | exact ih0 _ _ _
   | exact impl_InnermostAt.mono _ _ _
   | exact laws_eqGraph.mono _ _ _
   | exact laws_szGraph.mono _ _ _
   | exact laws_toGraph.mono _ _
   | exact spec_InnermostAt.mono _ _ _
   | exact LeO.none _
   | refine LeO.ite ?_ ?_
   | refine LeO.bind ?_ (fun _ => ?_)
theorem laws_FnExactInnermostAt.mono : ∀ a0 a1 k,LeO (laws_FnExactInnermostAt.f k a0 a1) (laws_FnExactInnermostAt.f (k + 1) a0 a1):=by
 intro a0 a1 k
 have ih0:=laws_FnExactInnermostAt.mono_l k
 unfold laws_FnExactInnermostAt.f
 repeat' first
   | (with_reducible exact ih0 _ _ _)
   | (with_reducible exact impl_InnermostAt.mono _ _ _)
   | (with_reducible exact laws_eqGraph.mono _ _ _)
   | (with_reducible exact laws_szGraph.mono _ _ _)
   | (with_reducible exact laws_toGraph.mono _ _)
   | (with_reducible exact spec_InnermostAt.mono _ _ _)
   | (with_reducible exact LeO.refl _)
   | (with_reducible exact LeO.none _)
   | (with_reducible refine LeO.ite ?_ ?_)
   | (with_reducible refine LeO.bind ?_ (fun _ => ?_))
   | exact ih0 _ _ _
   | exact impl_InnermostAt.mono _ _ _
   | exact laws_eqGraph.mono _ _ _
   | exact laws_szGraph.mono _ _ _
   | exact laws_toGraph.mono _ _
   | exact spec_InnermostAt.mono _ _ _
   | exact LeO.none _
   | refine LeO.ite ?_ ?_
   | refine LeO.bind ?_ (fun _ => ?_)
set_option maxHeartbeats 8000000 in
set_option maxRecDepth 100000 in
theorem laws_FnExactInnermostAt.calls (k : Nat) (A0_0 : Option Addr) (c0_0 : Nat) (l0_0 : List (List Int)) (a1 : Int) (r : Bool) (w : World) (hr0_0 : Kd.C (Kd.slice 3 (Kd.int .i64)) w A0_0 l0_0.length l0_0) (hc0_0 : l0_0.length ≤ c0_0) (h : laws_FnExactInnermostAt.f k l0_0 a1 = some r) :
  Calls Try.prog 4 #[.agg #[.slice A0_0 l0_0.length c0_0],.int .i64 a1] w fun e w' => e = .returned (.bool r) ∧ Below w.heap.size w w':=by
 have hu24:=Try.underlying24
 have hu28:=Try.underlying28
 have HR0_0:=Aside0.mk hr0_0
 have HC0_0:=Aside0.mk hc0_0
 clear hr0_0 hc0_0
 have HB:=Aside0.mk (Below.refl w.heap.size w)
 have H : ((laws_szGraph.f k l0_0 1048576).bind fun t327 => (if t327 < 0 then (some true) else ((laws_toGraph.f k l0_0).bind fun t328 => ((spec_InnermostAt.f k t328 a1).bind fun bt331 => ((laws_toGraph.f k l0_0).bind fun t333 => ((impl_InnermostAt.f k t333 a1).bind fun bt337 => (if bt337.1 = bt331.1 then (laws_FnExactInnermostAt.j0 k (bt337.2 != bt331.2) l0_0 t333) else (laws_FnExactInnermostAt.j0 k true l0_0 t333)))))))) = some r:=h
 clear h
 replace H:=Option.bind_eq_some_iff.mp H
 obtain ⟨t327,A30,H⟩:=H
 replace H : (if t327 < 0 then (some true) else ((laws_toGraph.f k l0_0).bind fun t328 => ((spec_InnermostAt.f k t328 a1).bind fun bt331 => ((laws_toGraph.f k l0_0).bind fun t333 => ((impl_InnermostAt.f k t333 a1).bind fun bt337 => (if bt337.1 = bt331.1 then (laws_FnExactInnermostAt.j0 k (bt337.2 != bt331.2) l0_0 t333) else (laws_FnExactInnermostAt.j0 k true l0_0 t333))))))) = some r:=H
 have A3:=Aside0.mk A30
 clear A30
 by_cases c4 : t327 < 0
 ·rw [if_pos c4] at H
  have c4b0 : decide (t327 < 0) = true:=decide_eq_true c4
  clear c4
  obtain rfl:=Option.some.inj H
  go_enter Try.func4,Try.ntmps4
  go_wp2_with (first | ((with_reducible refine gate_dst (N:=2) rfl ?_);refine box_event ?hg (N:=2) ?hd (cs:=#[.slice A0_0 l0_0.length c0_0]) (t:=24) ?hr ?_;(case hd => rfl);(case hg => rfl);(case hr => first | (go_simp;done) | (go_simp;rfl));intro gb326 hg w5 hbox hb;have n0_:=Aside0.mk (below_step (by repeat (first | (with_reducible first | exact HB.out | apply below_alloc | apply pw_below_drewN | apply below_drew1) | exact HB.out)) hb);have n1_:=Aside0.mk (hbox);have n2_:=Aside0.mk ((by rw [hg];exact (below_size (by repeat (first | (with_reducible first | exact HB.out | apply below_alloc | apply pw_below_drewN | apply below_drew1) | exact HB.out))) : w.heap.size ≤ gb326));have n3_:=Aside0.mk ((by rw [hg];exact (below_size (by repeat (first | (with_reducible first | exact HB.out | apply below_alloc | apply pw_below_drewN | apply below_drew1) | exact HB.out))) : w.heap.size ≤ gb326));clear HB;have HB:=n0_;have BK326:=n1_;have GW326:=n2_;have GE326:=n3_;clear n0_ n1_ n2_ n3_;clear hb hbox hg;have hcz6_0 : w5.cell? ⟨gb326,0,none⟩ = some (.slice A0_0 l0_0.length c0_0):=(blk_cell BK326.out 0).trans rfl;have hfz6_0:=blk_frozen BK326.out 0) | ((with_reducible refine gate_callee (f:=10) rfl ?_);refine goesL_ (some 13) rfl rfl Try.func10 (by kernel_rfl) rfl #[.agg #[.slice A0_0 l0_0.length c0_0],.int .i64 1048576] rfl (by (try simp only [List.map_toArray,List.map_cons,List.map_nil]);first | done | rfl | (simp only [List.length_drop,List.length_take];rfl)) ?_;(with_reducible refine (laws_szGraph.calls k _ _ l0_0 1048576 t327 _ ?side1 ?side2 A3.out).mono ?_);(case side1 => repeat (first | exact (Kd.C_below HR0_0.out HB.out) | (with_reducible refine Kd.C_alloc ?_ _) | (with_reducible refine Kd.C_drewN ?_ _) | (with_reducible refine Kd.C_drew ?_)));(case side2 => exact HC0_0.out);rintro e w7 ⟨rfl,hb⟩;refine ⟨_,rfl,?_⟩;have n0_:=Aside0.mk (blk_below (g:=gb326) (o:=.cells #[.slice A0_0 l0_0.length c0_0] 24 (0,0)) (by (with_reducible repeat (first | refine blk_drewN ?_ _ | refine blk_drew ?_ | refine blk_alloc ?_ _));exact BK326.out) hb);have n1_:=Aside0.mk (below_step (by repeat (first | (with_reducible first | exact HB.out | apply below_alloc | apply pw_below_drewN | apply below_drew1 | refine below_set ?_ GE326.out) | exact HB.out)) hb);clear BK326;clear HB;have BK326:=n0_;have HB:=n1_;clear n0_ n1_;(try clear hb);(try clear hb2);(try clear hk);(try clear hi)))
  go_ret
  exact ⟨by first | rfl | (simp [errW_none,errW_some] <;> rfl) | (simp [*,errW_none,errW_some] <;> rfl),by repeat (first | (with_reducible first | exact HB.out | apply below_alloc | apply pw_below_drewN | apply below_drew1 | refine below_set ?_ GE326.out) | exact HB.out)⟩
 ·rw [if_neg c4] at H
  have c4b0 : decide (t327 < 0) = false:=decide_eq_false c4
  clear c4
  replace H:=Option.bind_eq_some_iff.mp H
  obtain ⟨t328,A80,H⟩:=H
  replace H : ((spec_InnermostAt.f k t328 a1).bind fun bt331 => ((laws_toGraph.f k l0_0).bind fun t333 => ((impl_InnermostAt.f k t333 a1).bind fun bt337 => (if bt337.1 = bt331.1 then (laws_FnExactInnermostAt.j0 k (bt337.2 != bt331.2) l0_0 t333) else (laws_FnExactInnermostAt.j0 k true l0_0 t333))))) = some r:=H
  have A8:=Aside0.mk A80
  clear A80
  replace H:=Option.bind_eq_some_iff.mp H
  obtain ⟨⟨t331,t332⟩,A90,H⟩:=H
  replace H : ((laws_toGraph.f k l0_0).bind fun t333 => ((impl_InnermostAt.f k t333 a1).bind fun bt337 => (if bt337.1 = t331 then (laws_FnExactInnermostAt.j0 k (bt337.2 != t332) l0_0 t333) else (laws_FnExactInnermostAt.j0 k true l0_0 t333)))) = some r:=H
  have A9:=Aside0.mk A90
  clear A90
  replace H:=Option.bind_eq_some_iff.mp H
  obtain ⟨t333,A100,H⟩:=H
  replace H : ((impl_InnermostAt.f k t333 a1).bind fun bt337 => (if bt337.1 = t331 then (laws_FnExactInnermostAt.j0 k (bt337.2 != t332) l0_0 t333) else (laws_FnExactInnermostAt.j0 k true l0_0 t333))) = some r:=H
  have A10:=Aside0.mk A100
  clear A100
  replace H:=Option.bind_eq_some_iff.mp H
  obtain ⟨⟨t337,t338⟩,A110,H⟩:=H
  replace H : (if t337 = t331 then (laws_FnExactInnermostAt.j0 k (t338 != t332) l0_0 t333) else (laws_FnExactInnermostAt.j0 k true l0_0 t333)) = some r:=H
  have A11:=Aside0.mk A110
  clear A110
  have HC12:=Aside0.mk H
  clear H
  go_enter Try.func4,Try.ntmps4
  go_upto_region 8 with (first | ((with_reducible refine gate_dst (N:=2) rfl ?_);refine box_event ?hg (N:=2) ?hd (cs:=#[.slice A0_0 l0_0.length c0_0]) (t:=24) ?hr ?_;(case hd => rfl);(case hg => rfl);(case hr => first | (go_simp;done) | (go_simp;rfl));intro gb326 hg w13 hbox hb;have n0_:=Aside0.mk (below_step (by repeat (first | (with_reducible first | exact HB.out | apply below_alloc | apply pw_below_drewN | apply below_drew1) | exact HB.out)) hb);have n1_:=Aside0.mk (hbox);have n2_:=Aside0.mk ((by rw [hg];exact (below_size (by repeat (first | (with_reducible first | exact HB.out | apply below_alloc | apply pw_below_drewN | apply below_drew1) | exact HB.out))) : w.heap.size ≤ gb326));have n3_:=Aside0.mk ((by rw [hg];exact (below_size (by repeat (first | (with_reducible first | exact HB.out | apply below_alloc | apply pw_below_drewN | apply below_drew1) | exact HB.out))) : w.heap.size ≤ gb326));clear HB;have HB:=n0_;have BK326:=n1_;have GW326:=n2_;have GE326:=n3_;clear n0_ n1_ n2_ n3_;clear hb hbox hg;have hcz14_0 : w13.cell? ⟨gb326,0,none⟩ = some (.slice A0_0 l0_0.length c0_0):=(blk_cell BK326.out 0).trans rfl;have hfz14_0:=blk_frozen BK326.out 0) | ((with_reducible refine gate_callee (f:=10) rfl ?_);refine goesL_ (some 13) rfl rfl Try.func10 (by kernel_rfl) rfl #[.agg #[.slice A0_0 l0_0.length c0_0],.int .i64 1048576] rfl (by (try simp only [List.map_toArray,List.map_cons,List.map_nil]);first | done | rfl | (simp only [List.length_drop,List.length_take];rfl)) ?_;(with_reducible refine (laws_szGraph.calls k _ _ l0_0 1048576 t327 _ ?side1 ?side2 A3.out).mono ?_);(case side1 => repeat (first | exact (Kd.C_below HR0_0.out HB.out) | (with_reducible refine Kd.C_alloc ?_ _) | (with_reducible refine Kd.C_drewN ?_ _) | (with_reducible refine Kd.C_drew ?_)));(case side2 => exact HC0_0.out);rintro e w15 ⟨rfl,hb⟩;refine ⟨_,rfl,?_⟩;have n0_:=Aside0.mk (blk_below (g:=gb326) (o:=.cells #[.slice A0_0 l0_0.length c0_0] 24 (0,0)) (by (with_reducible repeat (first | refine blk_drewN ?_ _ | refine blk_drew ?_ | refine blk_alloc ?_ _));exact BK326.out) hb);have n1_:=Aside0.mk (below_step (by repeat (first | (with_reducible first | exact HB.out | apply below_alloc | apply pw_below_drewN | apply below_drew1 | refine below_set ?_ GE326.out) | exact HB.out)) hb);clear BK326;clear HB;have BK326:=n0_;have HB:=n1_;clear n0_ n1_;(try clear hb);(try clear hb2);(try clear hk);(try clear hi);have hcz16_0 : w15.cell? ⟨gb326,0,none⟩ = some (.slice A0_0 l0_0.length c0_0):=(blk_cell BK326.out 0).trans rfl;have hfz16_0:=blk_frozen BK326.out 0) | ((with_reducible refine gate_callee (f:=12) rfl ?_);refine goesL_ (some 18) rfl rfl Try.func12 (by kernel_rfl) rfl #[.agg #[.slice A0_0 l0_0.length c0_0]] rfl (by (try simp only [List.map_toArray,List.map_cons,List.map_nil]);first | done | rfl | (simp only [List.length_drop,List.length_take];rfl)) ?_;(with_reducible refine (laws_toGraph.calls k _ _ l0_0 t328 _ ?side1 ?side2 A8.out).mono ?_);(case side1 => repeat (first | exact (Kd.C_below HR0_0.out HB.out) | (with_reducible refine Kd.C_alloc ?_ _) | (with_reducible refine Kd.C_drewN ?_ _) | (with_reducible refine Kd.C_drew ?_)));(case side2 => exact HC0_0.out);rintro e w17 ⟨v329,rfl,ho0,hb⟩;refine ⟨_,rfl,?_⟩;have n0_:=Aside0.mk (Kd.S_lower ho0 (below_size (by repeat (first | (with_reducible first | exact HB.out | apply below_alloc | apply pw_below_drewN | apply below_drew1 | refine below_set ?_ GE326.out) | exact HB.out))));have n1_:=Aside0.mk (blk_below (g:=gb326) (o:=.cells #[.slice A0_0 l0_0.length c0_0] 24 (0,0)) (by (with_reducible repeat (first | refine blk_drewN ?_ _ | refine blk_drew ?_ | refine blk_alloc ?_ _));exact BK326.out) hb);have n2_:=Aside0.mk (below_step (by repeat (first | (with_reducible first | exact HB.out | apply below_alloc | apply pw_below_drewN | apply below_drew1 | refine below_set ?_ GE326.out) | exact HB.out)) hb);clear BK326;clear HB;have HO330:=n0_;have BK326:=n1_;have HB:=n2_;clear n0_ n1_ n2_;(try clear hb);(try clear hb2);(try clear hk);(try clear hi);(try clear ho0);obtain ⟨Ao18,co18,eo18⟩:=Kd.S_slice HO330.out;subst eo18) | ((with_reducible refine gate_callee (f:=15) rfl ?_);refine goesL_ (some 20) rfl rfl Try.func15 (by kernel_rfl) rfl #[.agg #[.slice Ao18 t328.length co18],.int .i64 a1] rfl (by (try simp only [List.map_toArray,List.map_cons,List.map_nil]);first | done | rfl | (simp only [List.length_drop,List.length_take];rfl)) ?_;(with_reducible refine (spec_InnermostAt.calls k _ _ t328 a1 t331 t332 _ ?side1 ?side2 A9.out).mono ?_);(case side1 => repeat (first | exact (Kd.S_reads' HO330.out).2.2 | (with_reducible refine Kd.C_alloc ?_ _) | (with_reducible refine Kd.C_drewN ?_ _) | (with_reducible refine Kd.C_drew ?_)));(case side2 => exact (Kd.S_reads' HO330.out).2.1);rintro e w19 ⟨rfl,hb⟩;refine ⟨_,rfl,?_⟩;have n0_:=Aside0.mk (Kd.S_below (by (with_reducible repeat (first | apply Kd.S_alloc | apply Kd.S_drewN | apply Kd.S_drew));exact HO330.out) hb);have n1_:=Aside0.mk (blk_below (g:=gb326) (o:=.cells #[.slice A0_0 l0_0.length c0_0] 24 (0,0)) (by (with_reducible repeat (first | refine blk_drewN ?_ _ | refine blk_drew ?_ | refine blk_alloc ?_ _));exact BK326.out) hb);have n2_:=Aside0.mk (below_step (by repeat (first | (with_reducible first | exact HB.out | apply below_alloc | apply pw_below_drewN | apply below_drew1 | refine below_set ?_ GE326.out) | exact HB.out)) hb);clear HO330;clear BK326;clear HB;have HO330:=n0_;have BK326:=n1_;have HB:=n2_;clear n0_ n1_ n2_;(try clear hb);(try clear hb2);(try clear hk);(try clear hi);have hcz20_0 : w19.cell? ⟨gb326,0,none⟩ = some (.slice A0_0 l0_0.length c0_0):=(blk_cell BK326.out 0).trans rfl;have hfz20_0:=blk_frozen BK326.out 0) | ((with_reducible refine gate_callee (f:=12) rfl ?_);refine goesL_ (some 24) rfl rfl Try.func12 (by kernel_rfl) rfl #[.agg #[.slice A0_0 l0_0.length c0_0]] rfl (by (try simp only [List.map_toArray,List.map_cons,List.map_nil]);first | done | rfl | (simp only [List.length_drop,List.length_take];rfl)) ?_;(with_reducible refine (laws_toGraph.calls k _ _ l0_0 t333 _ ?side1 ?side2 A10.out).mono ?_);(case side1 => repeat (first | exact (Kd.C_below HR0_0.out HB.out) | (with_reducible refine Kd.C_alloc ?_ _) | (with_reducible refine Kd.C_drewN ?_ _) | (with_reducible refine Kd.C_drew ?_)));(case side2 => exact HC0_0.out);rintro e w21 ⟨v334,rfl,ho0,hb⟩;refine ⟨_,rfl,?_⟩;have n0_:=Aside0.mk (Kd.S_elder' (by (with_reducible repeat (first | apply Kd.S_alloc | apply Kd.S_drewN | apply Kd.S_drew));exact HO330.out) (Kd.S_base ho0) hb);have n1_:=Aside0.mk (Kd.S_lower (Kd.S_new' ho0 (Kd.S_lt (by (with_reducible repeat (first | apply Kd.S_alloc | apply Kd.S_drewN | apply Kd.S_drew));exact HO330.out))) (below_size (by repeat (first | (with_reducible first | exact HB.out | apply below_alloc | apply pw_below_drewN | apply below_drew1 | refine below_set ?_ GE326.out) | exact HB.out))));have n2_:=Aside0.mk (blk_below (g:=gb326) (o:=.cells #[.slice A0_0 l0_0.length c0_0] 24 (0,0)) (by (with_reducible repeat (first | refine blk_drewN ?_ _ | refine blk_drew ?_ | refine blk_alloc ?_ _));exact BK326.out) hb);have n3_:=Aside0.mk (below_step (by repeat (first | (with_reducible first | exact HB.out | apply below_alloc | apply pw_below_drewN | apply below_drew1 | refine below_set ?_ GE326.out) | exact HB.out)) hb);clear HO330;clear BK326;clear HB;have HO330:=n0_;have HO335:=n1_;have BK326:=n2_;have HB:=n3_;clear n0_ n1_ n2_ n3_;(try clear hb);(try clear hb2);(try clear hk);(try clear hi);(try clear ho0)) | ((with_reducible refine gate_dst (N:=8) rfl ?_);refine box_event ?hg (N:=8) ?hd (cs:=#[.slice none 0 0]) (t:=28) ?hr ?_;(case hd => rfl);(case hg => rfl);(case hr => first | (go_simp;done) | (go_simp;rfl));intro gb336 hg w22 hbox hb;have n0_:=Aside0.mk (Kd.S_below (by (with_reducible repeat (first | apply Kd.S_alloc | apply Kd.S_drewN | apply Kd.S_drew));exact HO330.out) hb);have n1_:=Aside0.mk (Kd.S_below (by (with_reducible repeat (first | apply Kd.S_alloc | apply Kd.S_drewN | apply Kd.S_drew));exact HO335.out) hb);have n2_:=Aside0.mk (blk_below (g:=gb326) (o:=.cells #[.slice A0_0 l0_0.length c0_0] 24 (0,0)) (by (with_reducible repeat (first | refine blk_drewN ?_ _ | refine blk_drew ?_ | refine blk_alloc ?_ _));exact BK326.out) hb);have n3_:=Aside0.mk (below_step (by repeat (first | (with_reducible first | exact HB.out | apply below_alloc | apply pw_below_drewN | apply below_drew1 | refine below_set ?_ GE326.out) | exact HB.out)) hb);have n4_:=Aside0.mk (hbox);have n5_:=Aside0.mk ((by rw [hg];exact (below_size (by repeat (first | (with_reducible first | exact HB.out | apply below_alloc | apply pw_below_drewN | apply below_drew1 | refine below_set ?_ GE326.out) | exact HB.out))) : w.heap.size ≤ gb336));have n6_:=Aside0.mk ((by rw [hg];exact (below_size (by repeat (first | (with_reducible first | exact HB.out | apply below_alloc | apply pw_below_drewN | apply below_drew1 | refine below_set ?_ GE326.out) | exact HB.out))) : w.heap.size ≤ gb336));have n7_:=Aside0.mk ((by rw [hg];exact Nat.ne_of_lt (blk_lt (g:=gb326) (o:=.cells #[.slice A0_0 l0_0.length c0_0] 24 (0,0)) (by (with_reducible repeat (first | refine blk_drewN ?_ _ | refine blk_drew ?_ | refine blk_alloc ?_ _));exact BK326.out)) : gb326 ≠ gb336));have n8_:=Aside0.mk ((by rw [hg];exact Nat.ne_of_gt (blk_lt (g:=gb326) (o:=.cells #[.slice A0_0 l0_0.length c0_0] 24 (0,0)) (by (with_reducible repeat (first | refine blk_drewN ?_ _ | refine blk_drew ?_ | refine blk_alloc ?_ _));exact BK326.out)) : gb336 ≠ gb326));clear HO330;clear HO335;clear BK326;clear HB;have HO330:=n0_;have HO335:=n1_;have BK326:=n2_;have HB:=n3_;have BK336:=n4_;have GW336:=n5_;have GE336:=n6_;have NB326_336:=n7_;have NB336_326:=n8_;clear n0_ n1_ n2_ n3_ n4_ n5_ n6_ n7_ n8_;clear hb hbox hg;obtain ⟨Ao23,co23,eo23⟩:=Kd.S_slice HO335.out;subst eo23;have hnb24:=NB336_326.out;have hnc24:=NB326_336.out;have hcz25_0 : w22.cell? ⟨gb336,0,none⟩ = some (.slice none 0 0):=(blk_cell BK336.out 0).trans rfl;have hfz25_0:=blk_frozen BK336.out 0) | ((with_reducible refine gate_callee (f:=16) rfl ?_);refine goesL_ (some 28) rfl rfl Try.func16 (by kernel_rfl) rfl #[.agg #[.slice Ao23 t333.length co23],.int .i64 a1] rfl (by (try simp only [List.map_toArray,List.map_cons,List.map_nil]);first | done | rfl | (simp only [List.length_drop,List.length_take];rfl)) ?_;(with_reducible refine (impl_InnermostAt.calls k _ _ t333 a1 t337 t338 _ ?side1 ?side2 A11.out).mono ?_);(case side1 => refine (Kd.S_reads' (e:=43) (base:=w.heap.size) (ok:=fun k_ => (True ∧ some k_ ≠ (.slice Ao18 t328.length co18 : Value).ownBlock)) (n:=t333.length) (c:=co23) ?_).2.2;exact (by (with_reducible repeat (first | apply Kd.S_alloc | apply Kd.S_drewN | apply Kd.S_drew));exact (Kd.S_mono (Kd.S_far (p:=⟨gb336,0,none⟩) (Kd.S_types HO335.out BK336.out (by decide)) (fun _ hk => hk.2) (.slice Ao23 t333.length co23)) (fun _ h_ => h_.1))));(case side2 => exact (Kd.S_reads' HO335.out).2.1);rintro e w26 ⟨rfl,hb⟩;refine ⟨_,rfl,?_⟩;have n0_:=Aside0.mk (Kd.S_below (by (with_reducible repeat (first | apply Kd.S_alloc | apply Kd.S_drewN | apply Kd.S_drew));exact (Kd.S_mono (Kd.S_far (p:=⟨gb336,0,none⟩) (Kd.S_types HO330.out BK336.out (by decide)) (fun _ hk => hk.2) (.slice Ao23 t333.length co23)) (fun _ h_ => h_.1))) hb);have n1_:=Aside0.mk (Kd.S_below (by (with_reducible repeat (first | apply Kd.S_alloc | apply Kd.S_drewN | apply Kd.S_drew));exact (Kd.S_mono (Kd.S_far (p:=⟨gb336,0,none⟩) (Kd.S_types HO335.out BK336.out (by decide)) (fun _ hk => hk.2) (.slice Ao23 t333.length co23)) (fun _ h_ => h_.1))) hb);have n2_:=Aside0.mk (blk_below (g:=gb326) (o:=.cells #[.slice A0_0 l0_0.length c0_0] 24 (0,0)) (by (with_reducible repeat (first | refine blk_drewN ?_ _ | refine blk_drew ?_ | refine blk_alloc ?_ _));refine blk_far ?_ NB326_336.out _;(with_reducible repeat (first | refine blk_drewN ?_ _ | refine blk_drew ?_ | refine blk_alloc ?_ _));exact BK326.out) hb);have n3_:=Aside0.mk (blk_below (g:=gb336) (o:=.cells #[.slice Ao23 t333.length co23] 28 (0,0)) (by (with_reducible repeat (first | refine blk_drewN ?_ _ | refine blk_drew ?_ | refine blk_alloc ?_ _));refine blk_put (cs:=#[.slice none 0 0]) ?_ 0 _ rfl;(with_reducible repeat (first | refine blk_drewN ?_ _ | refine blk_drew ?_ | refine blk_alloc ?_ _));exact BK336.out) hb);have n4_:=Aside0.mk (below_step (by repeat (first | (with_reducible first | exact HB.out | apply below_alloc | apply pw_below_drewN | apply below_drew1 | refine below_set ?_ GE326.out | refine below_set ?_ GE336.out) | exact HB.out)) hb);clear HO330;clear HO335;clear BK326;clear BK336;clear HB;have HO330:=n0_;have HO335:=n1_;have BK326:=n2_;have BK336:=n3_;have HB:=n4_;clear n0_ n1_ n2_ n3_ n4_;(try clear hb);(try clear hb2);(try clear hk);(try clear hi)))
  (try simp only [Act.put,List.setIfInBounds_toArray,List.set_cons_zero,List.set_cons_succ])
  go_cut [38] (fun v38 wc => ∃ (kq : Nat) (x38_11 : Bool),v38 = .bool x38_11 ∧ Aside0 (laws_FnExactInnermostAt.j0 kq x38_11 l0_0 t333 = some r) ∧ Aside0 (kq ≤ k) ∧ Aside0 (Kd.S (Kd.slice 3 (Kd.int .i64)) 43 wc w.heap.size (fun _ => True) (.slice Ao23 t333.length co23) t333) ∧ Aside0 (wc.heap[gb326]? = some (.cells #[(.slice A0_0 l0_0.length c0_0)] 24 (0,0))) ∧ Aside0 (wc.heap[gb336]? = some (.cells #[(.slice Ao23 t333.length co23)] 28 (0,0))) ∧ Aside0 (Below w.heap.size w wc))
  case first =>
   have H:=HC12.out
   clear HC12
   by_cases c27 : t337 = t331
   ·rw [if_pos c27] at H
    have c27b0 : (t337 == t331) = true:=beq_iff_eq.mpr c27
    have c27b1 : (t337 != t331) = false:=bne_eq_false_iff_eq.mpr c27
    clear c27
    (first | rw [c27b0] | (simp only [i64_w,i32_w];rw [c27b0]) | skip)
    have H':=Aside0.mk H
    clear H
    go_wp2
    go_meet
    case rel => exact ⟨_,((t338 != t332)),(by first | rfl | (simp;done) | (simp [*];done)),H',⟨by first | omega | exact Nat.le_refl _⟩,⟨by (with_reducible repeat (first | apply Kd.S_alloc | apply Kd.S_drewN | apply Kd.S_drew));exact Kd.S_mono HO335.out (fun _ hk => trivial)⟩,⟨by (with_reducible repeat (first | refine blk_drewN ?_ _ | refine blk_drew ?_ | refine blk_alloc ?_ _));exact BK326.out⟩,⟨by (with_reducible repeat (first | refine blk_drewN ?_ _ | refine blk_drew ?_ | refine blk_alloc ?_ _));exact BK336.out⟩,⟨by repeat (first | (with_reducible first | exact HB.out | apply below_alloc | apply pw_below_drewN | apply below_drew1 | refine below_set ?_ GE326.out | refine below_set ?_ GE336.out) | exact HB.out)⟩⟩
   ·rw [if_neg c27] at H
    have c27b0 : (t337 == t331) = false:=beq_eq_false_iff_ne.mpr c27
    have c27b1 : (t337 != t331) = true:=bne_iff_ne.mpr c27
    (first | rw [c27b0] | (simp only [i64_w,i32_w];rw [c27b0]) | skip)
    have H':=Aside0.mk H
    clear H
    go_wp2
    go_meet
    case rel => exact ⟨_,(true),(by first | rfl | (simp;done) | (simp [*];done)),H',⟨by first | omega | exact Nat.le_refl _⟩,⟨by (with_reducible repeat (first | apply Kd.S_alloc | apply Kd.S_drewN | apply Kd.S_drew));exact Kd.S_mono HO335.out (fun _ hk => trivial)⟩,⟨by (with_reducible repeat (first | refine blk_drewN ?_ _ | refine blk_drew ?_ | refine blk_alloc ?_ _));exact BK326.out⟩,⟨by (with_reducible repeat (first | refine blk_drewN ?_ _ | refine blk_drew ?_ | refine blk_alloc ?_ _));exact BK336.out⟩,⟨by repeat (first | (with_reducible first | exact HB.out | apply below_alloc | apply pw_below_drewN | apply below_drew1 | refine below_set ?_ GE326.out | refine below_set ?_ GE336.out) | exact HB.out)⟩⟩
  case rest =>
   clear HC12
   try clear c1
   try clear c2
   try clear p2
   try clear c4
   try clear c4b0
   try clear c10
   try clear c12
   try clear c15
   try clear c16
   try clear c24
   try clear c27
   try clear c27b0
   try clear c27b1
   try clear hcz14_0
   try clear hcz16_0
   try clear hcz20_0
   try clear hcz25_0
   try clear hcz6_0
   try clear hfz14_0
   try clear hfz16_0
   try clear hfz20_0
   try clear hfz25_0
   try clear hfz6_0
   obtain ⟨kq,x38_11,rfl,HA,HJ11,HO_337000,BK326,BK336,HB⟩:=hcut
   cases kq with
   | zero => exact absurd HA.out (by simp [laws_FnExactInnermostAt.j0])
   | succ kj11 =>
    have H:=HA.out
    clear HA
    simp only [laws_FnExactInnermostAt.j0] at H
    by_cases c28 : x38_11 = true
    ·subst c28
     have H1 : (some false) = some r:=by rw [if_pos rfl] at H;exact H
     clear H
     have H:=H1
     clear H1
     obtain rfl:=Option.some.inj H
     go_wp2
     go_ret
     exact ⟨by first | rfl | (simp [errW_none,errW_some] <;> rfl) | (simp [*,errW_none,errW_some] <;> rfl),by repeat (first | (with_reducible first | exact HB.out | apply below_alloc | apply pw_below_drewN | apply below_drew1 | refine below_set ?_ GE326.out | refine below_set ?_ GE336.out) | exact HB.out)⟩
    ·replace c28:=Bool.eq_false_iff.mpr c28
     subst c28
     have H1 : ((laws_toGraph.f kj11 l0_0).bind fun t339 => ((laws_eqGraph.f kj11 t333 t339).bind fun t342 => (if t342 = true then (some true) else (some false)))) = some r:=by rw [if_neg (show ¬ (false = true) by decide)] at H;exact H
     clear H
     have H:=H1
     clear H1
     replace H:=Option.bind_eq_some_iff.mp H
     obtain ⟨t339,A290,H⟩:=H
     replace H : ((laws_eqGraph.f kj11 t333 t339).bind fun t342 => (if t342 = true then (some true) else (some false))) = some r:=H
     have A29:=Aside0.mk A290
     clear A290
     replace H:=Option.bind_eq_some_iff.mp H
     obtain ⟨t342,A300,H⟩:=H
     replace H : (if t342 = true then (some true) else (some false)) = some r:=H
     have A30:=Aside0.mk A300
     clear A300
     by_cases c31 : t342 = true
     ·subst c31
      have H1 : (some true) = some r:=by rw [if_pos rfl] at H;exact H
      clear H
      have H:=H1
      clear H1
      obtain rfl:=Option.some.inj H
      try go_wp2
      have n0_:=Aside0.mk (Kd.S_drew HO_337000.out)
      have n1_:=Aside0.mk (blk_drew BK326.out)
      have n2_:=Aside0.mk (blk_drew BK336.out)
      have n3_:=Aside0.mk (below_drew1 HB.out)
      clear HO_337000
      clear BK326
      clear BK336
      clear HB
      have HO_337000:=n0_
      have BK326:=n1_
      have BK336:=n2_
      have HB:=n3_
      clear n0_ n1_ n2_ n3_
      refine start_ (n:=5) (S:=fun w' => w'.cell? ⟨gb336,0,none⟩ = some (.slice Ao23 t333.length co23) ∧ w'.cell? ⟨gb326,0,none⟩ = some (.slice A0_0 l0_0.length c0_0)) (ds:=[]) #[false,false,false,false,false] (by kernel_rfl) rfl rfl ⟨(blk_cell BK336.out 0).trans rfl,(blk_cell BK326.out 0).trans rfl⟩ (fun hHeld => ?_)
      generalize wc.drew = w32 at HO_337000 BK326 BK336 HB hHeld ⊢
      refine take_ (i:=0) (N:=some 39) (v:=?_) (a':=?_) #[true,false,false,false,false] rfl rfl (by kernel_rfl) (fun _ _ _ h => h) (Or.inl ⟨by rfl,?_⟩) hHeld ?_ ?_
      rotate_left
      ·rintro w' ⟨s0,s1⟩
       go_simp
       with_reducible rfl
      rotate_left
      ·simp only [Act.put,List.setIfInBounds_toArray,List.set_cons_zero,List.set_cons_succ,i64_w,i32_w]
       rfl
      refine take_ (i:=1) (N:=some 40) (v:=?_) (a':=?_) #[true,true,false,false,false] rfl rfl (by kernel_rfl) (fun _ _ _ h => h) (Or.inl ⟨by rfl,?_⟩) hHeld ?_ ?_
      rotate_left
      ·rintro w' ⟨s0,s1⟩
       go_simp
       with_reducible rfl
      rotate_left
      ·simp only [Act.put,List.setIfInBounds_toArray,List.set_cons_zero,List.set_cons_succ,i64_w,i32_w]
       rfl
      refine one_ (i:=2) (N:=some 41) #[true,true,true,false,false] rfl rfl (by kernel_rfl) (by decide) (fun K hK => ?_)
      refine goes_ Try.func12 (by kernel_rfl) rfl #[.agg #[.slice A0_0 l0_0.length c0_0]] (by rfl) rfl rfl (by (try simp only [List.map_toArray,List.map_cons,List.map_nil]);first | done | rfl | (simp only [List.length_drop,List.length_take];rfl)) ?_
      with_reducible refine (laws_toGraph.calls kj11 _ _ l0_0 t339 _ ?side1 ?side2 A29.out).mono ?_
      (case side1 => repeat (first | exact (Kd.C_below HR0_0.out HB.out) | (with_reducible refine Kd.C_alloc ?_ _) | (with_reducible refine Kd.C_drewN ?_ _) | (with_reducible refine Kd.C_drew ?_)))
      (case side2 => exact HC0_0.out)
      rintro e w33 ⟨v340,rfl,ho0,hb⟩
      refine ⟨_,rfl,?_⟩
      have n0_:=Aside0.mk (Kd.S_elder' (by (with_reducible repeat (first | apply Kd.S_alloc | apply Kd.S_drewN | apply Kd.S_drew));exact HO_337000.out) (Kd.S_base ho0) hb)
      have n1_:=Aside0.mk (Kd.S_lower (Kd.S_new' ho0 (Kd.S_lt (by (with_reducible repeat (first | apply Kd.S_alloc | apply Kd.S_drewN | apply Kd.S_drew));exact HO_337000.out))) (below_size (by repeat (first | (with_reducible first | exact HB.out | apply below_alloc | apply pw_below_drewN | apply below_drew1 | refine below_set ?_ GE326.out | refine below_set ?_ GE336.out) | exact HB.out))))
      have n2_:=Aside0.mk (blk_below (g:=gb326) (o:=.cells #[.slice A0_0 l0_0.length c0_0] 24 (0,0)) (by (with_reducible repeat (first | refine blk_drewN ?_ _ | refine blk_drew ?_ | refine blk_alloc ?_ _));exact BK326.out) hb)
      have n3_:=Aside0.mk (blk_below (g:=gb336) (o:=.cells #[.slice Ao23 t333.length co23] 28 (0,0)) (by (with_reducible repeat (first | refine blk_drewN ?_ _ | refine blk_drew ?_ | refine blk_alloc ?_ _));exact BK336.out) hb)
      have n4_:=Aside0.mk (below_step (by repeat (first | (with_reducible first | exact HB.out | apply below_alloc | apply pw_below_drewN | apply below_drew1 | refine below_set ?_ GE326.out | refine below_set ?_ GE336.out) | exact HB.out)) hb)
      clear HO_337000
      clear BK326
      clear BK336
      clear HB
      have HO_337000:=n0_
      have HO341:=n1_
      have BK326:=n2_
      have BK336:=n3_
      have HB:=n4_
      clear n0_ n1_ n2_ n3_ n4_
      (try clear hb)
      (try clear hb2)
      (try clear hk)
      (try clear hi)
      (try clear ho0)
      obtain ⟨Ao34,co34,eo34⟩:=Kd.S_slice HO341.out
      (first | subst eo34 | (injection eo34 with f1_ f2_ f3_;have f4_:=f1_.symm;have f5_:=f3_.symm;clear f1_ f2_ f3_;subst f4_;subst f5_))
      refine hK.out _ _ ⟨(blk_cell BK336.out 0).trans rfl,(blk_cell BK326.out 0).trans rfl⟩ (fun hHeld => ?_)
      clear hK K
      refine norm_ (a':=?_) ?_ ?_
      rotate_left
      ·show Act.put _ (some 41) _ = _
       simp only [Act.put,List.setIfInBounds_toArray,List.set_cons_zero,List.set_cons_succ,i64_w,i32_w]
       rfl
      refine one_ (i:=3) (N:=some 42) #[true,true,true,true,false] rfl rfl (by kernel_rfl) (by decide) (fun K hK => ?_)
      refine goes_ Try.func14 (by kernel_rfl) rfl #[.agg #[.slice Ao23 t333.length co23],.agg #[.slice Ao34 t339.length co34]] (by rfl) rfl rfl (by (try simp only [List.map_toArray,List.map_cons,List.map_nil]);first | done | rfl | (simp only [List.length_drop,List.length_take];rfl)) ?_
      with_reducible refine (laws_eqGraph.calls kj11 _ _ t333 _ _ t339 true _ ?side1 ?side2 ?side3 ?side4 A30.out).mono ?_
      (case side1 => repeat (first | exact (Kd.S_reads' HO_337000.out).2.2 | (with_reducible refine Kd.C_alloc ?_ _) | (with_reducible refine Kd.C_drewN ?_ _) | (with_reducible refine Kd.C_drew ?_)))
      (case side2 => exact (Kd.S_reads' HO_337000.out).2.1)
      (case side3 => repeat (first | exact (Kd.S_reads' HO341.out).2.2 | (with_reducible refine Kd.C_alloc ?_ _) | (with_reducible refine Kd.C_drewN ?_ _) | (with_reducible refine Kd.C_drew ?_)))
      (case side4 => exact (Kd.S_reads' HO341.out).2.1)
      rintro e w35 ⟨rfl,hb⟩
      refine ⟨_,rfl,?_⟩
      have n0_:=Aside0.mk (Kd.S_below (by (with_reducible repeat (first | apply Kd.S_alloc | apply Kd.S_drewN | apply Kd.S_drew));exact HO_337000.out) hb)
      have n1_:=Aside0.mk (Kd.S_below (by (with_reducible repeat (first | apply Kd.S_alloc | apply Kd.S_drewN | apply Kd.S_drew));exact HO341.out) hb)
      have n2_:=Aside0.mk (blk_below (g:=gb326) (o:=.cells #[.slice A0_0 l0_0.length c0_0] 24 (0,0)) (by (with_reducible repeat (first | refine blk_drewN ?_ _ | refine blk_drew ?_ | refine blk_alloc ?_ _));exact BK326.out) hb)
      have n3_:=Aside0.mk (blk_below (g:=gb336) (o:=.cells #[.slice Ao23 t333.length co23] 28 (0,0)) (by (with_reducible repeat (first | refine blk_drewN ?_ _ | refine blk_drew ?_ | refine blk_alloc ?_ _));exact BK336.out) hb)
      have n4_:=Aside0.mk (below_step (by repeat (first | (with_reducible first | exact HB.out | apply below_alloc | apply pw_below_drewN | apply below_drew1 | refine below_set ?_ GE326.out | refine below_set ?_ GE336.out) | exact HB.out)) hb)
      clear HO_337000
      clear HO341
      clear BK326
      clear BK336
      clear HB
      have HO_337000:=n0_
      have HO341:=n1_
      have BK326:=n2_
      have BK336:=n3_
      have HB:=n4_
      clear n0_ n1_ n2_ n3_ n4_
      (try clear hb)
      (try clear hb2)
      (try clear hk)
      (try clear hi)
      refine hK.out _ _ ⟨(blk_cell BK336.out 0).trans rfl,(blk_cell BK326.out 0).trans rfl⟩ (fun hHeld => ?_)
      clear hK K
      refine norm_ (a':=?_) ?_ ?_
      rotate_left
      ·show Act.put _ (some 42) _ = _
       simp only [Act.put,List.setIfInBounds_toArray,List.set_cons_zero,List.set_cons_succ,i64_w,i32_w]
       rfl
      refine pure_ (i:=4) (N:=some 43) (v:=?_) (a':=?_) #[true,true,true,true,true] rfl rfl (by kernel_rfl) (fun _ _ _ h => h) (Or.inl ⟨by rfl,?_⟩) ?_ ?_
      rotate_left
      ·intro w'
       go_simp
       with_reducible rfl
      rotate_left
      ·simp only [Act.put,List.setIfInBounds_toArray,List.set_cons_zero,List.set_cons_succ,i64_w,i32_w]
       rfl
      refine done_ (by kernel_rfl) ?_
      try go_wp2
      go_ret
      exact ⟨by first | rfl | (simp [errW_none,errW_some] <;> rfl) | (simp [*,errW_none,errW_some] <;> rfl),by repeat (first | (with_reducible first | exact HB.out | apply below_alloc | apply pw_below_drewN | apply below_drew1 | refine below_set ?_ GE326.out | refine below_set ?_ GE336.out) | exact HB.out)⟩
     ·replace c31:=Bool.eq_false_iff.mpr c31
      subst c31
      have H1 : (some false) = some r:=by rw [if_neg (show ¬ (false = true) by decide)] at H;exact H
      clear H
      have H:=H1
      clear H1
      obtain rfl:=Option.some.inj H
      try go_wp2
      have n0_:=Aside0.mk (Kd.S_drew HO_337000.out)
      have n1_:=Aside0.mk (blk_drew BK326.out)
      have n2_:=Aside0.mk (blk_drew BK336.out)
      have n3_:=Aside0.mk (below_drew1 HB.out)
      clear HO_337000
      clear BK326
      clear BK336
      clear HB
      have HO_337000:=n0_
      have BK326:=n1_
      have BK336:=n2_
      have HB:=n3_
      clear n0_ n1_ n2_ n3_
      refine start_ (n:=5) (S:=fun w' => w'.cell? ⟨gb336,0,none⟩ = some (.slice Ao23 t333.length co23) ∧ w'.cell? ⟨gb326,0,none⟩ = some (.slice A0_0 l0_0.length c0_0)) (ds:=[]) #[false,false,false,false,false] (by kernel_rfl) rfl rfl ⟨(blk_cell BK336.out 0).trans rfl,(blk_cell BK326.out 0).trans rfl⟩ (fun hHeld => ?_)
      generalize wc.drew = w36 at HO_337000 BK326 BK336 HB hHeld ⊢
      refine take_ (i:=0) (N:=some 39) (v:=?_) (a':=?_) #[true,false,false,false,false] rfl rfl (by kernel_rfl) (fun _ _ _ h => h) (Or.inl ⟨by rfl,?_⟩) hHeld ?_ ?_
      rotate_left
      ·rintro w' ⟨s0,s1⟩
       go_simp
       with_reducible rfl
      rotate_left
      ·simp only [Act.put,List.setIfInBounds_toArray,List.set_cons_zero,List.set_cons_succ,i64_w,i32_w]
       rfl
      refine take_ (i:=1) (N:=some 40) (v:=?_) (a':=?_) #[true,true,false,false,false] rfl rfl (by kernel_rfl) (fun _ _ _ h => h) (Or.inl ⟨by rfl,?_⟩) hHeld ?_ ?_
      rotate_left
      ·rintro w' ⟨s0,s1⟩
       go_simp
       with_reducible rfl
      rotate_left
      ·simp only [Act.put,List.setIfInBounds_toArray,List.set_cons_zero,List.set_cons_succ,i64_w,i32_w]
       rfl
      refine one_ (i:=2) (N:=some 41) #[true,true,true,false,false] rfl rfl (by kernel_rfl) (by decide) (fun K hK => ?_)
      refine goes_ Try.func12 (by kernel_rfl) rfl #[.agg #[.slice A0_0 l0_0.length c0_0]] (by rfl) rfl rfl (by (try simp only [List.map_toArray,List.map_cons,List.map_nil]);first | done | rfl | (simp only [List.length_drop,List.length_take];rfl)) ?_
      with_reducible refine (laws_toGraph.calls kj11 _ _ l0_0 t339 _ ?side1 ?side2 A29.out).mono ?_
      (case side1 => repeat (first | exact (Kd.C_below HR0_0.out HB.out) | (with_reducible refine Kd.C_alloc ?_ _) | (with_reducible refine Kd.C_drewN ?_ _) | (with_reducible refine Kd.C_drew ?_)))
      (case side2 => exact HC0_0.out)
      rintro e w37 ⟨v340,rfl,ho0,hb⟩
      refine ⟨_,rfl,?_⟩
      have n0_:=Aside0.mk (Kd.S_elder' (by (with_reducible repeat (first | apply Kd.S_alloc | apply Kd.S_drewN | apply Kd.S_drew));exact HO_337000.out) (Kd.S_base ho0) hb)
      have n1_:=Aside0.mk (Kd.S_lower (Kd.S_new' ho0 (Kd.S_lt (by (with_reducible repeat (first | apply Kd.S_alloc | apply Kd.S_drewN | apply Kd.S_drew));exact HO_337000.out))) (below_size (by repeat (first | (with_reducible first | exact HB.out | apply below_alloc | apply pw_below_drewN | apply below_drew1 | refine below_set ?_ GE326.out | refine below_set ?_ GE336.out) | exact HB.out))))
      have n2_:=Aside0.mk (blk_below (g:=gb326) (o:=.cells #[.slice A0_0 l0_0.length c0_0] 24 (0,0)) (by (with_reducible repeat (first | refine blk_drewN ?_ _ | refine blk_drew ?_ | refine blk_alloc ?_ _));exact BK326.out) hb)
      have n3_:=Aside0.mk (blk_below (g:=gb336) (o:=.cells #[.slice Ao23 t333.length co23] 28 (0,0)) (by (with_reducible repeat (first | refine blk_drewN ?_ _ | refine blk_drew ?_ | refine blk_alloc ?_ _));exact BK336.out) hb)
      have n4_:=Aside0.mk (below_step (by repeat (first | (with_reducible first | exact HB.out | apply below_alloc | apply pw_below_drewN | apply below_drew1 | refine below_set ?_ GE326.out | refine below_set ?_ GE336.out) | exact HB.out)) hb)
      clear HO_337000
      clear BK326
      clear BK336
      clear HB
      have HO_337000:=n0_
      have HO341:=n1_
      have BK326:=n2_
      have BK336:=n3_
      have HB:=n4_
      clear n0_ n1_ n2_ n3_ n4_
      (try clear hb)
      (try clear hb2)
      (try clear hk)
      (try clear hi)
      (try clear ho0)
      obtain ⟨Ao38,co38,eo38⟩:=Kd.S_slice HO341.out
      (first | subst eo38 | (injection eo38 with f1_ f2_ f3_;have f4_:=f1_.symm;have f5_:=f3_.symm;clear f1_ f2_ f3_;subst f4_;subst f5_))
      refine hK.out _ _ ⟨(blk_cell BK336.out 0).trans rfl,(blk_cell BK326.out 0).trans rfl⟩ (fun hHeld => ?_)
      clear hK K
      refine norm_ (a':=?_) ?_ ?_
      rotate_left
      ·show Act.put _ (some 41) _ = _
       simp only [Act.put,List.setIfInBounds_toArray,List.set_cons_zero,List.set_cons_succ,i64_w,i32_w]
       rfl
      refine one_ (i:=3) (N:=some 42) #[true,true,true,true,false] rfl rfl (by kernel_rfl) (by decide) (fun K hK => ?_)
      refine goes_ Try.func14 (by kernel_rfl) rfl #[.agg #[.slice Ao23 t333.length co23],.agg #[.slice Ao38 t339.length co38]] (by rfl) rfl rfl (by (try simp only [List.map_toArray,List.map_cons,List.map_nil]);first | done | rfl | (simp only [List.length_drop,List.length_take];rfl)) ?_
      with_reducible refine (laws_eqGraph.calls kj11 _ _ t333 _ _ t339 false _ ?side1 ?side2 ?side3 ?side4 A30.out).mono ?_
      (case side1 => repeat (first | exact (Kd.S_reads' HO_337000.out).2.2 | (with_reducible refine Kd.C_alloc ?_ _) | (with_reducible refine Kd.C_drewN ?_ _) | (with_reducible refine Kd.C_drew ?_)))
      (case side2 => exact (Kd.S_reads' HO_337000.out).2.1)
      (case side3 => repeat (first | exact (Kd.S_reads' HO341.out).2.2 | (with_reducible refine Kd.C_alloc ?_ _) | (with_reducible refine Kd.C_drewN ?_ _) | (with_reducible refine Kd.C_drew ?_)))
      (case side4 => exact (Kd.S_reads' HO341.out).2.1)
      rintro e w39 ⟨rfl,hb⟩
      refine ⟨_,rfl,?_⟩
      have n0_:=Aside0.mk (Kd.S_below (by (with_reducible repeat (first | apply Kd.S_alloc | apply Kd.S_drewN | apply Kd.S_drew));exact HO_337000.out) hb)
      have n1_:=Aside0.mk (Kd.S_below (by (with_reducible repeat (first | apply Kd.S_alloc | apply Kd.S_drewN | apply Kd.S_drew));exact HO341.out) hb)
      have n2_:=Aside0.mk (blk_below (g:=gb326) (o:=.cells #[.slice A0_0 l0_0.length c0_0] 24 (0,0)) (by (with_reducible repeat (first | refine blk_drewN ?_ _ | refine blk_drew ?_ | refine blk_alloc ?_ _));exact BK326.out) hb)
      have n3_:=Aside0.mk (blk_below (g:=gb336) (o:=.cells #[.slice Ao23 t333.length co23] 28 (0,0)) (by (with_reducible repeat (first | refine blk_drewN ?_ _ | refine blk_drew ?_ | refine blk_alloc ?_ _));exact BK336.out) hb)
      have n4_:=Aside0.mk (below_step (by repeat (first | (with_reducible first | exact HB.out | apply below_alloc | apply pw_below_drewN | apply below_drew1 | refine below_set ?_ GE326.out | refine below_set ?_ GE336.out) | exact HB.out)) hb)
      clear HO_337000
      clear HO341
      clear BK326
      clear BK336
      clear HB
      have HO_337000:=n0_
      have HO341:=n1_
      have BK326:=n2_
      have BK336:=n3_
      have HB:=n4_
      clear n0_ n1_ n2_ n3_ n4_
      (try clear hb)
      (try clear hb2)
      (try clear hk)
      (try clear hi)
      refine hK.out _ _ ⟨(blk_cell BK336.out 0).trans rfl,(blk_cell BK326.out 0).trans rfl⟩ (fun hHeld => ?_)
      clear hK K
      refine norm_ (a':=?_) ?_ ?_
      rotate_left
      ·show Act.put _ (some 42) _ = _
       simp only [Act.put,List.setIfInBounds_toArray,List.set_cons_zero,List.set_cons_succ,i64_w,i32_w]
       rfl
      refine pure_ (i:=4) (N:=some 43) (v:=?_) (a':=?_) #[true,true,true,true,true] rfl rfl (by kernel_rfl) (fun _ _ _ h => h) (Or.inl ⟨by rfl,?_⟩) ?_ ?_
      rotate_left
      ·intro w'
       go_simp
       with_reducible rfl
      rotate_left
      ·simp only [Act.put,List.setIfInBounds_toArray,List.set_cons_zero,List.set_cons_succ,i64_w,i32_w]
       rfl
      refine done_ (by kernel_rfl) ?_
      try go_wp2
      go_ret
      exact ⟨by first | rfl | (simp [errW_none,errW_some] <;> rfl) | (simp [*,errW_none,errW_some] <;> rfl),by repeat (first | (with_reducible first | exact HB.out | apply below_alloc | apply pw_below_drewN | apply below_drew1 | refine below_set ?_ GE326.out | refine below_set ?_ GE336.out) | exact HB.out)⟩

/-- THE ONE PURE STATEMENT of laws_FnExactInnermostAt: yours. -/
def laws_FnExactInnermostAt.Pure : Prop:=∀ (l0_0 : List (List Int)) (a1 : Int),l0_0.length ≤ maxLen → (∀ x ∈ l0_0,(fun xs => xs.length ≤ maxLen ∧ ∀ x ∈ xs,(fun x => (Lit.int .i64 x).wf = true) x) x) → (Lit.int .i64 a1).wf = true → ∃ k,laws_FnExactInnermostAt.f k l0_0 a1 = some true

end Go.Proofs.Ytbmnoenbhlfjaaa.Q
