-- WRITTEN BY A PROGRAM OF THIS SESSION
import Derived.Test.YtmljikgegclolaaQ0
import Derived.Test.YtmljikgegclolaaQ8
import Derived.Test.YtmljikgegclolaaQ9
namespace Go.Proofs.Ytmljikgegclolaa.Q
open Go.RowKit Go.Proofs.YtmljikgegclolaaW.PrintWords Go.Proofs.YtmljikgegclolaaW.PrintLast Go.Proofs.YtmljikgegclolaaW.PrintMore
attribute [local go_sem] max2_int min2_int max_two min_two max_three min_three max_four min_four   -- for this text's walks alone
set_option linter.unusedVariables false
set_option linter.unusedSimpArgs false

/-! ### spec_CutDead: function 45 -/
def spec_CutDead.f (k : Nat) (l0 : List (S56)) : Option ((List (S56)) × Bool):=(spec_l4Valid.f k l0).bind fun bt266 => (if bt266.2.2.2.2 = true then ((spec_l4Cut.f k l0 bt266.2.1).bind fun t276 => (some (t276,true))) else (some (([] : List (S56)),false)))
theorem spec_CutDead.mono : ∀ a0 k,LeO (spec_CutDead.f k a0) (spec_CutDead.f (k + 1) a0):=by
 intro a0 k
 unfold spec_CutDead.f
 repeat' first
   | (with_reducible exact spec_l4Cut.mono _ _ _)
   | (with_reducible exact spec_l4Valid.mono _ _)
   | (with_reducible exact LeO.refl _)
   | (with_reducible exact LeO.none _)
   | (with_reducible refine LeO.ite ?_ ?_)
   | (with_reducible refine LeO.bind ?_ (fun _ => ?_))
   | exact spec_l4Cut.mono _ _ _
   | exact spec_l4Valid.mono _ _
   | exact LeO.none _
   | refine LeO.ite ?_ ?_
   | refine LeO.bind ?_ (fun _ => ?_)
set_option maxHeartbeats 8000000 in
set_option maxRecDepth 100000 in
theorem spec_CutDead.calls (k : Nat) (A0 : Option Addr) (c0 : Nat) (l0 : List (S56)) (r1 : List (S56)) (r2 : Bool) (w : World) (hr0 : Kd.C k56 w A0 l0.length l0) (hc0 : l0.length ≤ c0) (h : spec_CutDead.f k l0 = some (r1,r2)) :
  Calls Try.prog 45 #[.slice A0 l0.length c0] w fun e w' => ∃ v0_ : Value,e = .returned (.tuple #[v0_,.bool r2]) ∧ Kd.S k56 56 w' w.heap.size (fun _ => True) v0_ r1 ∧ Below w.heap.size w w':=by
 have hu79:=Try.underlying79
 have HR0:=Aside0.mk hr0
 have HC0:=Aside0.mk hc0
 clear hr0 hc0
 have HB:=Aside0.mk (Below.refl w.heap.size w)
 have H : ((spec_l4Valid.f k l0).bind fun bt266 => (if bt266.2.2.2.2 = true then ((spec_l4Cut.f k l0 bt266.2.1).bind fun t276 => (some (t276,true))) else (some (([] : List (S56)),false)))) = some (r1,r2):=h
 clear h
 replace H:=Option.bind_eq_some_iff.mp H
 obtain ⟨⟨t266,t269,t272,t273,t274⟩,A20,H⟩:=H
 replace H : (if t274 = true then ((spec_l4Cut.f k l0 t269).bind fun t276 => (some (t276,true))) else (some (([] : List (S56)),false))) = some (r1,r2):=H
 have A2:=Aside0.mk A20
 clear A20
 by_cases c3 : t274 = true
 ·subst c3
  have H1 : ((spec_l4Cut.f k l0 t269).bind fun t276 => (some (t276,true))) = some (r1,r2):=by rw [if_pos rfl] at H;exact H
  clear H
  have H:=H1
  clear H1
  replace H:=Option.bind_eq_some_iff.mp H
  obtain ⟨t276,A40,H⟩:=H
  replace H : (some (t276,true)) = some (r1,r2):=H
  have A4:=Aside0.mk A40
  clear A40
  simp only [Option.some.injEq,Prod.mk.injEq] at H
  obtain ⟨rfl,rfl⟩:=H
  go_enter Try.func45,Try.ntmps45
  go_wp2_with (first | ((with_reducible refine gate_callee (f:=66) rfl ?_);refine goesL_ (some 8) rfl rfl Try.func66 (by kernel_rfl) rfl #[.slice A0 l0.length c0] rfl (by (try simp only [List.map_toArray,List.map_cons,List.map_nil]);first | done | rfl | (simp only [List.length_drop,List.length_take];rfl)) ?_;(with_reducible refine (spec_l4Valid.calls k _ _ l0 t266 t269 t272 t273 true _ ?side1 ?side2 A2.out).mono ?_);(case side1 => repeat (first | exact HR0.out | (with_reducible refine Kd.C_alloc ?_ _) | (with_reducible refine Kd.C_drewN ?_ _) | (with_reducible refine Kd.C_drew ?_)));(case side2 => exact HC0.out);rintro e w5 ⟨v267,v270,rfl,ho0,ho1,hb⟩;refine ⟨_,rfl,?_⟩;have n0_:=Aside0.mk (Kd.R_lower ho0 (below_size (by repeat (first | (with_reducible first | exact HB.out | apply below_alloc | apply pw_below_drewN | apply below_drew1) | exact HB.out))));have n1_:=Aside0.mk (Kd.R_lower ho1 (below_size (by repeat (first | (with_reducible first | exact HB.out | apply below_alloc | apply pw_below_drewN | apply below_drew1) | exact HB.out))));have n2_:=Aside0.mk (below_step (by repeat (first | (with_reducible first | exact HB.out | apply below_alloc | apply pw_below_drewN | apply below_drew1) | exact HB.out)) hb);clear HB;have HO268:=n0_;have HO271:=n1_;have HB:=n2_;clear n0_ n1_ n2_;(try clear hb);(try clear hb2);(try clear hk);(try clear hi);(try clear ho0);(try clear ho1)) | ((with_reducible refine gate_dst (N:=4) rfl ?_);refine box_event ?hg (N:=4) ?hd (cs:=#[.slice none 0 0,.slice none 0 0,.int .i64 0,.int .i64 0]) (t:=79) ?hr ?_;(case hd => rfl);(case hg => rfl);(case hr => first | (go_simp;done) | (go_simp;rfl));intro gb275 hg w6 hbox hb;have n0_:=Aside0.mk (Kd.R_below (by (with_reducible repeat (first | apply Kd.R_alloc | apply Kd.R_drewN | apply Kd.R_drew));exact HO268.out) hb);have n1_:=Aside0.mk (Kd.R_below (by (with_reducible repeat (first | apply Kd.R_alloc | apply Kd.R_drewN | apply Kd.R_drew));exact HO271.out) hb);have n2_:=Aside0.mk (below_step (by repeat (first | (with_reducible first | exact HB.out | apply below_alloc | apply pw_below_drewN | apply below_drew1) | exact HB.out)) hb);have n3_:=Aside0.mk (hbox);have n4_:=Aside0.mk ((by rw [hg];exact (below_size (by repeat (first | (with_reducible first | exact HB.out | apply below_alloc | apply pw_below_drewN | apply below_drew1) | exact HB.out))) : w.heap.size ≤ gb275));have n5_:=Aside0.mk ((by rw [hg];exact (below_size (by repeat (first | (with_reducible first | exact HB.out | apply below_alloc | apply pw_below_drewN | apply below_drew1) | exact HB.out))) : w.heap.size ≤ gb275));clear HO268;clear HO271;clear HB;have HO268:=n0_;have HO271:=n1_;have HB:=n2_;have BK275:=n3_;have GW275:=n4_;have GE275:=n5_;clear n0_ n1_ n2_ n3_ n4_ n5_;clear hb hbox hg;obtain ⟨Ao7,co7,eo7⟩:=Kd.R_slice HO268.out;subst eo7;have hcz8_0 : w6.cell? ⟨gb275,0,none⟩ = some (.slice none 0 0):=(blk_cell BK275.out 0).trans rfl;have hcz8_1 : w6.cell? ⟨gb275,1,none⟩ = some (.slice none 0 0):=(blk_cell BK275.out 1).trans rfl;have hcz8_2 : w6.cell? ⟨gb275,2,none⟩ = some (.int .i64 0):=(blk_cell BK275.out 2).trans rfl;have hcz8_3 : w6.cell? ⟨gb275,3,none⟩ = some (.int .i64 0):=(blk_cell BK275.out 3).trans rfl;have hfz8_0:=blk_frozen BK275.out 0;have hfz8_1:=blk_frozen BK275.out 1;have hfz8_2:=blk_frozen BK275.out 2;have hfz8_3:=blk_frozen BK275.out 3;obtain ⟨Ao9,co9,eo9⟩:=Kd.R_slice HO271.out;subst eo9) | ((with_reducible refine gate_callee (f:=69) rfl ?_);refine goesL_ (some 16) rfl rfl Try.func69 (by kernel_rfl) rfl #[.slice A0 l0.length c0,.slice Ao9 t269.length co9] rfl (by (try simp only [List.map_toArray,List.map_cons,List.map_nil]);first | done | rfl | (simp only [List.length_drop,List.length_take];rfl)) ?_;(with_reducible refine (spec_l4Cut.calls k _ _ l0 _ _ t269 t276 _ ?side1 ?side2 ?side3 ?side4 A4.out).mono ?_);(case side1 => exact Kd.C_below HR0.out (by repeat (first | (with_reducible first | exact HB.out | apply below_alloc | apply pw_below_drewN | apply below_drew1 | refine below_set ?_ GE275.out) | exact HB.out)));(case side2 => exact HC0.out);(case side3 => refine (Kd.R_reads' (e:=4) (base:=w.heap.size) (ok:=fun k_ => True) (n:=t269.length) (c:=co9) ?_).2.2;exact (by (with_reducible repeat (first | apply Kd.R_alloc | apply Kd.R_drewN | apply Kd.R_drew));exact (Kd.R_mono (Kd.R_far (p:=⟨gb275,3,none⟩) (Kd.R_far (p:=⟨gb275,2,none⟩) (Kd.R_far (p:=⟨gb275,1,none⟩) (Kd.R_far (p:=⟨gb275,0,none⟩) (Kd.R_types HO271.out BK275.out (by decide)) (fun _ hk => hk.2) (.slice Ao7 t266.length co7)) (fun _ hk => hk.2) (.slice Ao9 t269.length co9)) (fun _ hk => hk.2) (.int .i64 t272)) (fun _ hk => hk.2) (.int .i64 t273)) (fun _ h_ => h_.1))));(case side4 => exact (Kd.R_reads' HO271.out).2.1);rintro e w10 ⟨v277,rfl,ho0,hb⟩;refine ⟨_,rfl,?_⟩;have n0_:=Aside0.mk (Kd.R_below (by (with_reducible repeat (first | apply Kd.R_alloc | apply Kd.R_drewN | apply Kd.R_drew));exact (Kd.R_mono (Kd.R_far (p:=⟨gb275,3,none⟩) (Kd.R_far (p:=⟨gb275,2,none⟩) (Kd.R_far (p:=⟨gb275,1,none⟩) (Kd.R_far (p:=⟨gb275,0,none⟩) (Kd.R_types HO268.out BK275.out (by decide)) (fun _ hk => hk.2) (.slice Ao7 t266.length co7)) (fun _ hk => hk.2) (.slice Ao9 t269.length co9)) (fun _ hk => hk.2) (.int .i64 t272)) (fun _ hk => hk.2) (.int .i64 t273)) (fun _ h_ => h_.1))) hb);have n1_:=Aside0.mk (Kd.R_below (by (with_reducible repeat (first | apply Kd.R_alloc | apply Kd.R_drewN | apply Kd.R_drew));exact (Kd.R_mono (Kd.R_far (p:=⟨gb275,3,none⟩) (Kd.R_far (p:=⟨gb275,2,none⟩) (Kd.R_far (p:=⟨gb275,1,none⟩) (Kd.R_far (p:=⟨gb275,0,none⟩) (Kd.R_types HO271.out BK275.out (by decide)) (fun _ hk => hk.2) (.slice Ao7 t266.length co7)) (fun _ hk => hk.2) (.slice Ao9 t269.length co9)) (fun _ hk => hk.2) (.int .i64 t272)) (fun _ hk => hk.2) (.int .i64 t273)) (fun _ h_ => h_.1))) hb);have n2_:=Aside0.mk (Kd.S_lower (Kd.S_new' ho0 (Kd.R_lt (by (with_reducible repeat (first | apply Kd.R_alloc | apply Kd.R_drewN | apply Kd.R_drew));exact (Kd.R_mono (Kd.R_far (p:=⟨gb275,3,none⟩) (Kd.R_far (p:=⟨gb275,2,none⟩) (Kd.R_far (p:=⟨gb275,1,none⟩) (Kd.R_far (p:=⟨gb275,0,none⟩) (Kd.R_types HO268.out BK275.out (by decide)) (fun _ hk => hk.2) (.slice Ao7 t266.length co7)) (fun _ hk => hk.2) (.slice Ao9 t269.length co9)) (fun _ hk => hk.2) (.int .i64 t272)) (fun _ hk => hk.2) (.int .i64 t273)) (fun _ h_ => h_.1))))) (below_size (by repeat (first | (with_reducible first | exact HB.out | apply below_alloc | apply pw_below_drewN | apply below_drew1 | refine below_set ?_ GE275.out) | exact HB.out))));have n3_:=Aside0.mk (blk_below (g:=gb275) (o:=.cells #[.slice Ao7 t266.length co7,.slice Ao9 t269.length co9,.int .i64 t272,.int .i64 t273] 79 (0,0)) (by (with_reducible repeat (first | refine blk_drewN ?_ _ | refine blk_drew ?_ | refine blk_alloc ?_ _));refine blk_put (cs:=#[.slice Ao7 t266.length co7,.slice Ao9 t269.length co9,.int .i64 t272,.int .i64 0]) ?_ 3 _ rfl;(with_reducible repeat (first | refine blk_drewN ?_ _ | refine blk_drew ?_ | refine blk_alloc ?_ _));refine blk_put (cs:=#[.slice Ao7 t266.length co7,.slice Ao9 t269.length co9,.int .i64 0,.int .i64 0]) ?_ 2 _ rfl;(with_reducible repeat (first | refine blk_drewN ?_ _ | refine blk_drew ?_ | refine blk_alloc ?_ _));refine blk_put (cs:=#[.slice Ao7 t266.length co7,.slice none 0 0,.int .i64 0,.int .i64 0]) ?_ 1 _ rfl;(with_reducible repeat (first | refine blk_drewN ?_ _ | refine blk_drew ?_ | refine blk_alloc ?_ _));refine blk_put (cs:=#[.slice none 0 0,.slice none 0 0,.int .i64 0,.int .i64 0]) ?_ 0 _ rfl;(with_reducible repeat (first | refine blk_drewN ?_ _ | refine blk_drew ?_ | refine blk_alloc ?_ _));exact BK275.out) hb);have n4_:=Aside0.mk (below_step (by repeat (first | (with_reducible first | exact HB.out | apply below_alloc | apply pw_below_drewN | apply below_drew1 | refine below_set ?_ GE275.out) | exact HB.out)) hb);clear HO268;clear HO271;clear BK275;clear HB;have HO268:=n0_;have HO271:=n1_;have HO278:=n2_;have BK275:=n3_;have HB:=n4_;clear n0_ n1_ n2_ n3_ n4_;(try clear hb);(try clear hb2);(try clear hk);(try clear hi);(try clear ho0)))
  go_ret2
  exact ⟨_,by first | rfl | (simp [errW_none,errW_some] <;> rfl) | (simp [*,errW_none,errW_some] <;> rfl),by (with_reducible repeat (first | apply Kd.S_alloc | apply Kd.S_drewN | apply Kd.S_drew));exact Kd.S_mono HO278.out (fun _ hk => trivial),by repeat (first | (with_reducible first | exact HB.out | apply below_alloc | apply pw_below_drewN | apply below_drew1 | refine below_set ?_ GE275.out) | exact HB.out)⟩
 ·replace c3:=Bool.eq_false_iff.mpr c3
  subst c3
  have H1 : (some (([] : List (S56)),false)) = some (r1,r2):=by rw [if_neg (show ¬ (false = true) by decide)] at H;exact H
  clear H
  have H:=H1
  clear H1
  simp only [Option.some.injEq,Prod.mk.injEq] at H
  obtain ⟨rfl,rfl⟩:=H
  go_enter Try.func45,Try.ntmps45
  go_wp2_with (first | ((with_reducible refine gate_callee (f:=66) rfl ?_);refine goesL_ (some 8) rfl rfl Try.func66 (by kernel_rfl) rfl #[.slice A0 l0.length c0] rfl (by (try simp only [List.map_toArray,List.map_cons,List.map_nil]);first | done | rfl | (simp only [List.length_drop,List.length_take];rfl)) ?_;(with_reducible refine (spec_l4Valid.calls k _ _ l0 t266 t269 t272 t273 false _ ?side1 ?side2 A2.out).mono ?_);(case side1 => repeat (first | exact HR0.out | (with_reducible refine Kd.C_alloc ?_ _) | (with_reducible refine Kd.C_drewN ?_ _) | (with_reducible refine Kd.C_drew ?_)));(case side2 => exact HC0.out);rintro e w11 ⟨v267,v270,rfl,ho0,ho1,hb⟩;refine ⟨_,rfl,?_⟩;have n0_:=Aside0.mk (Kd.R_lower ho0 (below_size (by repeat (first | (with_reducible first | exact HB.out | apply below_alloc | apply pw_below_drewN | apply below_drew1) | exact HB.out))));have n1_:=Aside0.mk (Kd.R_lower ho1 (below_size (by repeat (first | (with_reducible first | exact HB.out | apply below_alloc | apply pw_below_drewN | apply below_drew1) | exact HB.out))));have n2_:=Aside0.mk (below_step (by repeat (first | (with_reducible first | exact HB.out | apply below_alloc | apply pw_below_drewN | apply below_drew1) | exact HB.out)) hb);clear HB;have HO268:=n0_;have HO271:=n1_;have HB:=n2_;clear n0_ n1_ n2_;(try clear hb);(try clear hb2);(try clear hk);(try clear hi);(try clear ho0);(try clear ho1)) | ((with_reducible refine gate_dst (N:=4) rfl ?_);refine box_event ?hg (N:=4) ?hd (cs:=#[.slice none 0 0,.slice none 0 0,.int .i64 0,.int .i64 0]) (t:=79) ?hr ?_;(case hd => rfl);(case hg => rfl);(case hr => first | (go_simp;done) | (go_simp;rfl));intro gb275 hg w12 hbox hb;have n0_:=Aside0.mk (Kd.R_below (by (with_reducible repeat (first | apply Kd.R_alloc | apply Kd.R_drewN | apply Kd.R_drew));exact HO268.out) hb);have n1_:=Aside0.mk (Kd.R_below (by (with_reducible repeat (first | apply Kd.R_alloc | apply Kd.R_drewN | apply Kd.R_drew));exact HO271.out) hb);have n2_:=Aside0.mk (below_step (by repeat (first | (with_reducible first | exact HB.out | apply below_alloc | apply pw_below_drewN | apply below_drew1) | exact HB.out)) hb);have n3_:=Aside0.mk (hbox);have n4_:=Aside0.mk ((by rw [hg];exact (below_size (by repeat (first | (with_reducible first | exact HB.out | apply below_alloc | apply pw_below_drewN | apply below_drew1) | exact HB.out))) : w.heap.size ≤ gb275));have n5_:=Aside0.mk ((by rw [hg];exact (below_size (by repeat (first | (with_reducible first | exact HB.out | apply below_alloc | apply pw_below_drewN | apply below_drew1) | exact HB.out))) : w.heap.size ≤ gb275));clear HO268;clear HO271;clear HB;have HO268:=n0_;have HO271:=n1_;have HB:=n2_;have BK275:=n3_;have GW275:=n4_;have GE275:=n5_;clear n0_ n1_ n2_ n3_ n4_ n5_;clear hb hbox hg;obtain ⟨Ao13,co13,eo13⟩:=Kd.R_slice HO268.out;subst eo13;have hcz14_0 : w12.cell? ⟨gb275,0,none⟩ = some (.slice none 0 0):=(blk_cell BK275.out 0).trans rfl;have hcz14_1 : w12.cell? ⟨gb275,1,none⟩ = some (.slice none 0 0):=(blk_cell BK275.out 1).trans rfl;have hcz14_2 : w12.cell? ⟨gb275,2,none⟩ = some (.int .i64 0):=(blk_cell BK275.out 2).trans rfl;have hcz14_3 : w12.cell? ⟨gb275,3,none⟩ = some (.int .i64 0):=(blk_cell BK275.out 3).trans rfl;have hfz14_0:=blk_frozen BK275.out 0;have hfz14_1:=blk_frozen BK275.out 1;have hfz14_2:=blk_frozen BK275.out 2;have hfz14_3:=blk_frozen BK275.out 3;obtain ⟨Ao15,co15,eo15⟩:=Kd.R_slice HO271.out;subst eo15))
  go_ret2
  exact ⟨_,by first | rfl | (simp [errW_none,errW_some] <;> rfl) | (simp [*,errW_none,errW_some] <;> rfl),by first | exact Kd.S_nil _ _ _ _ _ | exact Kd.N_nil _ _ _ _ _ | exact Kd.V_nil _ _ _ _ _ | exact Kd.Q_nil _ _ _ _ _ | exact Kd.R_nil _ _ _ _ _,by repeat (first | (with_reducible first | exact HB.out | apply below_alloc | apply pw_below_drewN | apply below_drew1 | refine below_set ?_ GE275.out) | exact HB.out)⟩

/-! ### bits_Mul32: function 103 -/
def bits_Mul32.f (a0 : Int) (a1 : Int) : Option (Int × Int):=some (((IntKind.u64.wrap ((IntKind.u64.wrap (a0)) * (IntKind.u64.wrap (a1)))) / 4294967296) % 4294967296,(IntKind.u64.wrap ((IntKind.u64.wrap (a0)) * (IntKind.u64.wrap (a1)))) % 4294967296)
set_option maxHeartbeats 8000000 in
set_option maxRecDepth 100000 in
theorem bits_Mul32.calls (a0 : Int) (a1 : Int) (r1 : Int) (r2 : Int) (w : World) (h : bits_Mul32.f a0 a1 = some (r1,r2)) :
  Calls Try.prog 103 #[.int .u32 a0,.int .u32 a1] w fun e w' => e = .returned (.tuple #[.int .u32 r1,.int .u32 r2]) ∧ Drawn0 w w':=by
 have H : (some (((IntKind.u64.wrap ((IntKind.u64.wrap (a0)) * (IntKind.u64.wrap (a1)))) / 4294967296) % 4294967296,(IntKind.u64.wrap ((IntKind.u64.wrap (a0)) * (IntKind.u64.wrap (a1)))) % 4294967296)) = some (r1,r2):=h
 clear h
 simp only [Option.some.injEq,Prod.mk.injEq] at H
 obtain ⟨rfl,rfl⟩:=H
 go_enter Try.func103,Try.ntmps103
 go_wp2
 go_ret2
 exact ⟨by first | rfl | (simp;done) | (simp [*];done),by repeat (first | exact Drawn0.refl _ | apply Drawn0.step)⟩

/-! ### bits_Mul64: function 104 -/
def bits_Mul64.f (a0 : Int) (a1 : Int) : Option (Int × Int):=some (IntKind.u64.wrap ((IntKind.u64.wrap ((IntKind.u64.wrap ((a0 / 4294967296) * (a1 / 4294967296))) + ((IntKind.u64.wrap ((IntKind.u64.wrap ((a0 / 4294967296) * (Go.bits .and .u64 a1 4294967295))) + ((IntKind.u64.wrap ((Go.bits .and .u64 a0 4294967295) * (Go.bits .and .u64 a1 4294967295))) / 4294967296))) / 4294967296))) + ((IntKind.u64.wrap ((Go.bits .and .u64 (IntKind.u64.wrap ((IntKind.u64.wrap ((a0 / 4294967296) * (Go.bits .and .u64 a1 4294967295))) + ((IntKind.u64.wrap ((Go.bits .and .u64 a0 4294967295) * (Go.bits .and .u64 a1 4294967295))) / 4294967296))) 4294967295) + (IntKind.u64.wrap ((Go.bits .and .u64 a0 4294967295) * (a1 / 4294967296))))) / 4294967296)),IntKind.u64.wrap (a0 * a1))
set_option maxHeartbeats 8000000 in
set_option maxRecDepth 100000 in
theorem bits_Mul64.calls (a0 : Int) (a1 : Int) (r1 : Int) (r2 : Int) (w : World) (h : bits_Mul64.f a0 a1 = some (r1,r2)) :
  Calls Try.prog 104 #[.int .u64 a0,.int .u64 a1] w fun e w' => e = .returned (.tuple #[.int .u64 r1,.int .u64 r2]) ∧ Drawn0 w w':=by
 have H : (some (IntKind.u64.wrap ((IntKind.u64.wrap ((IntKind.u64.wrap ((a0 / 4294967296) * (a1 / 4294967296))) + ((IntKind.u64.wrap ((IntKind.u64.wrap ((a0 / 4294967296) * (Go.bits .and .u64 a1 4294967295))) + ((IntKind.u64.wrap ((Go.bits .and .u64 a0 4294967295) * (Go.bits .and .u64 a1 4294967295))) / 4294967296))) / 4294967296))) + ((IntKind.u64.wrap ((Go.bits .and .u64 (IntKind.u64.wrap ((IntKind.u64.wrap ((a0 / 4294967296) * (Go.bits .and .u64 a1 4294967295))) + ((IntKind.u64.wrap ((Go.bits .and .u64 a0 4294967295) * (Go.bits .and .u64 a1 4294967295))) / 4294967296))) 4294967295) + (IntKind.u64.wrap ((Go.bits .and .u64 a0 4294967295) * (a1 / 4294967296))))) / 4294967296)),IntKind.u64.wrap (a0 * a1))) = some (r1,r2):=h
 clear h
 simp only [Option.some.injEq,Prod.mk.injEq] at H
 obtain ⟨rfl,rfl⟩:=H
 go_enter Try.func104,Try.ntmps104
 go_wp2
 go_ret2
 exact ⟨by first | rfl | (simp;done) | (simp [*];done),by repeat (first | exact Drawn0.refl _ | apply Drawn0.step)⟩

/-! ### bits_Mul: function 99 -/
def bits_Mul.f (a0 : Int) (a1 : Int) : Option (Int × Int):=(bits_Mul64.f a0 a1).bind fun bt279 => (some (bt279.1,bt279.2))
set_option maxHeartbeats 8000000 in
set_option maxRecDepth 100000 in
theorem bits_Mul.calls (a0 : Int) (a1 : Int) (r1 : Int) (r2 : Int) (w : World) (h : bits_Mul.f a0 a1 = some (r1,r2)) :
  Calls Try.prog 99 #[.int .u64 a0,.int .u64 a1] w fun e w' => e = .returned (.tuple #[.int .u64 r1,.int .u64 r2]) ∧ Drawn0 w w':=by
 have H : ((bits_Mul64.f a0 a1).bind fun bt279 => (some (bt279.1,bt279.2))) = some (r1,r2):=h
 clear h
 replace H:=Option.bind_eq_some_iff.mp H
 obtain ⟨⟨t279,t280⟩,A30,H⟩:=H
 replace H : (some (t279,t280)) = some (r1,r2):=H
 have A3:=Aside0.mk A30
 clear A30
 simp only [Option.some.injEq,Prod.mk.injEq] at H
 obtain ⟨rfl,rfl⟩:=H
 go_enter Try.func99,Try.ntmps99
 go_wp2_with (first | ((with_reducible refine gate_callee (f:=104) rfl ?_);refine goesL_ (some 25) rfl rfl Try.func104 (by kernel_rfl) rfl #[.int .u64 a0,.int .u64 a1] rfl (by (try simp only [List.map_toArray,List.map_cons,List.map_nil]);first | done | rfl | (simp only [List.length_drop,List.length_take];rfl)) ?_;(with_reducible refine (bits_Mul64.calls a0 a1 t279 t280 _ A3.out).mono ?_);rintro e w' ⟨rfl,⟨nd,rfl⟩⟩;refine ⟨_,rfl,?_⟩))
 go_ret2
 exact ⟨by first | rfl | (simp;done) | (simp [*];done),by repeat (first | exact Drawn0.refl _ | apply Drawn0.step)⟩

/-! ### slices_Repeat_int_int: function 79 (by hand: one number, told again and again) -/
def slices_Repeat_int_int.f (l : List Int) (n : Int) : Option (List Int):=match l with
 | [z] => if 0 ≤ n ∧ n ≤ 60 then some (List.replicate n.toNat z) else none
 | _ => none
theorem mul_one60 : ∀ m : Nat,m < 61 → bits_Mul.f 1 (m : Int) = some (0,(m : Int)):=by decide +kernel
/-- z, m times, behind it noughts: n cells in all. -/
def repCells (z : Int) (n m : Nat) : List Value:=List.replicate m (.int .i64 z) ++ List.replicate (n - m) (.int .i64 0)
theorem made_cells (n : Nat) (z : Int) : madeCells #[.int .i64 0] n = (repCells z n 0).toArray:=by
 apply Array.ext
 ·simp [size_madeCells,repCells]
 ·intro i h1 h2
  simp [madeCells,repCells,Nat.mod_one]
theorem repCells_splice (z : Int) (n m c : Nat) (h : m + c ≤ n) : splice (repCells z n m) m (List.replicate c (.int .i64 z)) = repCells z n (m + c):=by
 unfold splice repCells
 rw [List.take_append,List.drop_append,List.length_replicate,List.length_replicate]
 simp only [List.take_replicate,List.drop_replicate]
 rw [show min m m = m by omega,show min (m - m) (n - m) = 0 by omega,show m - (m + c) = 0 by omega,show m + c - m = c by omega,show n - m - c = n - (m + c) by omega]
 simp only [List.replicate_zero,List.append_nil,List.nil_append]
 rw [← List.append_assoc,List.replicate_append_replicate]
theorem repCells_length (z : Int) (n m : Nat) (h : m ≤ n) : (repCells z n m).length = n:=by simp [repCells];omega
theorem repCells_cell {W : World} {g t : Nat} {z : Int} {n m : Nat} (h : W.heap[g]? = some (.cells (repCells z n m).toArray t (0,0))) (j : Nat) (hj : j < m) : W.cell? ⟨g,j,none⟩ = some (.int .i64 z):=by
 rw [blk_cell h]
 simp [repCells,List.getElem?_append,hj]
theorem repCells_R {W : World} {g t base : Nat} {z : Int} {n : Nat} (h : W.heap[g]? = some (.cells (repCells z n n).toArray t (0,0))) (hb : base ≤ g) (hn : n ≤ 60) : (Kd.int .i64).R t W base (fun _ => True) (.slice (some ⟨g,0,none⟩) n n) (List.replicate n z):=by
 have e1 : repCells z n n = encs (Value.int .i64) (List.replicate n z):=by simp [repCells,encs]
 have hl : (List.replicate n z).length = n:=by simp
 have:=Kd.R_of_own (enc:=Value.int .i64) (h1:=fun _ => rfl) (e:=t) (w:=W) (base:=base) (ok:=fun _ => True) (v:=.slice (some ⟨g,0,none⟩) n n) (xs:=List.replicate n z) ⟨by rw [encs_length,Nat.mul_one],.inr ⟨g,n,_,by rw [hl],hb,h,by rw [hl];exact Nat.le_refl _,by unfold maxLen;omega,by simp [repCells_length],by rw [hl,e1,Nat.mul_one];exact List.take_of_length_le (by simp [encs_length])⟩⟩ (fun _ _ => trivial)
 exact this
theorem rep_get {m j : Nat} {z : Int} {v : Value} (h : (List.replicate m (Value.int .i64 z))[j]? = some v) : j < m ∧ v = .int .i64 z:=by
 rw [List.getElem?_replicate] at h
 by_cases hj : j < m
 ·rw [if_pos hj] at h;exact ⟨hj,(Option.some.inj h).symm⟩
 ·rw [if_neg hj] at h;exact absurd h (by simp)
theorem rp_pos {W : World} {ad : Addr} {z : Int} {m0 : Nat} (g : Nat) (hx : W.cell? (ad.add 0) = some (.int .i64 z)) (h1 : m0 ≤ 1) : 0 < (List.replicate m0 (Value.int .i64 z)).length → (some ⟨g,0,none⟩ : Option Addr) = some ⟨g,0,none⟩ ∧ ∃ a,some ad = some a ∧ ∀ j v,(List.replicate m0 (Value.int .i64 z))[j]? = some v → W.cell? (a.add j) = some v:=by
 intro _
 refine ⟨rfl,ad,rfl,fun j v hv => ?_⟩
 obtain ⟨hj,rfl⟩:=rep_get hv
 obtain rfl : j = 0:=by omega
 exact hx
theorem rp_pos2 {W : World} {g t n m c : Nat} {z : Int} (h : W.heap[g]? = some (.cells (repCells z n m).toArray t (0,0))) (hc : c ≤ m) : 0 < (List.replicate c (Value.int .i64 z)).length → (some ⟨g,m,none⟩ : Option Addr) = some ⟨g,m,none⟩ ∧ ∃ a,(some ⟨g,0,none⟩ : Option Addr) = some a ∧ ∀ j v,(List.replicate c (Value.int .i64 z))[j]? = some v → W.cell? (a.add j) = some v:=by
 intro _
 refine ⟨rfl,_,rfl,fun j v hv => ?_⟩
 obtain ⟨hj,rfl⟩:=rep_get hv
 rw [add_plain]
 exact repCells_cell h j (by omega)
theorem rp_one {c : Nat} {z : Int} : ∀ v ∈ List.replicate c (Value.int .i64 z),v.oneCell' = true:=by
 intro v hv
 rw [List.eq_of_mem_replicate hv];simp [Value.oneCell']
set_option maxHeartbeats 8000000 in
set_option maxRecDepth 100000 in
theorem slices_Repeat_int_int.calls (A0 : Option Addr) (c0 : Nat) (l0 : List Int) (a1 : Int) (r : List Int) (w : World) (hr0 : Kd.C (Kd.int .i64) w A0 l0.length l0) (hc0 : l0.length ≤ c0) (h : slices_Repeat_int_int.f l0 a1 = some r) :
  Calls Try.prog 79 #[.slice A0 l0.length c0,.int .i64 a1] w fun e w' => ∃ v0_ : Value,e = .returned (v0_) ∧ (Kd.int .i64).R 3 w' w.heap.size (fun _ => True) v0_ r ∧ Below w.heap.size w w':=by
 cases l0 with
 | nil => simp [slices_Repeat_int_int.f] at h
 | cons z q =>
  cases q with
  | cons _ _ => simp [slices_Repeat_int_int.f] at h
  | nil =>
   unfold slices_Repeat_int_int.f at h
   dsimp only at h
   by_cases c1 : 0 ≤ a1 ∧ a1 ≤ 60
   rotate_left
   ·rw [if_neg c1] at h;exact absurd h (by simp)
   rw [if_pos c1] at h
   obtain rfl:=Option.some.inj h
   obtain ⟨n,rfl⟩ : ∃ n : Nat,a1 = (n : Int):=⟨a1.toNat,by omega⟩
   have hn : n ≤ 60:=by omega
   rw [Int.toNat_natCast]
   obtain ⟨ad,e1,hx⟩:=Kd.at_int hr0 0 (by omega) (by simp)
   cases e1
   have HX : Aside0 (w.cell? (ad.add 0) = some (.int .i64 z)):=⟨hx⟩
   have HM:=Aside0.mk (mul_one60 n (by omega))
   have HN:=Aside0.mk hn
   have hu1 : IntKind.u64.wrap 1 = 1:=by decide
   have hun : IntKind.u64.wrap (n : Int) = n:=by
    have h2 : (2 : Int) ^ IntKind.u64.bits = 18446744073709551616:=rfl
    simp only [IntKind.wrap]
    rw [h2]
    first | omega | (simp [IntKind.signed];omega)
   have hin : IntKind.i64.wrap (n : Int) = n:=by rw [i64_w];unfold wrap64;omega
   have hmk:=fun W => run_make_row' (P:=Try.prog) 29 3 (.int .i64 0) 8 Try.underlying29 (by kernel_rfl) rfl .i64 .i64 n (by omega) (by omega) W
   have hlt : decide ((n : Int) < 0) = false:=decide_eq_false (by omega)
   have hgt : decide ((0 : Int) > 0) = false:=rfl
   have hgt2 : decide ((n : Int) > 9223372036854775807) = false:=decide_eq_false (by omega)
   have HG:=Aside0.mk (heap_alloc_new w (.cells (madeCells #[.int .i64 0] n) 3))
   obtain ⟨m0,HM0⟩ : ∃ m0 : Nat,Aside0 (m0 = Nat.min 1 n ∧ m0 ≤ 1 ∧ m0 ≤ n ∧ (0 < m0 ∨ n = 0)):=by
    cases n with
    | zero => exact ⟨0,⟨by rfl,by omega,by omega,by omega⟩⟩
    | succ q => exact ⟨1,⟨by simp [Nat.min_def],by omega,by omega,by omega⟩⟩
   simp only [List.length_singleton]
   clear h hr0 hc0 c1 hx hn
   go_enter Try.func79,Try.ntmps79
   go_wp2_with (first | (go_at_call 99;refine (bits_Mul.calls 1 (n : Int) 0 (n : Int) _ HM.out).mono ?_;rintro e w2 ⟨rfl,⟨nd,rfl⟩⟩) | (with_reducible refine wpList_copy_splice rfl (.tmp 31) (.tmp 32) 29 29 rfl 3 Try.underlying29 (by kernel_rfl) (some ⟨w.heap.size,0,none⟩) (some ad) n n 1 c0 rfl rfl w.heap.size 0 (repCells z n 0) 3 ?hg (List.replicate m0 (.int .i64 z)) ?hn ?hpos ?hfit ?h1 w.heap.size w ?hb (Nat.le_refl _) ?_;(case hg => rw [← made_cells n z];have h_:=heap_alloc_new (w.drewN nd) (.cells (madeCells #[.int .i64 0] n) 3);first | exact h_ | simpa using h_);(case hn => rw [List.length_replicate];exact HM0.out.1);(case hpos => exact rp_pos w.heap.size (pw_cell_below (below_alloc (pw_below_drewN (Below.refl _ _) nd) _) HX.out) HM0.out.2.1);(case hfit => rw [repCells_length z n 0 (Nat.zero_le _),List.length_replicate];have hm_:=HM0.out.2.2.1;omega);(case h1 => intro v hv;rw [List.eq_of_mem_replicate hv];simp [Value.oneCell']);(case hb => exact below_alloc (pw_below_drewN (Below.refl _ _) _) _);intro w3 hg3 hb3;have HG3:=Aside0.mk hg3.out;have HB3:=Aside0.mk hb3;clear hg3 hb3))
   have HG4:=Aside0.mk (by have h2:=HG3.out;have h3:=repCells_splice z n 0 m0 (by have:=HM0.out;omega);rw [h3,Nat.zero_add] at h2;exact h2)
   clear HG3
   (try simp only [List.length_replicate,goInt])
   go_loopg [8] n (fun kq v8 w' => ∃ m : Nat,v8 = .int .i64 (m : Int) ∧ Aside0 (m ≤ n ∧ (0 < m ∨ n = 0) ∧ n - m ≤ kq) ∧ Aside0 (w'.heap[w.heap.size]? = some (.cells (repCells z n m).toArray 3 (0,0))) ∧ Aside0 (Below w.heap.size w w'))
   case atStart => exact ⟨m0,rfl,⟨by have:=HM0.out;omega,by have:=HM0.out;omega,by omega⟩,HG4,HB3⟩
   case round =>
    clear HG4 HB3 HM0
    obtain ⟨m,rfl,HA,HG,HB⟩:=hrel
    by_cases c2 : m < n
    ·have HK:=Aside0.mk c2
     have c2b : decide (m < n) = true:=decide_eq_true c2
     have c20 : (0 : Int) ≤ (m : Int):=by omega
     have c21 : (m : Int) ≤ (n : Int):=by omega
     obtain ⟨c,hc⟩ : ∃ c,c = Nat.min m (n - m):=⟨_,rfl⟩
     have HC:=Aside0.mk (show c = Nat.min m (n - m) ∧ c ≤ m ∧ m + c ≤ n ∧ 0 < c by
      have:=HA.out
      rw [hc]
      rcases Nat.le_total m (n - m) with h1 | h1
      ·rw [show Nat.min m (n - m) = m from Nat.min_eq_left h1];omega
      ·rw [show Nat.min m (n - m) = n - m from Nat.min_eq_right h1];omega)
     have hsum : IntKind.i64.wrap ((m : Int) + (c : Int)) = ((m + c : Nat) : Int):=by
      have:=HC.out;have:=HN.out
      rw [i64_w];unfold wrap64;omega
     have HG5:=Aside0.mk (show (World.drew wr).heap[w.heap.size]? = some (.cells (repCells z n m).toArray 3 (0,0)) from HG.out)
     have HF:=Aside0.mk (show m + (List.replicate c (Value.int .i64 z)).length ≤ (repCells z n m).length by
      have:=HC.out;have:=HA.out
      rw [List.length_replicate,repCells_length z n m this.1];omega)
     have HLn:=Aside0.mk (show (List.replicate c (Value.int .i64 z)).length = Nat.min m (n - m) by rw [List.length_replicate];exact HC.out.1)
     have hnm : (n = m) = False:=eq_false (by omega)
     clear c2 hc
     go_wp2
     go_region_held3 (fun _ => True) (trivial) ((refine step_copy_splice rfl (.tmp 41) (.tmp 44) 29 29 rfl 3 Try.underlying29 (by kernel_rfl) (some ⟨w.heap.size,m,none⟩) (some ⟨w.heap.size,0,none⟩) (n - m) (n - m) m n (by rfl) (by rfl) w.heap.size m (repCells z n m) 3 HG5.out (List.replicate c (.int .i64 z)) HLn.out (rp_pos2 HG5.out HC.out.2.1) HF.out rp_one w.heap.size w (below_drew1 HB.out) (Nat.le_refl _) ?_;intro w4 hg4 hb4;have HG6:=Aside0.mk hg4.out;have HB6:=Aside0.mk hb4;clear hg4 hb4))
     go_wp2
     have HG7:=Aside0.mk (by have h2:=HG6.out;rw [repCells_splice z n m c HC.out.2.2.1] at h2;exact h2)
     cases gk with
     | zero => exact absurd HA.out (by have:=HK.out;omega)
     | succ k1 =>
      go_roundg k1
      case measure => omega
      case rel => exact ⟨m + c,by (try simp only [List.length_replicate,goInt]);first | rfl | (rw [hsum];done) | (trace_state;simp;done) ,⟨by have:=HC.out;omega,by have:=HC.out;omega,by have:=HC.out;have:=HA.out;omega⟩,HG7,HB6⟩
    ·have hmn : m = n:=by have:=HA.out;omega
     subst hmn
     have c2b : decide (m < m) = false:=decide_eq_false c2
     clear c2
     go_wp2
     go_ret
     exact ⟨_,rfl,repCells_R HG.out (Nat.le_refl _) HN.out,HB.out⟩

/-! ### slices_Clone_int_int: function 80 (by hand: a row compared with nil) -/
def slices_Clone_int_int.f (l0 : List Int) : Option (List Int):=if l0.length < 17592186044416 then some l0 else none
/-- A row compared with nil. -/
theorem run_eql_rownil {P : Program} (w : World) (t e : TypeId) (a : Option Addr) (n c : Nat) (h : P.underlying t = some (.slice e)) : (binOp .eql t (.slice a n c) (.slice none 0 0)).run P w = .ok (.bool a.isNone) w:=by
 have h1 : ∀ d,(Op.equalIn (d + 1) t (.slice a n c) (.slice none 0 0)).run P w = .ok a.isNone w:=fun d => by cases a <;> simp [Op.equalIn,run_underlying h]
 simp only [binOp]
 simp [Op.equal,Op.maxDepth,h1 9999]
/-- An empty literal of numbers, just laid. -/
theorem R_lit0n (E : Nat) (W : World) : (Kd.int .i64).R E (W.alloc (.cells #[] E)) W.heap.size (fun _ => True) (.slice (some ⟨W.heap.size,0,none⟩) 0 0) ([] : List Int):=by
 refine ⟨fun _ _ => trivial,[],?_,⟨by simp,fun j p hj => by simp at hj⟩⟩
 have h2:=World.ownsRow_lit (base:=W.heap.size) (e:=E) (size:=1) W #[] 0 (Nat.le_refl _) (by simp [maxLen]) (by simp)
 change (W.alloc (.cells #[] E)).ownsRow W.heap.size E 1 _ 0 []
 simpa using h2
set_option maxHeartbeats 8000000 in
set_option maxRecDepth 100000 in
theorem slices_Clone_int_int.calls (A0 : Option Addr) (c0 : Nat) (l0 : List Int) (r : List Int) (w : World) (hr0 : Kd.C (Kd.int .i64) w A0 l0.length l0) (hc0 : l0.length ≤ c0) (h : slices_Clone_int_int.f l0 = some r) :
  Calls Try.prog 80 #[.slice A0 l0.length c0] w fun e w' => ∃ v0_ : Value,e = .returned (v0_) ∧ (Kd.int .i64).R 3 w' w.heap.size (fun _ => True) v0_ r ∧ Below w.heap.size w w':=by
 have HR0:=Aside0.mk hr0
 have HC0:=Aside0.mk hc0
 unfold slices_Clone_int_int.f at h
 by_cases c1 : l0.length < 17592186044416
 rotate_left
 ·rw [if_neg c1] at h;exact absurd h (by simp)
 rw [if_pos c1] at h
 obtain rfl:=Option.some.inj h
 have heq:=fun W => run_eql_rownil (P:=Try.prog) W 29 3 A0 l0.length c0 Try.underlying29
 have HLM:=Aside0.mk c1
 cases A0 with
 | none =>
  simp only [Option.isNone_none] at heq
  have hn : l0 = []:=by
   cases l0 with
   | nil => rfl
   | cons x q =>
    obtain ⟨_,e1,_⟩:=Kd.at_int hr0 0 (by omega) (by simp)
    cases e1
  subst hn
  simp only [List.length_nil] at heq
  clear h hr0 hc0 c1
  go_enter Try.func80,Try.ntmps80
  go_wp2
  go_ret
  exact ⟨_,rfl,Kd.R_nil _ _ _ _ _,Below.refl _ _⟩
 | some ad =>
  simp only [Option.isNone_some] at heq
  have hLit:=Aside0.mk (R_lit0n 3 w)
  have hBel:=Aside0.mk (below_alloc (Below.refl w.heap.size w) (.cells #[] 3))
  clear h hr0 hc0 c1
  go_enter Try.func80,Try.ntmps80
  go_wp2_with (first | ((with_reducible refine gate_builtin (b:=.append) (xs:=#[.tmp 5,.tmp 6]) rfl ?_);at_builtin;refine Kd.R_append_rows (Kd.int .i64) (w0:=w) w.heap.size rfl (.tmp 5) (.tmp 6) 29 3 (.int .i64 0) 8 rfl Try.underlying29 (by kernel_rfl) rfl (by decide) (by omega) (.slice (some ⟨w.heap.size,0,none⟩) 0 0) ([] : List Int) l0 _ _ _ (fun _ => True) (fun _ => False) rfl rfl ?aO ?aR (fun _ _ h => h) (fun _ h => h.elim) ?aF ?aB ?aS ?aL ?_;(case aR => exact Kd.C_below HR0.out hBel.out);(case aO => exact hLit.out);(case aF => exact fun _ _ => trivial);(case aB => exact hBel.out);(case aS => exact hBel.out.size);(case aL => have:=HLM.out;simp;omega);intro v7 w7 ho hb hg hat;rw [List.nil_append] at ho;obtain ⟨Av,cv,ev⟩:=Kd.R_slice ho;subst ev;have HO:=Aside0.mk ho;have HB:=Aside0.mk hb;clear ho hb hg hat))
  go_ret
  exact ⟨_,rfl,HO.out,HB.out⟩

/-! ### slices_Max_int_int: function 68 -/
def slices_Max_int_int.l0 : Nat → List Int → Int → Int → Option (Int)
 | 0,_,_,_ => none
 | k + 1,x0,x3,x4 => if x4 < (x0.length : Int) then (if 0 ≤ x4 then (slices_Max_int_int.l0 k x0 (mx x3 (rd x0 x4)) (wrap64 (x4 + 1))) else (none)) else (some x3)
def slices_Max_int_int.f (k : Nat) (l0 : List Int) : Option (Int):=if (l0.length : Int) < 1 then (none) else (if 0 < (l0.length : Int) then (slices_Max_int_int.l0 k l0 (rd l0 0) 1) else (none))
theorem slices_Max_int_int.mono_l : ∀ k,(∀ y0 y1 y2,LeO (slices_Max_int_int.l0 k y0 y1 y2) (slices_Max_int_int.l0 (k + 1) y0 y1 y2))
 | 0 => fun _ _ _ r h => by simp [slices_Max_int_int.l0] at h
 | k + 1 => by
  have ih0:=slices_Max_int_int.mono_l k
  ·intro y0 y1 y2
   unfold slices_Max_int_int.l0
   repeat' first
   | (with_reducible exact ih0 _ _ _)
   | (with_reducible exact LeO.refl _)
   | (with_reducible exact LeO.none _)
   | (with_reducible refine LeO.ite ?_ ?_)
   | (with_reducible refine LeO.bind ?_ (fun _ => ?_))
   | exact ih0 _ _ _
   | exact LeO.none _
   | refine LeO.ite ?_ ?_
   | refine LeO.bind ?_ (fun _ => ?_)
theorem slices_Max_int_int.mono : ∀ a0 k,LeO (slices_Max_int_int.f k a0) (slices_Max_int_int.f (k + 1) a0):=by
 intro a0 k
 have ih0:=slices_Max_int_int.mono_l k
 unfold slices_Max_int_int.f
 repeat' first
   | (with_reducible exact ih0 _ _ _)
   | (with_reducible exact LeO.refl _)
   | (with_reducible exact LeO.none _)
   | (with_reducible refine LeO.ite ?_ ?_)
   | (with_reducible refine LeO.bind ?_ (fun _ => ?_))
   | exact ih0 _ _ _
   | exact LeO.none _
   | refine LeO.ite ?_ ?_
   | refine LeO.bind ?_ (fun _ => ?_)
set_option maxHeartbeats 8000000 in
set_option maxRecDepth 100000 in
theorem slices_Max_int_int.calls (k : Nat) (A0 : Option Addr) (c0 : Nat) (l0 : List Int) (r : Int) (w : World) (hr0 : Kd.C (Kd.int .i64) w A0 l0.length l0) (hc0 : l0.length ≤ c0) (h : slices_Max_int_int.f k l0 = some r) :
  Calls Try.prog 68 #[.slice A0 l0.length c0] w fun e w' => e = .returned (.int .i64 r) ∧ Below w.heap.size w w':=by
 have HR0:=Aside0.mk hr0
 have HC0:=Aside0.mk hc0
 clear hr0 hc0
 have HB:=Aside0.mk (Below.refl w.heap.size w)
 have H : (if (l0.length : Int) < 1 then (none) else (if 0 < (l0.length : Int) then (slices_Max_int_int.l0 k l0 (rd l0 0) 1) else (none))) = some r:=h
 clear h
 by_cases c2 : (l0.length : Int) < 1
 ·rw [if_pos c2] at H
  exact absurd H (by simp)
 ·rw [if_neg c2] at H
  have c2b0 : decide ((l0.length : Int) < 1) = false:=decide_eq_false c2
  have c2b1 : decide (l0.length < 1) = false:=decide_eq_false (by omega)
  clear c2
  by_cases c3 : 0 < (l0.length : Int)
  ·rw [if_pos c3] at H
   have c3b0 : decide (0 < (l0.length : Int)) = true:=decide_eq_true c3
   have c3b1 : decide (0 < l0.length) = true:=decide_eq_true (by omega)
   clear c3
   have H':=Aside0.mk H
   clear H
   have p281 : 0 ≤ (0 : Int):=(by omega)
   have q281 : 0 < (l0.length : Int):=of_decide_eq_true (by first | (with_reducible assumption) | assumption)
   obtain ⟨ad281,e281,hx281_0⟩:=Kd.at_int HR0.out 0 p281 q281
   cases e281
   have qi281 : (0 < l0.length) = True:=eq_true (by omega)
   (try rw [show ((0 : Int)).toNat = 0 from rfl] at hx281_0)
   (try rw [Addr.add_zero'] at hx281_0)
   replace p281:=eq_true p281
   replace q281:=eq_true q281
   go_enter Try.func68,Try.ntmps68
   go_wp2
   go_loopg [3,4] k (fun kq v3 v4 w' => ∃ (x3_1 : Int) (x4_1 : Int),v3 = .int .i64 x3_1 ∧ v4 = .int .i64 x4_1 ∧ Aside0 (slices_Max_int_int.l0 kq l0 x3_1 x4_1 = some r) ∧ Aside0 (kq ≤ k) ∧ Aside0 (Below w.heap.size w w'))
   case atStart => exact ⟨(rd l0 0),(1),(by first | rfl | (simp;done) | (simp [*];done)),(by first | rfl | (simp;done) | (simp [*];done)),H',⟨Nat.le_refl _⟩,⟨by repeat (first | (with_reducible first | exact HB.out | apply below_alloc | apply pw_below_drewN | apply below_drew1) | exact HB.out)⟩⟩
   case round =>
    clear H'
    try clear c2
    try clear c2b0
    try clear c2b1
    try clear p2
    try clear q2
    try clear hx2
    try clear qi2
    try clear c3
    try clear c3b0
    try clear c3b1
    try clear hx281_0
    try clear p281
    try clear q281
    obtain ⟨x3_1,x4_1,rfl,rfl,HA,HK1,HB⟩:=hrel
    cases gk with
    | zero => exact absurd HA.out (by simp [slices_Max_int_int.l0])
    | succ k1 =>
     have H:=HA.out
     clear HA
     simp only [slices_Max_int_int.l0] at H
     by_cases c4 : x4_1 < (l0.length : Int)
     ·rw [if_pos c4] at H
      have c4b0 : decide (x4_1 < (l0.length : Int)) = true:=decide_eq_true c4
      clear c4
      by_cases c5 : 0 ≤ x4_1
      ·rw [if_pos c5] at H
       have c5b0 : decide (0 ≤ x4_1) = true:=decide_eq_true c5
       clear c5
       obtain ⟨ji6,hji6⟩ : ∃ j_ : Int,(mx x3_1 (rd l0 x4_1)) = j_:=⟨_,rfl⟩
       replace H : (slices_Max_int_int.l0 k1 l0 ji6 (wrap64 (x4_1 + 1))) = some r:=by first | (rw [hji6] at H;exact H) | (simp only [hji6] at H ⊢;exact H)
       have hji6_ : (if x3_1 < (rd l0 x4_1) then (rd l0 x4_1) else x3_1) = ji6:=hji6
       have H':=Aside0.mk H
       clear H
       have p282 : 0 ≤ (x4_1 : Int):=of_decide_eq_true (by first | (with_reducible assumption) | assumption)
       have q282 : x4_1 < (l0.length : Int):=of_decide_eq_true (by first | (with_reducible assumption) | assumption)
       obtain ⟨ad282,e282,hx282_0⟩:=Kd.at_int HR0.out x4_1 p282 q282
       obtain rfl : ad281 = ad282:=(by injection e282)
       replace hx282_0:=(HB.out.cell (World.block_lt_of_cell? w _ hx282_0)).trans hx282_0
       replace p282:=eq_true p282
       replace q282:=eq_true q282
       go_wp2
       go_roundg k1
       case measure => have:=HK1.out;omega
       case rel => exact ⟨(ji6),(wrap64 (x4_1 + 1)),(by first | rfl | (simp;done) | (simp only [← hji6] <;> (first | rfl | simp)) | (simp [*];done)),(by first | rfl | (simp;done) | (simp [*];done)),H',⟨by have:=HK1.out;omega⟩,⟨by repeat (first | (with_reducible first | exact HB.out | apply below_alloc | apply pw_below_drewN | apply below_drew1) | exact HB.out)⟩⟩
      ·rw [if_neg c5] at H
       exact absurd H (by simp)
     ·rw [if_neg c4] at H
      have c4b0 : decide (x4_1 < (l0.length : Int)) = false:=decide_eq_false c4
      clear c4
      obtain rfl:=Option.some.inj H
      go_wp2
      go_ret
      exact ⟨by first | rfl | (simp [errW_none,errW_some] <;> rfl) | (simp [*,errW_none,errW_some] <;> rfl),by repeat (first | (with_reducible first | exact HB.out | apply below_alloc | apply pw_below_drewN | apply below_drew1) | exact HB.out)⟩
  ·rw [if_neg c3] at H
   exact absurd H (by simp)

/-! ### impl_Step_deepest: function 81 -/
def impl_Step_deepest.j0 : Nat → Int → Bool → Int → Int → List Int → Option (Int)
 | 0,_,_,_,_,_ => none
 | k + 1,x4,x5,x284000,x284001,x284002 => if x5 = true then (some x284001) else (if x4 = 22 then ((slices_Max_int_int.f k x284002).bind fun t284 => (some (mx x284001 t284))) else (some (-1)))
def impl_Step_deepest.f (k : Nat) (a0_0 : Int) (a0_1 : Int) (l0_2 : List Int) : Option (Int):=if a0_0 = 20 then (impl_Step_deepest.j0 k a0_0 (a0_0 == 20) a0_0 a0_1 l0_2) else (impl_Step_deepest.j0 k a0_0 (a0_0 == 21) a0_0 a0_1 l0_2)
theorem impl_Step_deepest.mono_l : ∀ k,(∀ y0 y1 y2 y3 y4,LeO (impl_Step_deepest.j0 k y0 y1 y2 y3 y4) (impl_Step_deepest.j0 (k + 1) y0 y1 y2 y3 y4))
 | 0 => fun _ _ _ _ _ r h => by simp [impl_Step_deepest.j0] at h
 | k + 1 => by
  have ih0:=impl_Step_deepest.mono_l k
  ·intro y0 y1 y2 y3 y4
   unfold impl_Step_deepest.j0
   repeat' first
   | (with_reducible exact ih0 _ _ _ _ _)
   | (with_reducible exact slices_Max_int_int.mono _ _)
   | (with_reducible exact LeO.refl _)
   | (with_reducible exact LeO.none _)
   | (with_reducible refine LeO.ite ?_ ?_)
   | (with_reducible refine LeO.bind ?_ (fun _ => ?_))
   | exact ih0 _ _ _ _ _
   | exact slices_Max_int_int.mono _ _
   | exact LeO.none _
   | refine LeO.ite ?_ ?_
   | refine LeO.bind ?_ (fun _ => ?_)
theorem impl_Step_deepest.mono : ∀ a0 a1 a2 k,LeO (impl_Step_deepest.f k a0 a1 a2) (impl_Step_deepest.f (k + 1) a0 a1 a2):=by
 intro a0 a1 a2 k
 have ih0:=impl_Step_deepest.mono_l k
 unfold impl_Step_deepest.f
 repeat' first
   | (with_reducible exact ih0 _ _ _ _ _)
   | (with_reducible exact slices_Max_int_int.mono _ _)
   | (with_reducible exact LeO.refl _)
   | (with_reducible exact LeO.none _)
   | (with_reducible refine LeO.ite ?_ ?_)
   | (with_reducible refine LeO.bind ?_ (fun _ => ?_))
   | exact ih0 _ _ _ _ _
   | exact slices_Max_int_int.mono _ _
   | exact LeO.none _
   | refine LeO.ite ?_ ?_
   | refine LeO.bind ?_ (fun _ => ?_)
set_option maxHeartbeats 8000000 in
set_option maxRecDepth 100000 in
theorem impl_Step_deepest.calls (k : Nat) (a0_0 : Int) (a0_1 : Int) (A0_2 : Option Addr) (c0_2 : Nat) (l0_2 : List Int) (r : Int) (w : World) (hr0_2 : Kd.C (Kd.int .i64) w A0_2 l0_2.length l0_2) (hc0_2 : l0_2.length ≤ c0_2) (h : impl_Step_deepest.f k a0_0 a0_1 l0_2 = some r) :
  Calls Try.prog 81 #[.agg #[.int .i64 a0_0,.int .i64 a0_1,.slice A0_2 l0_2.length c0_2]] w fun e w' => e = .returned (.int .i64 r) ∧ Below w.heap.size w w':=by
 have hu56:=Try.underlying56
 have HR0_2:=Aside0.mk hr0_2
 have HC0_2:=Aside0.mk hc0_2
 clear hr0_2 hc0_2
 have HB:=Aside0.mk (Below.refl w.heap.size w)
 have H : (if a0_0 = 20 then (impl_Step_deepest.j0 k a0_0 (a0_0 == 20) a0_0 a0_1 l0_2) else (impl_Step_deepest.j0 k a0_0 (a0_0 == 21) a0_0 a0_1 l0_2)) = some r:=h
 clear h
 have HC2:=Aside0.mk H
 clear H
 go_enter Try.func81,Try.ntmps81
 go_upto_if 5 with (first | ((with_reducible refine gate_dst (N:=1) rfl ?_);refine box_event ?hg (N:=1) ?hd (cs:=#[.int .i64 a0_0,.int .i64 a0_1,.slice A0_2 l0_2.length c0_2]) (t:=56) ?hr ?_;(case hd => rfl);(case hg => rfl);(case hr => first | (go_simp;done) | (go_simp;rfl));intro gb283 hg w3 hbox hb;have n0_:=Aside0.mk (below_step (by repeat (first | (with_reducible first | exact HB.out | apply below_alloc | apply pw_below_drewN | apply below_drew1) | exact HB.out)) hb);have n1_:=Aside0.mk (hbox);have n2_:=Aside0.mk ((by rw [hg];exact (below_size (by repeat (first | (with_reducible first | exact HB.out | apply below_alloc | apply pw_below_drewN | apply below_drew1) | exact HB.out))) : w.heap.size ≤ gb283));have n3_:=Aside0.mk ((by rw [hg];exact (below_size (by repeat (first | (with_reducible first | exact HB.out | apply below_alloc | apply pw_below_drewN | apply below_drew1) | exact HB.out))) : w.heap.size ≤ gb283));clear HB;have HB:=n0_;have BK283:=n1_;have GW283:=n2_;have GE283:=n3_;clear n0_ n1_ n2_ n3_;clear hb hbox hg;have hcz4_0 : w3.cell? ⟨gb283,0,none⟩ = some (.int .i64 a0_0):=(blk_cell BK283.out 0).trans rfl;have hcz4_1 : w3.cell? ⟨gb283,1,none⟩ = some (.int .i64 a0_1):=(blk_cell BK283.out 1).trans rfl;have hcz4_2 : w3.cell? ⟨gb283,2,none⟩ = some (.slice A0_2 l0_2.length c0_2):=(blk_cell BK283.out 2).trans rfl;have hfz4_0:=blk_frozen BK283.out 0;have hfz4_1:=blk_frozen BK283.out 1;have hfz4_2:=blk_frozen BK283.out 2))
 (try simp only [Act.put,List.setIfInBounds_toArray,List.set_cons_zero,List.set_cons_succ])
 go_cut [5] (fun v5 wc => ∃ (kq : Nat) (x5_1 : Bool),v5 = .bool x5_1 ∧ Aside0 (impl_Step_deepest.j0 kq a0_0 x5_1 a0_0 a0_1 l0_2 = some r) ∧ Aside0 (kq ≤ k) ∧ Aside0 (wc.heap[gb283]? = some (.cells #[.int .i64 a0_0,.int .i64 a0_1,(.slice A0_2 l0_2.length c0_2)] 56 (0,0))) ∧ Aside0 (Below w.heap.size w wc))
 case first =>
  have H:=HC2.out
  clear HC2
  by_cases c5 : a0_0 = 20
  ·rw [if_pos c5] at H
   have c5b0 : (a0_0 == 20) = true:=beq_iff_eq.mpr c5
   have c5b1 : (a0_0 != 20) = false:=bne_eq_false_iff_eq.mpr c5
   clear c5
   (first | rw [c5b0] | (simp only [i64_w,i32_w];rw [c5b0]) | skip)
   have H':=Aside0.mk H
   clear H
   go_wp2
   go_meet
   case rel => exact ⟨_,((a0_0 == 20)),(by first | rfl | (simp;done) | (simp [*];done)),H',⟨by first | omega | exact Nat.le_refl _⟩,⟨by (with_reducible repeat (first | refine blk_drewN ?_ _ | refine blk_drew ?_ | refine blk_alloc ?_ _));exact BK283.out⟩,⟨by repeat (first | (with_reducible first | exact HB.out | apply below_alloc | apply pw_below_drewN | apply below_drew1 | refine below_set ?_ GE283.out) | exact HB.out)⟩⟩
  ·rw [if_neg c5] at H
   have c5b0 : (a0_0 == 20) = false:=beq_eq_false_iff_ne.mpr c5
   have c5b1 : (a0_0 != 20) = true:=bne_iff_ne.mpr c5
   (first | rw [c5b0] | (simp only [i64_w,i32_w];rw [c5b0]) | skip)
   have H':=Aside0.mk H
   clear H
   go_wp2
   go_meet
   case rel => exact ⟨_,((a0_0 == 21)),(by first | rfl | (simp;done) | (simp [*];done)),H',⟨by first | omega | exact Nat.le_refl _⟩,⟨by (with_reducible repeat (first | refine blk_drewN ?_ _ | refine blk_drew ?_ | refine blk_alloc ?_ _));exact BK283.out⟩,⟨by repeat (first | (with_reducible first | exact HB.out | apply below_alloc | apply pw_below_drewN | apply below_drew1 | refine below_set ?_ GE283.out) | exact HB.out)⟩⟩
 case rest =>
  clear HC2
  try clear p2
  try clear c5
  try clear c5b0
  try clear c5b1
  try clear hcz4_0
  try clear hcz4_1
  try clear hcz4_2
  try clear hfz4_0
  try clear hfz4_1
  try clear hfz4_2
  obtain ⟨kq,x5_1,rfl,HA,HJ1,BK283,HB⟩:=hcut
  cases kq with
  | zero => exact absurd HA.out (by simp [impl_Step_deepest.j0])
  | succ kj1 =>
   have H:=HA.out
   clear HA
   simp only [impl_Step_deepest.j0] at H
   by_cases c6 : x5_1 = true
   ·subst c6
    have H1 : (some a0_1) = some r:=by rw [if_pos rfl] at H;exact H
    clear H
    have H:=H1
    clear H1
    obtain rfl:=Option.some.inj H
    have hcz7_0 : wc.cell? ⟨gb283,0,none⟩ = some (.int .i64 a0_0):=(blk_cell BK283.out 0).trans rfl
    have hcz7_1 : wc.cell? ⟨gb283,1,none⟩ = some (.int .i64 a0_1):=(blk_cell BK283.out 1).trans rfl
    have hcz7_2 : wc.cell? ⟨gb283,2,none⟩ = some (.slice A0_2 l0_2.length c0_2):=(blk_cell BK283.out 2).trans rfl
    have hfz7_0:=blk_frozen BK283.out 0
    have hfz7_1:=blk_frozen BK283.out 1
    have hfz7_2:=blk_frozen BK283.out 2
    go_wp2
    go_ret
    exact ⟨by first | rfl | (simp [errW_none,errW_some] <;> rfl) | (simp [*,errW_none,errW_some] <;> rfl),by repeat (first | (with_reducible first | exact HB.out | apply below_alloc | apply pw_below_drewN | apply below_drew1 | refine below_set ?_ GE283.out) | exact HB.out)⟩
   ·replace c6:=Bool.eq_false_iff.mpr c6
    subst c6
    have H1 : (if a0_0 = 22 then ((slices_Max_int_int.f kj1 l0_2).bind fun t284 => (some (mx a0_1 t284))) else (some (-1))) = some r:=by rw [if_neg (show ¬ (false = true) by decide)] at H;exact H
    clear H
    have H:=H1
    clear H1
    by_cases c8 : a0_0 = 22
    ·rw [if_pos c8] at H
     have c8b0 : (a0_0 == 22) = true:=beq_iff_eq.mpr c8
     have c8b1 : (a0_0 != 22) = false:=bne_eq_false_iff_eq.mpr c8
     clear c8
     replace H:=Option.bind_eq_some_iff.mp H
     obtain ⟨t284,A90,H⟩:=H
     replace H : (some (mx a0_1 t284)) = some r:=H
     have A9:=Aside0.mk A90
     clear A90
     obtain ⟨ji10,hji10⟩ : ∃ j_ : Int,(mx a0_1 t284) = j_:=⟨_,rfl⟩
     replace H : (some ji10) = some r:=by first | (rw [hji10] at H;exact H) | (simp only [hji10] at H ⊢;exact H)
     (try rw [hji10] at A9)
     have hji10_ : (if a0_1 < t284 then t284 else a0_1) = ji10:=hji10
     obtain rfl:=Option.some.inj H
     try go_wp2
     have n0_:=Aside0.mk (blk_drew BK283.out)
     have n1_:=Aside0.mk (below_drew1 HB.out)
     clear BK283
     clear HB
     have BK283:=n0_
     have HB:=n1_
     clear n0_ n1_
     refine start_ (n:=7) (S:=fun w' => w'.cell? ⟨gb283,0,none⟩ = some (.int .i64 a0_0) ∧ w'.cell? ⟨gb283,1,none⟩ = some (.int .i64 a0_1) ∧ w'.cell? ⟨gb283,2,none⟩ = some (.slice A0_2 l0_2.length c0_2)) (ds:=[]) #[false,false,false,false,false,false,false] (by kernel_rfl) rfl rfl ⟨(blk_cell BK283.out 0).trans rfl,(blk_cell BK283.out 1).trans rfl,(blk_cell BK283.out 2).trans rfl⟩ (fun hHeld => ?_)
     generalize wc.drew = w11 at BK283 HB hHeld ⊢
     refine pure_ (i:=0) (N:=some 12) (v:=?_) (a':=?_) #[true,false,false,false,false,false,false] rfl rfl (by kernel_rfl) (fun _ _ _ h => h) (Or.inl ⟨by rfl,?_⟩) ?_ ?_
     rotate_left
     ·intro w'
      go_simp
      with_reducible rfl
     rotate_left
     ·simp only [Act.put,List.setIfInBounds_toArray,List.set_cons_zero,List.set_cons_succ,i64_w,i32_w]
      rfl
     refine pure_ (i:=2) (N:=some 14) (v:=?_) (a':=?_) #[true,false,true,false,false,false,false] rfl rfl (by kernel_rfl) (fun _ _ _ h => h) (Or.inl ⟨by rfl,?_⟩) ?_ ?_
     rotate_left
     ·intro w'
      go_simp
      with_reducible rfl
     rotate_left
     ·simp only [Act.put,List.setIfInBounds_toArray,List.set_cons_zero,List.set_cons_succ,i64_w,i32_w]
      rfl
     refine take_ (i:=1) (N:=some 13) (v:=?_) (a':=?_) #[true,true,true,false,false,false,false] rfl rfl (by kernel_rfl) (fun _ _ _ h => h) (Or.inl ⟨by rfl,?_⟩) hHeld ?_ ?_
     rotate_left
     ·rintro w' ⟨s0,s1,s2⟩
      go_simp
      with_reducible rfl
     rotate_left
     ·simp only [Act.put,List.setIfInBounds_toArray,List.set_cons_zero,List.set_cons_succ,i64_w,i32_w]
      rfl
     refine take_ (i:=3) (N:=some 15) (v:=?_) (a':=?_) #[true,true,true,true,false,false,false] rfl rfl (by kernel_rfl) (fun _ _ _ h => h) (Or.inl ⟨by rfl,?_⟩) hHeld ?_ ?_
     rotate_left
     ·rintro w' ⟨s0,s1,s2⟩
      go_simp
      with_reducible rfl
     rotate_left
     ·simp only [Act.put,List.setIfInBounds_toArray,List.set_cons_zero,List.set_cons_succ,i64_w,i32_w]
      rfl
     refine one_ (i:=4) (N:=some 16) #[true,true,true,true,true,false,false] rfl rfl (by kernel_rfl) (by decide) (fun K hK => ?_)
     refine goes_ Try.func68 (by kernel_rfl) rfl #[.slice A0_2 l0_2.length c0_2] (by rfl) rfl rfl (by (try simp only [List.map_toArray,List.map_cons,List.map_nil]);first | done | rfl | (simp only [List.length_drop,List.length_take];rfl)) ?_
     with_reducible refine (slices_Max_int_int.calls kj1 _ _ l0_2 t284 _ ?side1 ?side2 A9.out).mono ?_
     (case side1 => repeat (first | exact (Kd.C_below HR0_2.out HB.out) | (with_reducible refine Kd.C_alloc ?_ _) | (with_reducible refine Kd.C_drewN ?_ _) | (with_reducible refine Kd.C_drew ?_)))
     (case side2 => exact HC0_2.out)
     rintro e w12 ⟨rfl,hb⟩
     refine ⟨_,rfl,?_⟩
     have n0_:=Aside0.mk (blk_below (g:=gb283) (o:=.cells #[.int .i64 a0_0,.int .i64 a0_1,.slice A0_2 l0_2.length c0_2] 56 (0,0)) (by (with_reducible repeat (first | refine blk_drewN ?_ _ | refine blk_drew ?_ | refine blk_alloc ?_ _));exact BK283.out) hb)
     have n1_:=Aside0.mk (below_step (by repeat (first | (with_reducible first | exact HB.out | apply below_alloc | apply pw_below_drewN | apply below_drew1 | refine below_set ?_ GE283.out) | exact HB.out)) hb)
     clear BK283
     clear HB
     have BK283:=n0_
     have HB:=n1_
     clear n0_ n1_
     (try clear hb)
     (try clear hb2)
     (try clear hk)
     (try clear hi)
     refine hK.out _ _ ⟨(blk_cell BK283.out 0).trans rfl,(blk_cell BK283.out 1).trans rfl,(blk_cell BK283.out 2).trans rfl⟩ (fun hHeld => ?_)
     clear hK K
     refine norm_ (a':=?_) ?_ ?_
     rotate_left
     ·show Act.put _ (some 16) _ = _
      simp only [Act.put,List.setIfInBounds_toArray,List.set_cons_zero,List.set_cons_succ,i64_w,i32_w]
      rfl
     refine pure_ (i:=5) (N:=some 17) (v:=?_) (a':=?_) #[true,true,true,true,true,true,false] rfl rfl (by kernel_rfl) (fun _ _ _ h => h) (Or.inl ⟨by rfl,?_⟩) ?_ ?_
     rotate_left
     ·intro w'
      go_simp
      with_reducible rfl
     rotate_left
     ·simp only [Act.put,List.setIfInBounds_toArray,List.set_cons_zero,List.set_cons_succ,i64_w,i32_w]
      rfl
     refine pure_ (i:=6) (N:=some 2) (v:=?_) (a':=?_) #[true,true,true,true,true,true,true] rfl rfl (by kernel_rfl) (fun _ _ _ h => h) (Or.inl ⟨by rfl,?_⟩) ?_ ?_
     rotate_left
     ·intro w'
      go_simp
      with_reducible rfl
     rotate_left
     ·simp only [Act.put,List.setIfInBounds_toArray,List.set_cons_zero,List.set_cons_succ,i64_w,i32_w]
      rfl
     refine done_ (by kernel_rfl) ?_
     try go_wp2
     go_ret
     exact ⟨by first | rfl | (simp [errW_none,errW_some] <;> rfl) | (simp only [← hji10];first | rfl | (simp [errW_none,errW_some] <;> rfl)) | (simp [*,errW_none,errW_some] <;> rfl),by repeat (first | (with_reducible first | exact HB.out | apply below_alloc | apply pw_below_drewN | apply below_drew1 | refine below_set ?_ GE283.out) | exact HB.out)⟩
    ·rw [if_neg c8] at H
     have c8b0 : (a0_0 == 22) = false:=beq_eq_false_iff_ne.mpr c8
     have c8b1 : (a0_0 != 22) = true:=bne_iff_ne.mpr c8
     obtain rfl:=Option.some.inj H
     go_wp2
     go_ret
     exact ⟨by first | rfl | (simp [errW_none,errW_some] <;> rfl) | (simp [*,errW_none,errW_some] <;> rfl),by repeat (first | (with_reducible first | exact HB.out | apply below_alloc | apply pw_below_drewN | apply below_drew1 | refine below_set ?_ GE283.out) | exact HB.out)⟩

/-! ### impl_opens: function 82 -/
def impl_opens.f (a0 : Int) : Option (Bool):=if a0 = 15 then (some true) else (if a0 = 16 then (some true) else (some (a0 == 17)))
set_option maxHeartbeats 8000000 in
set_option maxRecDepth 100000 in
theorem impl_opens.calls (a0 : Int) (r : Bool) (w : World) (h : impl_opens.f a0 = some r) :
  Calls Try.prog 82 #[.int .i64 a0] w fun e w' => e = .returned (.bool r) ∧ Drawn0 w w':=by
 have H : (if a0 = 15 then (some true) else (if a0 = 16 then (some true) else (some (a0 == 17)))) = some r:=h
 clear h
 by_cases c2 : a0 = 15
 ·rw [if_pos c2] at H
  have c2b0 : (a0 == 15) = true:=beq_iff_eq.mpr c2
  have c2b1 : (a0 != 15) = false:=bne_eq_false_iff_eq.mpr c2
  clear c2
  obtain rfl:=Option.some.inj H
  go_enter Try.func82,Try.ntmps82
  go_wp2
  go_ret
  exact ⟨by first | rfl | (simp;done) | (simp [*];done),by repeat (first | exact Drawn0.refl _ | apply Drawn0.step)⟩
 ·rw [if_neg c2] at H
  have c2b0 : (a0 == 15) = false:=beq_eq_false_iff_ne.mpr c2
  have c2b1 : (a0 != 15) = true:=bne_iff_ne.mpr c2
  by_cases c3 : a0 = 16
  ·rw [if_pos c3] at H
   have c3b0 : (a0 == 16) = true:=beq_iff_eq.mpr c3
   have c3b1 : (a0 != 16) = false:=bne_eq_false_iff_eq.mpr c3
   clear c3
   obtain rfl:=Option.some.inj H
   go_enter Try.func82,Try.ntmps82
   go_wp2
   go_ret
   exact ⟨by first | rfl | (simp;done) | (simp [*];done),by repeat (first | exact Drawn0.refl _ | apply Drawn0.step)⟩
  ·rw [if_neg c3] at H
   have c3b0 : (a0 == 16) = false:=beq_eq_false_iff_ne.mpr c3
   have c3b1 : (a0 != 16) = true:=bne_iff_ne.mpr c3
   obtain rfl:=Option.some.inj H
   go_enter Try.func82,Try.ntmps82
   go_wp2
   go_ret
   exact ⟨by first | rfl | (simp;done) | (simp [*];done),by repeat (first | exact Drawn0.refl _ | apply Drawn0.step)⟩

/-! ### impl_within: function 54 -/
def impl_within.f (a0 : Int) (a1 : Int) (a2 : Int) : Option (Bool):=if a0 ≥ a1 then (some (decide (a0 ≤ a2))) else (some false)
set_option maxHeartbeats 8000000 in
set_option maxRecDepth 100000 in
theorem impl_within.calls (a0 : Int) (a1 : Int) (a2 : Int) (r : Bool) (w : World) (h : impl_within.f a0 a1 a2 = some r) :
  Calls Try.prog 54 #[.int .i64 a0,.int .i64 a1,.int .i64 a2] w fun e w' => e = .returned (.bool r) ∧ Drawn0 w w':=by
 have H : (if a0 ≥ a1 then (some (decide (a0 ≤ a2))) else (some false)) = some r:=h
 clear h
 by_cases c4 : a0 ≥ a1
 ·rw [if_pos c4] at H
  have c4b0 : decide (a1 ≤ a0) = true:=decide_eq_true c4
  clear c4
  obtain rfl:=Option.some.inj H
  go_enter Try.func54,Try.ntmps54
  go_wp2
  go_ret
  exact ⟨by first | rfl | (simp;done) | (simp [*];done),by repeat (first | exact Drawn0.refl _ | apply Drawn0.step)⟩
 ·rw [if_neg c4] at H
  have c4b0 : decide (a1 ≤ a0) = false:=decide_eq_false c4
  clear c4
  obtain rfl:=Option.some.inj H
  go_enter Try.func54,Try.ntmps54
  go_wp2
  go_ret
  exact ⟨by first | rfl | (simp;done) | (simp [*];done),by repeat (first | exact Drawn0.refl _ | apply Drawn0.step)⟩

/-! ### impl_depthOK: function 96 -/
def impl_depthOK.f (a0 : Int) : Option (Bool):=(impl_within.f a0 0 8).bind fun t285 => (some t285)
set_option maxHeartbeats 8000000 in
set_option maxRecDepth 100000 in
theorem impl_depthOK.calls (a0 : Int) (r : Bool) (w : World) (h : impl_depthOK.f a0 = some r) :
  Calls Try.prog 96 #[.int .i64 a0] w fun e w' => e = .returned (.bool r) ∧ Drawn0 w w':=by
 have H : ((impl_within.f a0 0 8).bind fun t285 => (some t285)) = some r:=h
 clear h
 replace H:=Option.bind_eq_some_iff.mp H
 obtain ⟨t285,A20,H⟩:=H
 replace H : (some t285) = some r:=H
 have A2:=Aside0.mk A20
 clear A20
 obtain rfl:=Option.some.inj H
 go_enter Try.func96,Try.ntmps96
 go_wp2_with (first | ((with_reducible refine gate_callee (f:=54) rfl ?_);refine goesL_ (some 4) rfl rfl Try.func54 (by kernel_rfl) rfl #[.int .i64 a0,.int .i64 0,.int .i64 8] rfl (by (try simp only [List.map_toArray,List.map_cons,List.map_nil]);first | done | rfl | (simp only [List.length_drop,List.length_take];rfl)) ?_;(with_reducible refine (impl_within.calls a0 0 8 t285 _ A2.out).mono ?_);rintro e w' ⟨rfl,⟨nd,rfl⟩⟩;refine ⟨_,rfl,?_⟩))
 go_ret
 exact ⟨by first | rfl | (simp;done) | (simp [*];done),by repeat (first | exact Drawn0.refl _ | apply Drawn0.step)⟩

/-! ### impl_stepOK_1: function 98 -/
def impl_stepOK_1.f (a0 : Int) : Option (Bool):=(impl_depthOK.f a0).bind fun t286 => (some (!t286))
set_option maxHeartbeats 8000000 in
set_option maxRecDepth 100000 in
theorem impl_stepOK_1.calls (a0 : Int) (r : Bool) (w : World) (h : impl_stepOK_1.f a0 = some r) :
  Calls Try.prog 98 #[.int .i64 a0] w fun e w' => e = .returned (.bool r) ∧ Drawn0 w w':=by
 have H : ((impl_depthOK.f a0).bind fun t286 => (some (!t286))) = some r:=h
 clear h
 replace H:=Option.bind_eq_some_iff.mp H
 obtain ⟨t286,A20,H⟩:=H
 replace H : (some (!t286)) = some r:=H
 have A2:=Aside0.mk A20
 clear A20
 obtain rfl:=Option.some.inj H
 go_enter Try.func98,Try.ntmps98
 go_wp2_with (first | ((with_reducible refine gate_callee (f:=96) rfl ?_);refine goesL_ (some 4) rfl rfl Try.func96 (by kernel_rfl) rfl #[.int .i64 a0] rfl (by (try simp only [List.map_toArray,List.map_cons,List.map_nil]);first | done | rfl | (simp only [List.length_drop,List.length_take];rfl)) ?_;(with_reducible refine (impl_depthOK.calls a0 t286 _ A2.out).mono ?_);rintro e w' ⟨rfl,⟨nd,rfl⟩⟩;refine ⟨_,rfl,?_⟩))
 go_ret
 exact ⟨by first | rfl | (simp;done) | (simp [*];done),by repeat (first | exact Drawn0.refl _ | apply Drawn0.step)⟩

end Go.Proofs.Ytmljikgegclolaa.Q
