-- WRITTEN BY A PROGRAM OF THIS SESSION
import Derived.Test.YthgkhfhfahifmaaQ0
import Derived.Test.YthgkhfhfahifmaaQ1
import Derived.Test.YthgkhfhfahifmaaQ3
import Derived.Test.YthgkhfhfahifmaaQ4
import Derived.Test.YthgkhfhfahifmaaQ10
import Derived.Test.YthgkhfhfahifmaaQ18
namespace Go.Proofs.Ythgkhfhfahifmaa.Q
open Go.RowKit Go.Proofs.YthgkhfhfahifmaaW.PrintWords Go.Proofs.YthgkhfhfahifmaaW.PrintLast Go.Proofs.YthgkhfhfahifmaaW.PrintMore
attribute [local go_sem] max2_int min2_int max_two min_two max_three min_three max_four min_four   -- for this text's walks alone
set_option linter.unusedVariables false
set_option linter.unusedSimpArgs false

-- WRITTEN BY lawgen.py
/-! ### laws_FnExactJoinFlow: function 8 (by lawgen.py: rows in rows are marked) -/
def laws_FnExactJoinFlow.f (k : Nat) (l0 : List (S53)) : Option Bool:=(laws_szBlockS.f k l0 1048576).bind fun t2 => (if t2 < 0 then (some true) else ((laws_toBlockS.f k l0).bind fun t7 => ((spec_JoinFlow.f k t7).bind fun bt16 => ((laws_toBlockS.f k l0).bind fun t26 => ((impl_JoinFlow.f k t26).bind fun bt35 => ((laws_eqBlockS.f k bt35.1 bt16.1).bind fun t45 => (if t45 = true then (if bt35.2 = bt16.2 then ((laws_toBlockS.f k l0).bind fun t50 => ((laws_eqBlockS.f k t26 t50).bind fun t59 => (if t59 = true then ((laws_markBlockS.f k t26 1).bind fun bt64 => (if bt64.1 < 0 then (none) else ((laws_eqBlockS.f k bt35.1 bt16.1).bind fun t71 => (if t71 = true then (if bt35.2 = bt16.2 then ((laws_markBlockS.f k bt35.1 1).bind fun bt76 => ((laws_heldBlockS.f k bt76.2 1).bind fun t83 => (if t83 < 0 then (none) else (if t83 = bt76.1 then ((laws_toBlockS.f k l0).bind fun t88 => ((impl_JoinFlow.f k t88).bind fun bt97 => ((laws_eqBlockS.f k bt97.1 bt16.1).bind fun t107 => (if t107 = true then (if bt97.2 = bt16.2 then ((laws_heldBlockS.f k bt76.2 1).bind fun t112 => (if t112 < 0 then (none) else (if t112 = bt76.1 then (some true) else none))) else none) else none)))) else none)))) else none) else none)))) else none))) else none) else none)))))))
theorem laws_FnExactJoinFlow.mono : ∀ a0 k,LeO (laws_FnExactJoinFlow.f k a0) (laws_FnExactJoinFlow.f (k + 1) a0):=by
 intro a0 k
 unfold laws_FnExactJoinFlow.f
 repeat' first
   | (with_reducible exact laws_szBlockS.mono _ _ _)
   | (with_reducible exact laws_toBlockS.mono _ _)
   | (with_reducible exact spec_JoinFlow.mono _ _)
   | (with_reducible exact impl_JoinFlow.mono _ _)
   | (with_reducible exact laws_eqBlockS.mono _ _ _)
   | (with_reducible exact laws_markBlockS.mono _ _ _)
   | (with_reducible exact laws_heldBlockS.mono _ _ _)
   | (with_reducible exact LeO.refl _)
   | (with_reducible exact LeO.none _)
   | (with_reducible refine LeO.ite ?_ ?_)
   | (with_reducible refine LeO.bind ?_ (fun _ => ?_))
set_option maxHeartbeats 8000000 in
set_option maxRecDepth 100000 in
theorem laws_FnExactJoinFlow.calls (k : Nat) (A0 : Option Addr) (c0 : Nat) (l0 : List (S53)) (r : Bool) (w : World) (hr0 : Kd.C k53 w A0 l0.length l0) (hc0 : l0.length ≤ c0) (h : laws_FnExactJoinFlow.f k l0 = some r) :
  Calls Try.prog 8 #[.slice A0 l0.length c0] w fun e w' => e = .returned (.bool r) ∧ Below w.heap.size w w':=by
 have HR0:=Aside0.mk hr0
 have HC0:=Aside0.mk hc0
 clear hr0 hc0
 have tok4 : Aside0 True:=⟨trivial⟩
 have tok9 : Aside0 True:=⟨trivial⟩
 have tok19 : Aside0 True:=⟨trivial⟩
 have tok28 : Aside0 True:=⟨trivial⟩
 have tok38 : Aside0 True:=⟨trivial⟩
 have tok47 : Aside0 True:=⟨trivial⟩
 have tok52 : Aside0 True:=⟨trivial⟩
 have tok61 : Aside0 True:=⟨trivial⟩
 have tok67 : Aside0 True:=⟨trivial⟩
 have tok73 : Aside0 True:=⟨trivial⟩
 have tok79 : Aside0 True:=⟨trivial⟩
 have tok85 : Aside0 True:=⟨trivial⟩
 have tok90 : Aside0 True:=⟨trivial⟩
 have tok100 : Aside0 True:=⟨trivial⟩
 have tok109 : Aside0 True:=⟨trivial⟩
 have tok114 : Aside0 True:=⟨trivial⟩
 have HB:=Aside0.mk (Below.refl w.heap.size w)
 unfold laws_FnExactJoinFlow.f at h
 have bq_ : ∀ b_ : Bool,(b_ != b_) = false:=by decide
 replace h:=Option.bind_eq_some_iff.mp h
 obtain ⟨t2,A10,h⟩:=h
 (try dsimp only at h)
 have A1:=Aside0.mk A10
 clear A10
 by_cases c1 : t2 < 0
 ·rw [if_pos c1] at h
  obtain rfl:=Option.some.inj h
  have c1b : decide (t2 < 0) = true:=decide_eq_true c1
  clear c1
  go_enter Try.func8,Try.ntmps8
  go_wp2_with (first | (go_at_call 9;have u_:=tok4;clear u_;((with_reducible refine (laws_szBlockS.calls k _ _ l0 1048576 t2 _ (Kd.C_below HR0.out HB.out) HC0.out A1.out).mono ?_));rintro e w3 ⟨rfl,hb⟩;have nb_:=Aside0.mk (below_step HB.out hb);clear HB;have HB:=nb_;clear nb_;have Z5:=Aside0.mk hb.size;clear hb tok4))
  go_ret
  exact ⟨rfl,HB.out⟩
 rw [if_neg c1] at h
 have c1b : decide (t2 < 0) = false:=decide_eq_false c1
 clear c1
 replace h:=Option.bind_eq_some_iff.mp h
 obtain ⟨t7,A60,h⟩:=h
 (try dsimp only at h)
 have A6:=Aside0.mk A60
 clear A60
 replace h:=Option.bind_eq_some_iff.mp h
 obtain ⟨⟨t16,t17⟩,A150,h⟩:=h
 (try dsimp only at h)
 have A15:=Aside0.mk A150
 clear A150
 replace h:=Option.bind_eq_some_iff.mp h
 obtain ⟨t26,A250,h⟩:=h
 (try dsimp only at h)
 have A25:=Aside0.mk A250
 clear A250
 replace h:=Option.bind_eq_some_iff.mp h
 obtain ⟨⟨t35,t36⟩,A340,h⟩:=h
 (try dsimp only at h)
 have A34:=Aside0.mk A340
 clear A340
 replace h:=Option.bind_eq_some_iff.mp h
 obtain ⟨t45,A440,h⟩:=h
 (try dsimp only at h)
 have A44:=Aside0.mk A440
 clear A440
 cases t45 with
 | false => exact absurd h (by simp)
 | true =>
  rw [if_pos rfl] at h
  by_cases c2 : t36 = t17
  rotate_left
  ·rw [if_neg c2] at h;exact absurd h (by simp)
  rw [if_pos c2] at h
  have c2b : (t36 != t17) = false:=by rw [c2];simp
  have c2d : (t36 == t17) = true:=by rw [c2];simp
  have C2:=Aside0.mk c2
  clear c2
  replace h:=Option.bind_eq_some_iff.mp h
  obtain ⟨t50,A490,h⟩:=h
  (try dsimp only at h)
  have A49:=Aside0.mk A490
  clear A490
  replace h:=Option.bind_eq_some_iff.mp h
  obtain ⟨t59,A580,h⟩:=h
  (try dsimp only at h)
  have A58:=Aside0.mk A580
  clear A580
  cases t59 with
  | false => exact absurd h (by simp)
  | true =>
   rw [if_pos rfl] at h
   replace h:=Option.bind_eq_some_iff.mp h
   obtain ⟨⟨t64,t65⟩,A630,h⟩:=h
   (try dsimp only at h)
   have A63:=Aside0.mk A630
   clear A630
   by_cases c3 : t64 < 0
   ·rw [if_pos c3] at h;exact absurd h (by simp)
   rw [if_neg c3] at h
   have c3b : decide (t64 < 0) = false:=decide_eq_false c3
   clear c3
   replace h:=Option.bind_eq_some_iff.mp h
   obtain ⟨t71,A700,h⟩:=h
   (try dsimp only at h)
   have A70:=Aside0.mk A700
   clear A700
   cases t71 with
   | false => exact absurd h (by simp)
   | true =>
    rw [if_pos rfl] at h
    by_cases c4 : t36 = t17
    rotate_left
    ·rw [if_neg c4] at h;exact absurd h (by simp)
    rw [if_pos c4] at h
    have c4b : (t36 != t17) = false:=by rw [c4];simp
    have c4d : (t36 == t17) = true:=by rw [c4];simp
    have C4:=Aside0.mk c4
    clear c4
    replace h:=Option.bind_eq_some_iff.mp h
    obtain ⟨⟨t76,t77⟩,A750,h⟩:=h
    (try dsimp only at h)
    have A75:=Aside0.mk A750
    clear A750
    replace h:=Option.bind_eq_some_iff.mp h
    obtain ⟨t83,A820,h⟩:=h
    (try dsimp only at h)
    have A82:=Aside0.mk A820
    clear A820
    by_cases c5 : t83 < 0
    ·rw [if_pos c5] at h;exact absurd h (by simp)
    rw [if_neg c5] at h
    have c5b : decide (t83 < 0) = false:=decide_eq_false c5
    clear c5
    by_cases c6 : t83 = t76
    rotate_left
    ·rw [if_neg c6] at h;exact absurd h (by simp)
    rw [if_pos c6] at h
    have c6b : (t83 != t76) = false:=by rw [c6];simp
    have c6d : (t83 == t76) = true:=by rw [c6];simp
    have C6:=Aside0.mk c6
    clear c6
    replace h:=Option.bind_eq_some_iff.mp h
    obtain ⟨t88,A870,h⟩:=h
    (try dsimp only at h)
    have A87:=Aside0.mk A870
    clear A870
    replace h:=Option.bind_eq_some_iff.mp h
    obtain ⟨⟨t97,t98⟩,A960,h⟩:=h
    (try dsimp only at h)
    have A96:=Aside0.mk A960
    clear A960
    replace h:=Option.bind_eq_some_iff.mp h
    obtain ⟨t107,A1060,h⟩:=h
    (try dsimp only at h)
    have A106:=Aside0.mk A1060
    clear A1060
    cases t107 with
    | false => exact absurd h (by simp)
    | true =>
     rw [if_pos rfl] at h
     by_cases c7 : t98 = t17
     rotate_left
     ·rw [if_neg c7] at h;exact absurd h (by simp)
     rw [if_pos c7] at h
     have c7b : (t98 != t17) = false:=by rw [c7];simp
     have c7d : (t98 == t17) = true:=by rw [c7];simp
     have C7:=Aside0.mk c7
     clear c7
     replace h:=Option.bind_eq_some_iff.mp h
     obtain ⟨t112,A1110,h⟩:=h
     (try dsimp only at h)
     have A111:=Aside0.mk A1110
     clear A1110
     by_cases c8 : t112 < 0
     ·rw [if_pos c8] at h;exact absurd h (by simp)
     rw [if_neg c8] at h
     have c8b : decide (t112 < 0) = false:=decide_eq_false c8
     clear c8
     by_cases c9 : t112 = t76
     rotate_left
     ·rw [if_neg c9] at h;exact absurd h (by simp)
     rw [if_pos c9] at h
     have c9b : (t112 != t76) = false:=by rw [c9];simp
     have c9d : (t112 == t76) = true:=by rw [c9];simp
     have C9:=Aside0.mk c9
     clear c9
     obtain rfl:=Option.some.inj h
     go_enter Try.func8,Try.ntmps8
     go_wp2_with (first | (go_at_call 9;have u_:=tok4;clear u_;((with_reducible refine (laws_szBlockS.calls k _ _ l0 1048576 t2 _ (Kd.C_below HR0.out HB.out) HC0.out A1.out).mono ?_));rintro e w3 ⟨rfl,hb⟩;have nb_:=Aside0.mk (below_step HB.out hb);clear HB;have HB:=nb_;clear nb_;have Z5:=Aside0.mk hb.size;clear hb tok4) | (go_at_call 11;have u_:=tok9;clear u_;((with_reducible refine (laws_toBlockS.calls k _ _ l0 t7 _ (Kd.C_below HR0.out HB.out) HC0.out A6.out).mono ?_));rintro e w8 ⟨v10,rfl,ho0,hb⟩;have nF11_:=Aside0.mk (OwnS.make HB.out hb ho0);have nb_:=Aside0.mk (below_step HB.out hb);clear HB;have HB:=nb_;clear nb_;have Z12:=Aside0.mk hb.size;have F11:=nF11_;clear nF11_;obtain ⟨Ao14,co14,eo14⟩:=Kd.S_slice F11.out;subst eo14;clear hb tok9 ho0) | (go_at_call 33;have u_:=tok19;clear u_;((with_reducible refine (spec_JoinFlow.calls k _ _ t7 t16 t17 _ (Kd.S_reads' F11.out).2.2 (S_cap F11.out) A15.out).mono ?_));rintro e w18 ⟨v20,rfl,ho0,hb⟩;have nF21_:=Aside0.mk (OwnS.make HB.out hb ho0);have n0_:=Aside0.mk (OwnS.below F11.out hb);have nb_:=Aside0.mk (below_step HB.out hb);clear F11 HB;have F11:=n0_;have HB:=nb_;clear n0_ nb_;have Z22:=Aside0.mk hb.size;have F21:=nF21_;clear nF21_;obtain ⟨Ao24,co24,eo24⟩:=Kd.S_slice F21.out;subst eo24;clear hb tok19 ho0) | (go_at_call 11;have u_:=tok28;clear u_;((with_reducible refine (laws_toBlockS.calls k _ _ l0 t26 _ (Kd.C_below HR0.out HB.out) HC0.out A25.out).mono ?_));rintro e w27 ⟨v29,rfl,ho0,hb⟩;have nF30_:=Aside0.mk (OwnS.make HB.out hb ho0);have n0_:=Aside0.mk (OwnS.below F11.out hb);have n1_:=Aside0.mk (OwnS.below F21.out hb);have nb_:=Aside0.mk (below_step HB.out hb);clear F11 F21 HB;have F11:=n0_;have F21:=n1_;have HB:=nb_;clear n0_ n1_ nb_;have Z31:=Aside0.mk hb.size;have F30:=nF30_;clear nF30_;obtain ⟨Ao33,co33,eo33⟩:=Kd.S_slice F30.out;subst eo33;clear hb tok28 ho0) | (go_at_call 34;have u_:=tok38;clear u_;((with_reducible refine (impl_JoinFlow.calls k _ _ t26 t35 t36 _ (Kd.S_reads' F30.out).2.2 (S_cap F30.out) A34.out).mono ?_));rintro e w37 ⟨v39,rfl,ho0,hb⟩;have nF40_:=Aside0.mk (OwnS.make HB.out hb ho0);have n0_:=Aside0.mk (OwnS.below F11.out hb);have n1_:=Aside0.mk (OwnS.below F21.out hb);have n2_:=Aside0.mk (OwnS.below F30.out hb);have nb_:=Aside0.mk (below_step HB.out hb);clear F11 F21 F30 HB;have F11:=n0_;have F21:=n1_;have F30:=n2_;have HB:=nb_;clear n0_ n1_ n2_ nb_;have Z41:=Aside0.mk hb.size;have F40:=nF40_;clear nF40_;obtain ⟨Ao43,co43,eo43⟩:=Kd.S_slice F40.out;subst eo43;clear hb tok38 ho0) | (go_at_call 13;have u_:=tok47;clear u_;((with_reducible refine (laws_eqBlockS.calls k _ _ t35 _ _ t16 true _ (Kd.S_reads' F40.out).2.2 (S_cap F40.out) (Kd.S_reads' F21.out).2.2 (S_cap F21.out) A44.out).mono ?_));rintro e w46 ⟨rfl,hb⟩;have n0_:=Aside0.mk (OwnS.below F11.out hb);have n1_:=Aside0.mk (OwnS.below F21.out hb);have n2_:=Aside0.mk (OwnS.below F30.out hb);have n3_:=Aside0.mk (OwnS.below F40.out hb);have nb_:=Aside0.mk (below_step HB.out hb);clear F11 F21 F30 F40 HB;have F11:=n0_;have F21:=n1_;have F30:=n2_;have F40:=n3_;have HB:=nb_;clear n0_ n1_ n2_ n3_ nb_;have Z48:=Aside0.mk hb.size;clear hb tok47) | (go_at_call 11;have u_:=tok52;clear u_;((with_reducible refine (laws_toBlockS.calls k _ _ l0 t50 _ (Kd.C_below HR0.out HB.out) HC0.out A49.out).mono ?_));rintro e w51 ⟨v53,rfl,ho0,hb⟩;have nF54_:=Aside0.mk (OwnS.make HB.out hb ho0);have n0_:=Aside0.mk (OwnS.below F11.out hb);have n1_:=Aside0.mk (OwnS.below F21.out hb);have n2_:=Aside0.mk (OwnS.below F30.out hb);have n3_:=Aside0.mk (OwnS.below F40.out hb);have nb_:=Aside0.mk (below_step HB.out hb);clear F11 F21 F30 F40 HB;have F11:=n0_;have F21:=n1_;have F30:=n2_;have F40:=n3_;have HB:=nb_;clear n0_ n1_ n2_ n3_ nb_;have Z55:=Aside0.mk hb.size;have F54:=nF54_;clear nF54_;obtain ⟨Ao57,co57,eo57⟩:=Kd.S_slice F54.out;subst eo57;clear hb tok52 ho0) | (go_at_call 13;have u_:=tok61;clear u_;((with_reducible refine (laws_eqBlockS.calls k _ _ t26 _ _ t50 true _ (Kd.S_reads' F30.out).2.2 (S_cap F30.out) (Kd.S_reads' F54.out).2.2 (S_cap F54.out) A58.out).mono ?_));rintro e w60 ⟨rfl,hb⟩;have n0_:=Aside0.mk (OwnS.below F11.out hb);have n1_:=Aside0.mk (OwnS.below F21.out hb);have n2_:=Aside0.mk (OwnS.below F30.out hb);have n3_:=Aside0.mk (OwnS.below F40.out hb);have n4_:=Aside0.mk (OwnS.below F54.out hb);have nb_:=Aside0.mk (below_step HB.out hb);clear F11 F21 F30 F40 F54 HB;have F11:=n0_;have F21:=n1_;have F30:=n2_;have F40:=n3_;have F54:=n4_;have HB:=nb_;clear n0_ n1_ n2_ n3_ n4_ nb_;have Z62:=Aside0.mk hb.size;clear hb tok61) | (go_at_call 17;have u_:=tok67;clear u_;((with_reducible refine (laws_markBlockS.calls k (fun k_ => w18.heap.size ≤ k_ ∧ k_ < w27.heap.size) (.slice Ao33 t26.length co33) t26 1 t64 t65 w _ HB.out F30.out A63.out).mono ?_));rintro e w66 ⟨rfl,hy,hb,hkp⟩;have Z68:=Aside0.mk hkp.1;have ny_ : Aside0 (OwnS k56 56 w w66 w18.heap.size w27.heap.size (.slice Ao33 t26.length co33) t65):=⟨hy⟩;have n0_:=Aside0.mk (OwnS.kept F11.out hkp (by have:=Z5.out;have:=Z12.out;have:=Z22.out;have:=Z31.out;have:=Z41.out;have:=Z48.out;have:=Z55.out;have:=Z62.out;omega));have n1_:=Aside0.mk (OwnS.kept F21.out hkp (by have:=Z5.out;have:=Z12.out;have:=Z22.out;have:=Z31.out;have:=Z41.out;have:=Z48.out;have:=Z55.out;have:=Z62.out;omega));have n3_:=Aside0.mk (OwnS.kept F40.out hkp (by have:=Z5.out;have:=Z12.out;have:=Z22.out;have:=Z31.out;have:=Z41.out;have:=Z48.out;have:=Z55.out;have:=Z62.out;omega));have n4_:=Aside0.mk (OwnS.kept F54.out hkp (by have:=Z5.out;have:=Z12.out;have:=Z22.out;have:=Z31.out;have:=Z41.out;have:=Z48.out;have:=Z55.out;have:=Z62.out;omega));have nb_:=Aside0.mk (hb);clear F11 F21 F40 F54 HB;have F11:=n0_;have F21:=n1_;have F40:=n3_;have F54:=n4_;have HB:=nb_;clear n0_ n1_ n3_ n4_ nb_;have F69:=ny_;clear ny_ hy hb hkp F30;clear tok67) | (go_at_call 13;have u_:=tok73;clear u_;((with_reducible refine (laws_eqBlockS.calls k _ _ t35 _ _ t16 true _ (Kd.S_reads' F40.out).2.2 (S_cap F40.out) (Kd.S_reads' F21.out).2.2 (S_cap F21.out) A70.out).mono ?_));rintro e w72 ⟨rfl,hb⟩;have n0_:=Aside0.mk (OwnS.below F11.out hb);have n1_:=Aside0.mk (OwnS.below F21.out hb);have n2_:=Aside0.mk (OwnS.below F69.out hb);have n3_:=Aside0.mk (OwnS.below F40.out hb);have n4_:=Aside0.mk (OwnS.below F54.out hb);have nb_:=Aside0.mk (below_step HB.out hb);clear F11 F21 F69 F40 F54 HB;have F11:=n0_;have F21:=n1_;have F69:=n2_;have F40:=n3_;have F54:=n4_;have HB:=nb_;clear n0_ n1_ n2_ n3_ n4_ nb_;have Z74:=Aside0.mk hb.size;clear hb tok73) | (go_at_call 17;have u_:=tok79;clear u_;((with_reducible refine (laws_markBlockS.calls k (fun k_ => w27.heap.size ≤ k_ ∧ k_ < w37.heap.size) (.slice Ao43 t35.length co43) t35 1 t76 t77 w _ HB.out F40.out A75.out).mono ?_));rintro e w78 ⟨rfl,hy,hb,hkp⟩;have Z80:=Aside0.mk hkp.1;have ny_ : Aside0 (OwnS k56 56 w w78 w27.heap.size w37.heap.size (.slice Ao43 t35.length co43) t77):=⟨hy⟩;have n0_:=Aside0.mk (OwnS.kept F11.out hkp (by have:=Z5.out;have:=Z12.out;have:=Z22.out;have:=Z31.out;have:=Z41.out;have:=Z48.out;have:=Z55.out;have:=Z62.out;have:=Z68.out;have:=Z74.out;omega));have n1_:=Aside0.mk (OwnS.kept F21.out hkp (by have:=Z5.out;have:=Z12.out;have:=Z22.out;have:=Z31.out;have:=Z41.out;have:=Z48.out;have:=Z55.out;have:=Z62.out;have:=Z68.out;have:=Z74.out;omega));have n2_:=Aside0.mk (OwnS.kept F69.out hkp (by have:=Z5.out;have:=Z12.out;have:=Z22.out;have:=Z31.out;have:=Z41.out;have:=Z48.out;have:=Z55.out;have:=Z62.out;have:=Z68.out;have:=Z74.out;omega));have n4_:=Aside0.mk (OwnS.kept F54.out hkp (by have:=Z5.out;have:=Z12.out;have:=Z22.out;have:=Z31.out;have:=Z41.out;have:=Z48.out;have:=Z55.out;have:=Z62.out;have:=Z68.out;have:=Z74.out;omega));have nb_:=Aside0.mk (hb);clear F11 F21 F69 F54 HB;have F11:=n0_;have F21:=n1_;have F69:=n2_;have F54:=n4_;have HB:=nb_;clear n0_ n1_ n2_ n4_ nb_;have F81:=ny_;clear ny_ hy hb hkp F40;clear tok79) | (go_at_call 32;have u_:=tok85;clear u_;refine calls_of_args (args':=#[.slice Ao43 t77.length co43,.int .i64 1]) (by first | (rw [show t77.length = t35.length from (Kd.S_reads' F81.out).1.symm];done) | (rw [show t77.length = t35.length from (Kd.S_reads' F81.out).1.symm];rfl)) ?_;((with_reducible refine (laws_heldBlockS.calls k _ _ t77 1 t83 _ (Kd.S_reads' F81.out).2.2 (S_cap F81.out) A82.out).mono ?_));rintro e w84 ⟨rfl,hd⟩;have hb:=hd.below;clear hd;have n0_:=Aside0.mk (OwnS.below F11.out hb);have n1_:=Aside0.mk (OwnS.below F21.out hb);have n2_:=Aside0.mk (OwnS.below F69.out hb);have n3_:=Aside0.mk (OwnS.below F81.out hb);have n4_:=Aside0.mk (OwnS.below F54.out hb);have nb_:=Aside0.mk (below_step HB.out hb);clear F11 F21 F69 F81 F54 HB;have F11:=n0_;have F21:=n1_;have F69:=n2_;have F81:=n3_;have F54:=n4_;have HB:=nb_;clear n0_ n1_ n2_ n3_ n4_ nb_;have Z86:=Aside0.mk hb.size;clear hb tok85) | (go_at_call 11;have u_:=tok90;clear u_;((with_reducible refine (laws_toBlockS.calls k _ _ l0 t88 _ (Kd.C_below HR0.out HB.out) HC0.out A87.out).mono ?_));rintro e w89 ⟨v91,rfl,ho0,hb⟩;have nF92_:=Aside0.mk (OwnS.make HB.out hb ho0);have n0_:=Aside0.mk (OwnS.below F11.out hb);have n1_:=Aside0.mk (OwnS.below F21.out hb);have n2_:=Aside0.mk (OwnS.below F69.out hb);have n3_:=Aside0.mk (OwnS.below F81.out hb);have n4_:=Aside0.mk (OwnS.below F54.out hb);have nb_:=Aside0.mk (below_step HB.out hb);clear F11 F21 F69 F81 F54 HB;have F11:=n0_;have F21:=n1_;have F69:=n2_;have F81:=n3_;have F54:=n4_;have HB:=nb_;clear n0_ n1_ n2_ n3_ n4_ nb_;have Z93:=Aside0.mk hb.size;have F92:=nF92_;clear nF92_;obtain ⟨Ao95,co95,eo95⟩:=Kd.S_slice F92.out;subst eo95;clear hb tok90 ho0) | (go_at_call 34;have u_:=tok100;clear u_;((with_reducible refine (impl_JoinFlow.calls k _ _ t88 t97 t98 _ (Kd.S_reads' F92.out).2.2 (S_cap F92.out) A96.out).mono ?_));rintro e w99 ⟨v101,rfl,ho0,hb⟩;have nF102_:=Aside0.mk (OwnS.make HB.out hb ho0);have n0_:=Aside0.mk (OwnS.below F11.out hb);have n1_:=Aside0.mk (OwnS.below F21.out hb);have n2_:=Aside0.mk (OwnS.below F69.out hb);have n3_:=Aside0.mk (OwnS.below F81.out hb);have n4_:=Aside0.mk (OwnS.below F54.out hb);have n5_:=Aside0.mk (OwnS.below F92.out hb);have nb_:=Aside0.mk (below_step HB.out hb);clear F11 F21 F69 F81 F54 F92 HB;have F11:=n0_;have F21:=n1_;have F69:=n2_;have F81:=n3_;have F54:=n4_;have F92:=n5_;have HB:=nb_;clear n0_ n1_ n2_ n3_ n4_ n5_ nb_;have Z103:=Aside0.mk hb.size;have F102:=nF102_;clear nF102_;obtain ⟨Ao105,co105,eo105⟩:=Kd.S_slice F102.out;subst eo105;clear hb tok100 ho0) | (go_at_call 13;have u_:=tok109;clear u_;((with_reducible refine (laws_eqBlockS.calls k _ _ t97 _ _ t16 true _ (Kd.S_reads' F102.out).2.2 (S_cap F102.out) (Kd.S_reads' F21.out).2.2 (S_cap F21.out) A106.out).mono ?_));rintro e w108 ⟨rfl,hb⟩;have n0_:=Aside0.mk (OwnS.below F11.out hb);have n1_:=Aside0.mk (OwnS.below F21.out hb);have n2_:=Aside0.mk (OwnS.below F69.out hb);have n3_:=Aside0.mk (OwnS.below F81.out hb);have n4_:=Aside0.mk (OwnS.below F54.out hb);have n5_:=Aside0.mk (OwnS.below F92.out hb);have n6_:=Aside0.mk (OwnS.below F102.out hb);have nb_:=Aside0.mk (below_step HB.out hb);clear F11 F21 F69 F81 F54 F92 F102 HB;have F11:=n0_;have F21:=n1_;have F69:=n2_;have F81:=n3_;have F54:=n4_;have F92:=n5_;have F102:=n6_;have HB:=nb_;clear n0_ n1_ n2_ n3_ n4_ n5_ n6_ nb_;have Z110:=Aside0.mk hb.size;clear hb tok109) | (go_at_call 32;have u_:=tok114;clear u_;refine calls_of_args (args':=#[.slice Ao43 t77.length co43,.int .i64 1]) (by first | (rw [show t77.length = t35.length from (Kd.S_reads' F81.out).1.symm];done) | (rw [show t77.length = t35.length from (Kd.S_reads' F81.out).1.symm];rfl)) ?_;((with_reducible refine (laws_heldBlockS.calls k _ _ t77 1 t112 _ (Kd.S_reads' F81.out).2.2 (S_cap F81.out) A111.out).mono ?_));rintro e w113 ⟨rfl,hd⟩;have hb:=hd.below;clear hd;have n0_:=Aside0.mk (OwnS.below F11.out hb);have n1_:=Aside0.mk (OwnS.below F21.out hb);have n2_:=Aside0.mk (OwnS.below F69.out hb);have n3_:=Aside0.mk (OwnS.below F81.out hb);have n4_:=Aside0.mk (OwnS.below F54.out hb);have n5_:=Aside0.mk (OwnS.below F92.out hb);have n6_:=Aside0.mk (OwnS.below F102.out hb);have nb_:=Aside0.mk (below_step HB.out hb);clear F11 F21 F69 F81 F54 F92 F102 HB;have F11:=n0_;have F21:=n1_;have F69:=n2_;have F81:=n3_;have F54:=n4_;have F92:=n5_;have F102:=n6_;have HB:=nb_;clear n0_ n1_ n2_ n3_ n4_ n5_ n6_ nb_;have Z115:=Aside0.mk hb.size;clear hb tok114))
     go_ret
     exact ⟨rfl,HB.out⟩

/-- THE ONE PURE STATEMENT of laws_FnExactJoinFlow: yours. -/
def laws_FnExactJoinFlow.Pure : Prop:=∀ (l0 : List (S53)),l0.length ≤ maxLen → (∀ x ∈ l0,Good53 x) → ∃ k,laws_FnExactJoinFlow.f k l0 = some true

end Go.Proofs.Ythgkhfhfahifmaa.Q
