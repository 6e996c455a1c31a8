-- WRITTEN BY A PROGRAM OF THIS SESSION
import Derived.Test.YthgkhfhfahifmaaQ0
import Derived.Test.YthgkhfhfahifmaaQ1
import Derived.Test.YthgkhfhfahifmaaQ4
import Derived.Test.YthgkhfhfahifmaaQ48
import Derived.Test.YthgkhfhfahifmaaQ49
import Derived.Test.YthgkhfhfahifmaaQ50
import Derived.Test.YthgkhfhfahifmaaQ51
namespace Go.Proofs.Ythgkhfhfahifmaa.Q
open Go.RowKit Go.Proofs.YthgkhfhfahifmaaW.PrintWords Go.Proofs.YthgkhfhfahifmaaW.PrintLast Go.Proofs.YthgkhfhfahifmaaW.PrintMore
attribute [local go_sem] max2_int min2_int max_two min_two max_three min_three max_four min_four   -- for this text's walks alone
set_option linter.unusedVariables false
set_option linter.unusedSimpArgs false

-- WRITTEN BY lawgen.py
/-! ### laws_FnExactGraphOf: function 4 (by lawgen.py: rows in rows are marked) -/
def laws_FnExactGraphOf.f (k : Nat) (l0 : List (S53)) : Option Bool:=(laws_szBlockS.f k l0 1048576).bind fun t2 => (if t2 < 0 then (some true) else ((laws_toBlockS.f k l0).bind fun t7 => ((spec_GraphOf.f k t7).bind fun bt16 => ((laws_toBlockS.f k l0).bind fun t31 => ((impl_GraphOf.f k t31).bind fun bt40 => ((laws_eqGraph.f k bt40.1 bt16.1).bind fun t55 => (if t55 = true then (if bt40.2 = bt16.2 then ((laws_toBlockS.f k l0).bind fun t60 => ((laws_eqBlockS.f k t31 t60).bind fun t69 => (if t69 = true then ((laws_markBlockS.f k t31 1).bind fun bt74 => (if bt74.1 < 0 then (none) else ((laws_eqGraph.f k bt40.1 bt16.1).bind fun t81 => (if t81 = true then (if bt40.2 = bt16.2 then ((laws_markGraph.f k bt40.1 1).bind fun bt86 => ((laws_heldGraph.f k bt86.2 1).bind fun t93 => (if t93 < 0 then (none) else (if t93 = bt86.1 then ((laws_toBlockS.f k l0).bind fun t98 => ((impl_GraphOf.f k t98).bind fun bt107 => ((laws_eqGraph.f k bt107.1 bt16.1).bind fun t122 => (if t122 = true then (if bt107.2 = bt16.2 then ((laws_heldGraph.f k bt86.2 1).bind fun t127 => (if t127 < 0 then (none) else (if t127 = bt86.1 then (some true) else none))) else none) else none)))) else none)))) else none) else none)))) else none))) else none) else none)))))))
theorem laws_FnExactGraphOf.mono : ∀ a0 k,LeO (laws_FnExactGraphOf.f k a0) (laws_FnExactGraphOf.f (k + 1) a0):=by
 intro a0 k
 unfold laws_FnExactGraphOf.f
 repeat' first
   | (with_reducible exact laws_szBlockS.mono _ _ _)
   | (with_reducible exact laws_toBlockS.mono _ _)
   | (with_reducible exact spec_GraphOf.mono _ _)
   | (with_reducible exact impl_GraphOf.mono _ _)
   | (with_reducible exact laws_eqGraph.mono _ _ _)
   | (with_reducible exact laws_eqBlockS.mono _ _ _)
   | (with_reducible exact laws_markBlockS.mono _ _ _)
   | (with_reducible exact laws_markGraph.mono _ _ _)
   | (with_reducible exact laws_heldGraph.mono _ _ _)
   | (with_reducible exact LeO.refl _)
   | (with_reducible exact LeO.none _)
   | (with_reducible refine LeO.ite ?_ ?_)
   | (with_reducible refine LeO.bind ?_ (fun _ => ?_))
set_option maxHeartbeats 8000000 in
set_option maxRecDepth 100000 in
theorem laws_FnExactGraphOf.calls (k : Nat) (A0 : Option Addr) (c0 : Nat) (l0 : List (S53)) (r : Bool) (w : World) (hr0 : Kd.C k53 w A0 l0.length l0) (hc0 : l0.length ≤ c0) (h : laws_FnExactGraphOf.f k l0 = some r) :
  Calls Try.prog 4 #[.slice A0 l0.length c0] w fun e w' => e = .returned (.bool r) ∧ Below w.heap.size w w':=by
 have hu31:=Try.underlying31
 have HR0:=Aside0.mk hr0
 have HC0:=Aside0.mk hc0
 clear hr0 hc0
 have tok4 : Aside0 True:=⟨trivial⟩
 have tok9 : Aside0 True:=⟨trivial⟩
 have tok19 : Aside0 True:=⟨trivial⟩
 have tok33 : Aside0 True:=⟨trivial⟩
 have tok43 : Aside0 True:=⟨trivial⟩
 have tok57 : Aside0 True:=⟨trivial⟩
 have tok62 : Aside0 True:=⟨trivial⟩
 have tok71 : Aside0 True:=⟨trivial⟩
 have tok77 : Aside0 True:=⟨trivial⟩
 have tok83 : Aside0 True:=⟨trivial⟩
 have tok89 : Aside0 True:=⟨trivial⟩
 have tok95 : Aside0 True:=⟨trivial⟩
 have tok100 : Aside0 True:=⟨trivial⟩
 have tok110 : Aside0 True:=⟨trivial⟩
 have tok124 : Aside0 True:=⟨trivial⟩
 have tok129 : Aside0 True:=⟨trivial⟩
 have HB:=Aside0.mk (Below.refl w.heap.size w)
 unfold laws_FnExactGraphOf.f at h
 have bq_ : ∀ b_ : Bool,(b_ != b_) = false:=by decide
 replace h:=Option.bind_eq_some_iff.mp h
 obtain ⟨t2,A10,h⟩:=h
 (try dsimp only at h)
 have A1:=Aside0.mk A10
 clear A10
 by_cases c1 : t2 < 0
 ·rw [if_pos c1] at h
  obtain rfl:=Option.some.inj h
  have c1b : decide (t2 < 0) = true:=decide_eq_true c1
  clear c1
  go_enter Try.func4,Try.ntmps4
  go_wp2_with (first | (go_at_call 9;have u_:=tok4;clear u_;((with_reducible refine (laws_szBlockS.calls k _ _ l0 1048576 t2 _ (Kd.C_below HR0.out HB.out) HC0.out A1.out).mono ?_));rintro e w3 ⟨rfl,hb⟩;have nb_:=Aside0.mk (below_step HB.out hb);clear HB;have HB:=nb_;clear nb_;have Z5:=Aside0.mk hb.size;clear hb tok4))
  go_ret
  exact ⟨rfl,HB.out⟩
 rw [if_neg c1] at h
 have c1b : decide (t2 < 0) = false:=decide_eq_false c1
 clear c1
 replace h:=Option.bind_eq_some_iff.mp h
 obtain ⟨t7,A60,h⟩:=h
 (try dsimp only at h)
 have A6:=Aside0.mk A60
 clear A60
 replace h:=Option.bind_eq_some_iff.mp h
 obtain ⟨⟨t16,t17⟩,A150,h⟩:=h
 (try dsimp only at h)
 have A15:=Aside0.mk A150
 clear A150
 replace h:=Option.bind_eq_some_iff.mp h
 obtain ⟨t31,A300,h⟩:=h
 (try dsimp only at h)
 have A30:=Aside0.mk A300
 clear A300
 replace h:=Option.bind_eq_some_iff.mp h
 obtain ⟨⟨t40,t41⟩,A390,h⟩:=h
 (try dsimp only at h)
 have A39:=Aside0.mk A390
 clear A390
 replace h:=Option.bind_eq_some_iff.mp h
 obtain ⟨t55,A540,h⟩:=h
 (try dsimp only at h)
 have A54:=Aside0.mk A540
 clear A540
 cases t55 with
 | false => exact absurd h (by simp)
 | true =>
  rw [if_pos rfl] at h
  by_cases c2 : t41 = t17
  rotate_left
  ·rw [if_neg c2] at h;exact absurd h (by simp)
  rw [if_pos c2] at h
  have c2b : (t41 != t17) = false:=by rw [c2];simp
  have c2d : (t41 == t17) = true:=by rw [c2];simp
  have C2:=Aside0.mk c2
  clear c2
  replace h:=Option.bind_eq_some_iff.mp h
  obtain ⟨t60,A590,h⟩:=h
  (try dsimp only at h)
  have A59:=Aside0.mk A590
  clear A590
  replace h:=Option.bind_eq_some_iff.mp h
  obtain ⟨t69,A680,h⟩:=h
  (try dsimp only at h)
  have A68:=Aside0.mk A680
  clear A680
  cases t69 with
  | false => exact absurd h (by simp)
  | true =>
   rw [if_pos rfl] at h
   replace h:=Option.bind_eq_some_iff.mp h
   obtain ⟨⟨t74,t75⟩,A730,h⟩:=h
   (try dsimp only at h)
   have A73:=Aside0.mk A730
   clear A730
   by_cases c3 : t74 < 0
   ·rw [if_pos c3] at h;exact absurd h (by simp)
   rw [if_neg c3] at h
   have c3b : decide (t74 < 0) = false:=decide_eq_false c3
   clear c3
   replace h:=Option.bind_eq_some_iff.mp h
   obtain ⟨t81,A800,h⟩:=h
   (try dsimp only at h)
   have A80:=Aside0.mk A800
   clear A800
   cases t81 with
   | false => exact absurd h (by simp)
   | true =>
    rw [if_pos rfl] at h
    by_cases c4 : t41 = t17
    rotate_left
    ·rw [if_neg c4] at h;exact absurd h (by simp)
    rw [if_pos c4] at h
    have c4b : (t41 != t17) = false:=by rw [c4];simp
    have c4d : (t41 == t17) = true:=by rw [c4];simp
    have C4:=Aside0.mk c4
    clear c4
    replace h:=Option.bind_eq_some_iff.mp h
    obtain ⟨⟨t86,t87⟩,A850,h⟩:=h
    (try dsimp only at h)
    have A85:=Aside0.mk A850
    clear A850
    replace h:=Option.bind_eq_some_iff.mp h
    obtain ⟨t93,A920,h⟩:=h
    (try dsimp only at h)
    have A92:=Aside0.mk A920
    clear A920
    by_cases c5 : t93 < 0
    ·rw [if_pos c5] at h;exact absurd h (by simp)
    rw [if_neg c5] at h
    have c5b : decide (t93 < 0) = false:=decide_eq_false c5
    clear c5
    by_cases c6 : t93 = t86
    rotate_left
    ·rw [if_neg c6] at h;exact absurd h (by simp)
    rw [if_pos c6] at h
    have c6b : (t93 != t86) = false:=by rw [c6];simp
    have c6d : (t93 == t86) = true:=by rw [c6];simp
    have C6:=Aside0.mk c6
    clear c6
    replace h:=Option.bind_eq_some_iff.mp h
    obtain ⟨t98,A970,h⟩:=h
    (try dsimp only at h)
    have A97:=Aside0.mk A970
    clear A970
    replace h:=Option.bind_eq_some_iff.mp h
    obtain ⟨⟨t107,t108⟩,A1060,h⟩:=h
    (try dsimp only at h)
    have A106:=Aside0.mk A1060
    clear A1060
    replace h:=Option.bind_eq_some_iff.mp h
    obtain ⟨t122,A1210,h⟩:=h
    (try dsimp only at h)
    have A121:=Aside0.mk A1210
    clear A1210
    cases t122 with
    | false => exact absurd h (by simp)
    | true =>
     rw [if_pos rfl] at h
     by_cases c7 : t108 = t17
     rotate_left
     ·rw [if_neg c7] at h;exact absurd h (by simp)
     rw [if_pos c7] at h
     have c7b : (t108 != t17) = false:=by rw [c7];simp
     have c7d : (t108 == t17) = true:=by rw [c7];simp
     have C7:=Aside0.mk c7
     clear c7
     replace h:=Option.bind_eq_some_iff.mp h
     obtain ⟨t127,A1260,h⟩:=h
     (try dsimp only at h)
     have A126:=Aside0.mk A1260
     clear A1260
     by_cases c8 : t127 < 0
     ·rw [if_pos c8] at h;exact absurd h (by simp)
     rw [if_neg c8] at h
     have c8b : decide (t127 < 0) = false:=decide_eq_false c8
     clear c8
     by_cases c9 : t127 = t86
     rotate_left
     ·rw [if_neg c9] at h;exact absurd h (by simp)
     rw [if_pos c9] at h
     have c9b : (t127 != t86) = false:=by rw [c9];simp
     have c9d : (t127 == t86) = true:=by rw [c9];simp
     have C9:=Aside0.mk c9
     clear c9
     obtain rfl:=Option.some.inj h
     go_enter Try.func4,Try.ntmps4
     go_wp2_with (first | (go_at_call 9;have u_:=tok4;clear u_;((with_reducible refine (laws_szBlockS.calls k _ _ l0 1048576 t2 _ (Kd.C_below HR0.out HB.out) HC0.out A1.out).mono ?_));rintro e w3 ⟨rfl,hb⟩;have nb_:=Aside0.mk (below_step HB.out hb);clear HB;have HB:=nb_;clear nb_;have Z5:=Aside0.mk hb.size;clear hb tok4) | (go_at_call 11;have u_:=tok9;clear u_;((with_reducible refine (laws_toBlockS.calls k _ _ l0 t7 _ (Kd.C_below HR0.out HB.out) HC0.out A6.out).mono ?_));rintro e w8 ⟨v10,rfl,ho0,hb⟩;have nF11_:=Aside0.mk (OwnS.make HB.out hb ho0);have nb_:=Aside0.mk (below_step HB.out hb);clear HB;have HB:=nb_;clear nb_;have Z12:=Aside0.mk hb.size;have F11:=nF11_;clear nF11_;obtain ⟨Ao14,co14,eo14⟩:=Kd.S_slice F11.out;subst eo14;clear hb tok9 ho0) | (go_at_call 14;have u_:=tok19;clear u_;((with_reducible refine (spec_GraphOf.calls k _ _ t7 t16 t17 _ (Kd.S_reads' F11.out).2.2 (S_cap F11.out) A15.out).mono ?_));rintro e w18 ⟨v20,rfl,ho0,hb⟩;have nF21_:=Aside0.mk (OwnS.make HB.out hb ho0);have n0_:=Aside0.mk (OwnS.below F11.out hb);have nb_:=Aside0.mk (below_step HB.out hb);clear F11 HB;have F11:=n0_;have HB:=nb_;clear n0_ nb_;have Z22:=Aside0.mk hb.size;have F21:=nF21_;clear nF21_;obtain ⟨Ao24,co24,eo24⟩:=Kd.S_slice F21.out;subst eo24;clear hb tok19 ho0) | ((with_reducible refine gate_dst (N:=4) rfl ?_);refine box_event ?hg (N:=4) ?hd (cs:=#[.slice none 0 0]) (t:=31) ?hr ?_;(case hd => rfl);(case hg => rfl);(case hr => first | (go_simp;done) | (go_simp;rfl));intro gb25 hg w27 hbox hb;have n0_:=Aside0.mk (OwnS.below F11.out hb);have n1_:=Aside0.mk (OwnS.below F21.out hb);have nb_:=Aside0.mk (below_step HB.out hb);clear F11 F21 HB;have F11:=n0_;have F21:=n1_;have HB:=nb_;clear n0_ n1_ nb_;have B26:=Aside0.mk hbox;have B26n:=Aside0.mk hg;have B26z:=Aside0.mk hb.size;have B26y:=Aside0.mk (blk_lt B26.out);clear hb hbox hg;have hczgb25 : w27.cell? ⟨gb25,0,none⟩ = some (.slice none 0 0):=(blk_cell B26.out 0).trans rfl;have hfzgb25:=blk_frozen B26.out 0) | ((with_reducible refine gate_store (t:=31) (p:=4) rfl ?_);refine store_event (t:=31) (p:=4) (v:=?vow28_) (w1:=(w27.setCell ⟨gb25,0,none⟩ (.slice Ao24 t16.length co24))) ?hg ?ho ?hn ?hr ?_;(case ho => rfl);(case hg => rfl);(case hn => rfl);(case hr => first | (go_simp;done) | (go_simp;rfl));intro w28 hw;(try clear hczgb25 hfzgb25);have n0_:=Aside0.mk (OwnS.stored hw F11.out (by have:=Z5.out;have:=Z12.out;have:=Z22.out;have:=B26z.out;have:=B26y.out;have:=B26n.out;omega));have n1_:=Aside0.mk (OwnS.stored hw F21.out (by have:=Z5.out;have:=Z12.out;have:=Z22.out;have:=B26z.out;have:=B26y.out;have:=B26n.out;omega));have m0_ : Aside0 (w28.heap[gb25]? = some (.cells #[.slice Ao24 t16.length co24] 31 (0,0))):=Aside0.mk (blk_stored0 hw B26.out rfl);have nb_:=Aside0.mk (below_stored hw HB.out (by have:=Z5.out;have:=Z12.out;have:=Z22.out;have:=B26z.out;have:=B26y.out;have:=B26n.out;omega));have Z29:=Aside0.mk (size_stored hw);clear F11 F21 B26 HB;have F11:=n0_;have F21:=n1_;have B26:=m0_;have HB:=nb_;clear n0_ n1_ m0_ nb_ hw;have hczgb25 : w28.cell? ⟨gb25,0,none⟩ = some (.slice Ao24 t16.length co24):=(blk_cell B26.out 0).trans rfl;have hfzgb25:=blk_frozen B26.out 0) | (go_at_call 11;have u_:=tok33;clear u_;((with_reducible refine (laws_toBlockS.calls k _ _ l0 t31 _ (Kd.C_below HR0.out HB.out) HC0.out A30.out).mono ?_));(try clear hczgb25 hfzgb25);rintro e w32 ⟨v34,rfl,ho0,hb⟩;have nF35_:=Aside0.mk (OwnS.make HB.out hb ho0);have n0_:=Aside0.mk (OwnS.below F11.out hb);have n1_:=Aside0.mk (OwnS.below F21.out hb);have m0_:=Aside0.mk (blk_below B26.out hb);have nb_:=Aside0.mk (below_step HB.out hb);clear F11 F21 B26 HB;have F11:=n0_;have F21:=n1_;have B26:=m0_;have HB:=nb_;clear n0_ n1_ m0_ nb_;have Z36:=Aside0.mk hb.size;have F35:=nF35_;clear nF35_;obtain ⟨Ao38,co38,eo38⟩:=Kd.S_slice F35.out;subst eo38;clear hb tok33 ho0;have hczgb25 : w32.cell? ⟨gb25,0,none⟩ = some (.slice Ao24 t16.length co24):=(blk_cell B26.out 0).trans rfl;have hfzgb25:=blk_frozen B26.out 0) | (go_at_call 15;have u_:=tok43;clear u_;((with_reducible refine (impl_GraphOf.calls k _ _ t31 t40 t41 _ (Kd.S_reads' F35.out).2.2 (S_cap F35.out) A39.out).mono ?_));(try clear hczgb25 hfzgb25);rintro e w42 ⟨v44,rfl,ho0,hb⟩;have nF45_:=Aside0.mk (OwnS.make HB.out hb ho0);have n0_:=Aside0.mk (OwnS.below F11.out hb);have n1_:=Aside0.mk (OwnS.below F21.out hb);have n2_:=Aside0.mk (OwnS.below F35.out hb);have m0_:=Aside0.mk (blk_below B26.out hb);have nb_:=Aside0.mk (below_step HB.out hb);clear F11 F21 F35 B26 HB;have F11:=n0_;have F21:=n1_;have F35:=n2_;have B26:=m0_;have HB:=nb_;clear n0_ n1_ n2_ m0_ nb_;have Z46:=Aside0.mk hb.size;have F45:=nF45_;clear nF45_;obtain ⟨Ao48,co48,eo48⟩:=Kd.S_slice F45.out;subst eo48;clear hb tok43 ho0;have hczgb25 : w42.cell? ⟨gb25,0,none⟩ = some (.slice Ao24 t16.length co24):=(blk_cell B26.out 0).trans rfl;have hfzgb25:=blk_frozen B26.out 0) | ((with_reducible refine gate_dst (N:=7) rfl ?_);refine box_event ?hg (N:=7) ?hd (cs:=#[.slice none 0 0]) (t:=31) ?hr ?_;(case hd => rfl);(case hg => rfl);(case hr => first | (go_simp;done) | (go_simp;rfl));intro gb49 hg w51 hbox hb;(try clear hczgb25 hfzgb25);have n0_:=Aside0.mk (OwnS.below F11.out hb);have n1_:=Aside0.mk (OwnS.below F21.out hb);have n2_:=Aside0.mk (OwnS.below F35.out hb);have n3_:=Aside0.mk (OwnS.below F45.out hb);have m0_:=Aside0.mk (blk_below B26.out hb);have nb_:=Aside0.mk (below_step HB.out hb);clear F11 F21 F35 F45 B26 HB;have F11:=n0_;have F21:=n1_;have F35:=n2_;have F45:=n3_;have B26:=m0_;have HB:=nb_;clear n0_ n1_ n2_ n3_ m0_ nb_;have B50:=Aside0.mk hbox;have B50n:=Aside0.mk hg;have B50z:=Aside0.mk hb.size;have B50y:=Aside0.mk (blk_lt B50.out);clear hb hbox hg;have hczgb25 : w51.cell? ⟨gb25,0,none⟩ = some (.slice Ao24 t16.length co24):=(blk_cell B26.out 0).trans rfl;have hfzgb25:=blk_frozen B26.out 0;have hczgb49 : w51.cell? ⟨gb49,0,none⟩ = some (.slice none 0 0):=(blk_cell B50.out 0).trans rfl;have hfzgb49:=blk_frozen B50.out 0) | ((with_reducible refine gate_store (t:=31) (p:=7) rfl ?_);refine store_event (t:=31) (p:=7) (v:=?vow52_) (w1:=(w51.setCell ⟨gb49,0,none⟩ (.slice Ao48 t40.length co48))) ?hg ?ho ?hn ?hr ?_;(case ho => rfl);(case hg => rfl);(case hn => rfl);(case hr => first | (go_simp;done) | (go_simp;rfl));intro w52 hw;(try clear hczgb25 hfzgb25);(try clear hczgb49 hfzgb49);have n0_:=Aside0.mk (OwnS.stored hw F11.out (by have:=Z5.out;have:=Z12.out;have:=Z22.out;have:=B26z.out;have:=B26y.out;have:=B26n.out;have:=Z29.out;have:=Z36.out;have:=Z46.out;have:=B50z.out;have:=B50y.out;have:=B50n.out;omega));have n1_:=Aside0.mk (OwnS.stored hw F21.out (by have:=Z5.out;have:=Z12.out;have:=Z22.out;have:=B26z.out;have:=B26y.out;have:=B26n.out;have:=Z29.out;have:=Z36.out;have:=Z46.out;have:=B50z.out;have:=B50y.out;have:=B50n.out;omega));have n2_:=Aside0.mk (OwnS.stored hw F35.out (by have:=Z5.out;have:=Z12.out;have:=Z22.out;have:=B26z.out;have:=B26y.out;have:=B26n.out;have:=Z29.out;have:=Z36.out;have:=Z46.out;have:=B50z.out;have:=B50y.out;have:=B50n.out;omega));have n3_:=Aside0.mk (OwnS.stored hw F45.out (by have:=Z5.out;have:=Z12.out;have:=Z22.out;have:=B26z.out;have:=B26y.out;have:=B26n.out;have:=Z29.out;have:=Z36.out;have:=Z46.out;have:=B50z.out;have:=B50y.out;have:=B50n.out;omega));have m0_ : Aside0 (w52.heap[gb25]? = some (.cells #[.slice Ao24 t16.length co24] 31 (0,0))):=Aside0.mk (blk_stored hw B26.out (by have:=Z5.out;have:=Z12.out;have:=Z22.out;have:=B26z.out;have:=B26y.out;have:=B26n.out;have:=Z29.out;have:=Z36.out;have:=Z46.out;have:=B50z.out;have:=B50y.out;have:=B50n.out;omega));have m1_ : Aside0 (w52.heap[gb49]? = some (.cells #[.slice Ao48 t40.length co48] 31 (0,0))):=Aside0.mk (blk_stored0 hw B50.out rfl);have nb_:=Aside0.mk (below_stored hw HB.out (by have:=Z5.out;have:=Z12.out;have:=Z22.out;have:=B26z.out;have:=B26y.out;have:=B26n.out;have:=Z29.out;have:=Z36.out;have:=Z46.out;have:=B50z.out;have:=B50y.out;have:=B50n.out;omega));have Z53:=Aside0.mk (size_stored hw);clear F11 F21 F35 F45 B26 B50 HB;have F11:=n0_;have F21:=n1_;have F35:=n2_;have F45:=n3_;have B26:=m0_;have B50:=m1_;have HB:=nb_;clear n0_ n1_ n2_ n3_ m0_ m1_ nb_ hw;have hczgb25 : w52.cell? ⟨gb25,0,none⟩ = some (.slice Ao24 t16.length co24):=(blk_cell B26.out 0).trans rfl;have hfzgb25:=blk_frozen B26.out 0;have hczgb49 : w52.cell? ⟨gb49,0,none⟩ = some (.slice Ao48 t40.length co48):=(blk_cell B50.out 0).trans rfl;have hfzgb49:=blk_frozen B50.out 0) | (go_at_call 16;have u_:=tok57;clear u_;((with_reducible refine (laws_eqGraph.calls k _ _ t40 _ _ t16 true _ (Kd.S_reads' F45.out).2.2 (S_cap F45.out) (Kd.S_reads' F21.out).2.2 (S_cap F21.out) A54.out).mono ?_));(try clear hczgb25 hfzgb25);(try clear hczgb49 hfzgb49);rintro e w56 ⟨rfl,hb⟩;have n0_:=Aside0.mk (OwnS.below F11.out hb);have n1_:=Aside0.mk (OwnS.below F21.out hb);have n2_:=Aside0.mk (OwnS.below F35.out hb);have n3_:=Aside0.mk (OwnS.below F45.out hb);have m0_:=Aside0.mk (blk_below B26.out hb);have m1_:=Aside0.mk (blk_below B50.out hb);have nb_:=Aside0.mk (below_step HB.out hb);clear F11 F21 F35 F45 B26 B50 HB;have F11:=n0_;have F21:=n1_;have F35:=n2_;have F45:=n3_;have B26:=m0_;have B50:=m1_;have HB:=nb_;clear n0_ n1_ n2_ n3_ m0_ m1_ nb_;have Z58:=Aside0.mk hb.size;clear hb tok57;have hczgb25 : w56.cell? ⟨gb25,0,none⟩ = some (.slice Ao24 t16.length co24):=(blk_cell B26.out 0).trans rfl;have hfzgb25:=blk_frozen B26.out 0;have hczgb49 : w56.cell? ⟨gb49,0,none⟩ = some (.slice Ao48 t40.length co48):=(blk_cell B50.out 0).trans rfl;have hfzgb49:=blk_frozen B50.out 0) | (go_at_call 11;have u_:=tok62;clear u_;((with_reducible refine (laws_toBlockS.calls k _ _ l0 t60 _ (Kd.C_below HR0.out HB.out) HC0.out A59.out).mono ?_));(try clear hczgb25 hfzgb25);(try clear hczgb49 hfzgb49);rintro e w61 ⟨v63,rfl,ho0,hb⟩;have nF64_:=Aside0.mk (OwnS.make HB.out hb ho0);have n0_:=Aside0.mk (OwnS.below F11.out hb);have n1_:=Aside0.mk (OwnS.below F21.out hb);have n2_:=Aside0.mk (OwnS.below F35.out hb);have n3_:=Aside0.mk (OwnS.below F45.out hb);have m0_:=Aside0.mk (blk_below B26.out hb);have m1_:=Aside0.mk (blk_below B50.out hb);have nb_:=Aside0.mk (below_step HB.out hb);clear F11 F21 F35 F45 B26 B50 HB;have F11:=n0_;have F21:=n1_;have F35:=n2_;have F45:=n3_;have B26:=m0_;have B50:=m1_;have HB:=nb_;clear n0_ n1_ n2_ n3_ m0_ m1_ nb_;have Z65:=Aside0.mk hb.size;have F64:=nF64_;clear nF64_;obtain ⟨Ao67,co67,eo67⟩:=Kd.S_slice F64.out;subst eo67;clear hb tok62 ho0;have hczgb25 : w61.cell? ⟨gb25,0,none⟩ = some (.slice Ao24 t16.length co24):=(blk_cell B26.out 0).trans rfl;have hfzgb25:=blk_frozen B26.out 0;have hczgb49 : w61.cell? ⟨gb49,0,none⟩ = some (.slice Ao48 t40.length co48):=(blk_cell B50.out 0).trans rfl;have hfzgb49:=blk_frozen B50.out 0) | (go_at_call 13;have u_:=tok71;clear u_;((with_reducible refine (laws_eqBlockS.calls k _ _ t31 _ _ t60 true _ (Kd.S_reads' F35.out).2.2 (S_cap F35.out) (Kd.S_reads' F64.out).2.2 (S_cap F64.out) A68.out).mono ?_));(try clear hczgb25 hfzgb25);(try clear hczgb49 hfzgb49);rintro e w70 ⟨rfl,hb⟩;have n0_:=Aside0.mk (OwnS.below F11.out hb);have n1_:=Aside0.mk (OwnS.below F21.out hb);have n2_:=Aside0.mk (OwnS.below F35.out hb);have n3_:=Aside0.mk (OwnS.below F45.out hb);have n4_:=Aside0.mk (OwnS.below F64.out hb);have m0_:=Aside0.mk (blk_below B26.out hb);have m1_:=Aside0.mk (blk_below B50.out hb);have nb_:=Aside0.mk (below_step HB.out hb);clear F11 F21 F35 F45 F64 B26 B50 HB;have F11:=n0_;have F21:=n1_;have F35:=n2_;have F45:=n3_;have F64:=n4_;have B26:=m0_;have B50:=m1_;have HB:=nb_;clear n0_ n1_ n2_ n3_ n4_ m0_ m1_ nb_;have Z72:=Aside0.mk hb.size;clear hb tok71;have hczgb25 : w70.cell? ⟨gb25,0,none⟩ = some (.slice Ao24 t16.length co24):=(blk_cell B26.out 0).trans rfl;have hfzgb25:=blk_frozen B26.out 0;have hczgb49 : w70.cell? ⟨gb49,0,none⟩ = some (.slice Ao48 t40.length co48):=(blk_cell B50.out 0).trans rfl;have hfzgb49:=blk_frozen B50.out 0) | (go_at_call 17;have u_:=tok77;clear u_;((with_reducible refine (laws_markBlockS.calls k (fun k_ => w28.heap.size ≤ k_ ∧ k_ < w32.heap.size) (.slice Ao38 t31.length co38) t31 1 t74 t75 w _ HB.out F35.out A73.out).mono ?_));(try clear hczgb25 hfzgb25);(try clear hczgb49 hfzgb49);rintro e w76 ⟨rfl,hy,hb,hkp⟩;have Z78:=Aside0.mk hkp.1;have ny_ : Aside0 (OwnS k56 56 w w76 w28.heap.size w32.heap.size (.slice Ao38 t31.length co38) t75):=⟨hy⟩;have n0_:=Aside0.mk (OwnS.kept F11.out hkp (by have:=Z5.out;have:=Z12.out;have:=Z22.out;have:=B26z.out;have:=B26y.out;have:=B26n.out;have:=Z29.out;have:=Z36.out;have:=Z46.out;have:=B50z.out;have:=B50y.out;have:=B50n.out;have:=Z53.out;have:=Z58.out;have:=Z65.out;have:=Z72.out;omega));have n1_:=Aside0.mk (OwnS.kept F21.out hkp (by have:=Z5.out;have:=Z12.out;have:=Z22.out;have:=B26z.out;have:=B26y.out;have:=B26n.out;have:=Z29.out;have:=Z36.out;have:=Z46.out;have:=B50z.out;have:=B50y.out;have:=B50n.out;have:=Z53.out;have:=Z58.out;have:=Z65.out;have:=Z72.out;omega));have n3_:=Aside0.mk (OwnS.kept F45.out hkp (by have:=Z5.out;have:=Z12.out;have:=Z22.out;have:=B26z.out;have:=B26y.out;have:=B26n.out;have:=Z29.out;have:=Z36.out;have:=Z46.out;have:=B50z.out;have:=B50y.out;have:=B50n.out;have:=Z53.out;have:=Z58.out;have:=Z65.out;have:=Z72.out;omega));have n4_:=Aside0.mk (OwnS.kept F64.out hkp (by have:=Z5.out;have:=Z12.out;have:=Z22.out;have:=B26z.out;have:=B26y.out;have:=B26n.out;have:=Z29.out;have:=Z36.out;have:=Z46.out;have:=B50z.out;have:=B50y.out;have:=B50n.out;have:=Z53.out;have:=Z58.out;have:=Z65.out;have:=Z72.out;omega));have m0_:=Aside0.mk (blk_kept B26.out hkp (by have:=B26n.out;have:=Z5.out;have:=Z12.out;have:=Z22.out;have:=B26z.out;have:=B26y.out;have:=B26n.out;have:=Z29.out;have:=Z36.out;have:=Z46.out;have:=B50z.out;have:=B50y.out;have:=B50n.out;have:=Z53.out;have:=Z58.out;have:=Z65.out;have:=Z72.out;intro h_;omega));have m1_:=Aside0.mk (blk_kept B50.out hkp (by have:=B50n.out;have:=Z5.out;have:=Z12.out;have:=Z22.out;have:=B26z.out;have:=B26y.out;have:=B26n.out;have:=Z29.out;have:=Z36.out;have:=Z46.out;have:=B50z.out;have:=B50y.out;have:=B50n.out;have:=Z53.out;have:=Z58.out;have:=Z65.out;have:=Z72.out;intro h_;omega));have nb_:=Aside0.mk (hb);clear F11 F21 F45 F64 B26 B50 HB;have F11:=n0_;have F21:=n1_;have F45:=n3_;have F64:=n4_;have B26:=m0_;have B50:=m1_;have HB:=nb_;clear n0_ n1_ n3_ n4_ m0_ m1_ nb_;have F79:=ny_;clear ny_ hy hb hkp F35;clear tok77;have hczgb25 : w76.cell? ⟨gb25,0,none⟩ = some (.slice Ao24 t16.length co24):=(blk_cell B26.out 0).trans rfl;have hfzgb25:=blk_frozen B26.out 0;have hczgb49 : w76.cell? ⟨gb49,0,none⟩ = some (.slice Ao48 t40.length co48):=(blk_cell B50.out 0).trans rfl;have hfzgb49:=blk_frozen B50.out 0) | (go_at_call 16;have u_:=tok83;clear u_;((with_reducible refine (laws_eqGraph.calls k _ _ t40 _ _ t16 true _ (Kd.S_reads' F45.out).2.2 (S_cap F45.out) (Kd.S_reads' F21.out).2.2 (S_cap F21.out) A80.out).mono ?_));(try clear hczgb25 hfzgb25);(try clear hczgb49 hfzgb49);rintro e w82 ⟨rfl,hb⟩;have n0_:=Aside0.mk (OwnS.below F11.out hb);have n1_:=Aside0.mk (OwnS.below F21.out hb);have n2_:=Aside0.mk (OwnS.below F79.out hb);have n3_:=Aside0.mk (OwnS.below F45.out hb);have n4_:=Aside0.mk (OwnS.below F64.out hb);have m0_:=Aside0.mk (blk_below B26.out hb);have m1_:=Aside0.mk (blk_below B50.out hb);have nb_:=Aside0.mk (below_step HB.out hb);clear F11 F21 F79 F45 F64 B26 B50 HB;have F11:=n0_;have F21:=n1_;have F79:=n2_;have F45:=n3_;have F64:=n4_;have B26:=m0_;have B50:=m1_;have HB:=nb_;clear n0_ n1_ n2_ n3_ n4_ m0_ m1_ nb_;have Z84:=Aside0.mk hb.size;clear hb tok83;have hczgb25 : w82.cell? ⟨gb25,0,none⟩ = some (.slice Ao24 t16.length co24):=(blk_cell B26.out 0).trans rfl;have hfzgb25:=blk_frozen B26.out 0;have hczgb49 : w82.cell? ⟨gb49,0,none⟩ = some (.slice Ao48 t40.length co48):=(blk_cell B50.out 0).trans rfl;have hfzgb49:=blk_frozen B50.out 0) | (go_at_call 18;have u_:=tok89;clear u_;((with_reducible refine (laws_markGraph.calls k (fun k_ => w32.heap.size ≤ k_ ∧ k_ < w42.heap.size) (.slice Ao48 t40.length co48) t40 1 t86 t87 w _ HB.out F45.out A85.out).mono ?_));(try clear hczgb25 hfzgb25);(try clear hczgb49 hfzgb49);rintro e w88 ⟨rfl,hy,hb,hkp⟩;have Z90:=Aside0.mk hkp.1;have ny_ : Aside0 (OwnS (Kd.slice 3 (Kd.int .i64)) 37 w w88 w32.heap.size w42.heap.size (.slice Ao48 t40.length co48) t87):=⟨hy⟩;have n0_:=Aside0.mk (OwnS.kept F11.out hkp (by have:=Z5.out;have:=Z12.out;have:=Z22.out;have:=B26z.out;have:=B26y.out;have:=B26n.out;have:=Z29.out;have:=Z36.out;have:=Z46.out;have:=B50z.out;have:=B50y.out;have:=B50n.out;have:=Z53.out;have:=Z58.out;have:=Z65.out;have:=Z72.out;have:=Z78.out;have:=Z84.out;omega));have n1_:=Aside0.mk (OwnS.kept F21.out hkp (by have:=Z5.out;have:=Z12.out;have:=Z22.out;have:=B26z.out;have:=B26y.out;have:=B26n.out;have:=Z29.out;have:=Z36.out;have:=Z46.out;have:=B50z.out;have:=B50y.out;have:=B50n.out;have:=Z53.out;have:=Z58.out;have:=Z65.out;have:=Z72.out;have:=Z78.out;have:=Z84.out;omega));have n2_:=Aside0.mk (OwnS.kept F79.out hkp (by have:=Z5.out;have:=Z12.out;have:=Z22.out;have:=B26z.out;have:=B26y.out;have:=B26n.out;have:=Z29.out;have:=Z36.out;have:=Z46.out;have:=B50z.out;have:=B50y.out;have:=B50n.out;have:=Z53.out;have:=Z58.out;have:=Z65.out;have:=Z72.out;have:=Z78.out;have:=Z84.out;omega));have n4_:=Aside0.mk (OwnS.kept F64.out hkp (by have:=Z5.out;have:=Z12.out;have:=Z22.out;have:=B26z.out;have:=B26y.out;have:=B26n.out;have:=Z29.out;have:=Z36.out;have:=Z46.out;have:=B50z.out;have:=B50y.out;have:=B50n.out;have:=Z53.out;have:=Z58.out;have:=Z65.out;have:=Z72.out;have:=Z78.out;have:=Z84.out;omega));have m0_:=Aside0.mk (blk_kept B26.out hkp (by have:=B26n.out;have:=Z5.out;have:=Z12.out;have:=Z22.out;have:=B26z.out;have:=B26y.out;have:=B26n.out;have:=Z29.out;have:=Z36.out;have:=Z46.out;have:=B50z.out;have:=B50y.out;have:=B50n.out;have:=Z53.out;have:=Z58.out;have:=Z65.out;have:=Z72.out;have:=Z78.out;have:=Z84.out;intro h_;omega));have m1_:=Aside0.mk (blk_kept B50.out hkp (by have:=B50n.out;have:=Z5.out;have:=Z12.out;have:=Z22.out;have:=B26z.out;have:=B26y.out;have:=B26n.out;have:=Z29.out;have:=Z36.out;have:=Z46.out;have:=B50z.out;have:=B50y.out;have:=B50n.out;have:=Z53.out;have:=Z58.out;have:=Z65.out;have:=Z72.out;have:=Z78.out;have:=Z84.out;intro h_;omega));have nb_:=Aside0.mk (hb);clear F11 F21 F79 F64 B26 B50 HB;have F11:=n0_;have F21:=n1_;have F79:=n2_;have F64:=n4_;have B26:=m0_;have B50:=m1_;have HB:=nb_;clear n0_ n1_ n2_ n4_ m0_ m1_ nb_;have F91:=ny_;clear ny_ hy hb hkp F45;clear tok89;have hczgb25 : w88.cell? ⟨gb25,0,none⟩ = some (.slice Ao24 t16.length co24):=(blk_cell B26.out 0).trans rfl;have hfzgb25:=blk_frozen B26.out 0;have hczgb49 : w88.cell? ⟨gb49,0,none⟩ = some (.slice Ao48 t40.length co48):=(blk_cell B50.out 0).trans rfl;have hfzgb49:=blk_frozen B50.out 0) | (go_at_call 19;have u_:=tok95;clear u_;refine calls_of_args (args':=#[.agg #[.slice Ao48 t87.length co48],.int .i64 1]) (by first | (rw [show t87.length = t40.length from (Kd.S_reads' F91.out).1.symm];done) | (rw [show t87.length = t40.length from (Kd.S_reads' F91.out).1.symm];rfl)) ?_;((with_reducible refine (laws_heldGraph.calls k _ _ t87 1 t93 _ (Kd.S_reads' F91.out).2.2 (S_cap F91.out) A92.out).mono ?_));(try clear hczgb25 hfzgb25);(try clear hczgb49 hfzgb49);rintro e w94 ⟨rfl,hb⟩;have n0_:=Aside0.mk (OwnS.below F11.out hb);have n1_:=Aside0.mk (OwnS.below F21.out hb);have n2_:=Aside0.mk (OwnS.below F79.out hb);have n3_:=Aside0.mk (OwnS.below F91.out hb);have n4_:=Aside0.mk (OwnS.below F64.out hb);have m0_:=Aside0.mk (blk_below B26.out hb);have m1_:=Aside0.mk (blk_below B50.out hb);have nb_:=Aside0.mk (below_step HB.out hb);clear F11 F21 F79 F91 F64 B26 B50 HB;have F11:=n0_;have F21:=n1_;have F79:=n2_;have F91:=n3_;have F64:=n4_;have B26:=m0_;have B50:=m1_;have HB:=nb_;clear n0_ n1_ n2_ n3_ n4_ m0_ m1_ nb_;have Z96:=Aside0.mk hb.size;clear hb tok95;have hczgb25 : w94.cell? ⟨gb25,0,none⟩ = some (.slice Ao24 t16.length co24):=(blk_cell B26.out 0).trans rfl;have hfzgb25:=blk_frozen B26.out 0;have hczgb49 : w94.cell? ⟨gb49,0,none⟩ = some (.slice Ao48 t40.length co48):=(blk_cell B50.out 0).trans rfl;have hfzgb49:=blk_frozen B50.out 0) | (go_at_call 11;have u_:=tok100;clear u_;((with_reducible refine (laws_toBlockS.calls k _ _ l0 t98 _ (Kd.C_below HR0.out HB.out) HC0.out A97.out).mono ?_));(try clear hczgb25 hfzgb25);(try clear hczgb49 hfzgb49);rintro e w99 ⟨v101,rfl,ho0,hb⟩;have nF102_:=Aside0.mk (OwnS.make HB.out hb ho0);have n0_:=Aside0.mk (OwnS.below F11.out hb);have n1_:=Aside0.mk (OwnS.below F21.out hb);have n2_:=Aside0.mk (OwnS.below F79.out hb);have n3_:=Aside0.mk (OwnS.below F91.out hb);have n4_:=Aside0.mk (OwnS.below F64.out hb);have m0_:=Aside0.mk (blk_below B26.out hb);have m1_:=Aside0.mk (blk_below B50.out hb);have nb_:=Aside0.mk (below_step HB.out hb);clear F11 F21 F79 F91 F64 B26 B50 HB;have F11:=n0_;have F21:=n1_;have F79:=n2_;have F91:=n3_;have F64:=n4_;have B26:=m0_;have B50:=m1_;have HB:=nb_;clear n0_ n1_ n2_ n3_ n4_ m0_ m1_ nb_;have Z103:=Aside0.mk hb.size;have F102:=nF102_;clear nF102_;obtain ⟨Ao105,co105,eo105⟩:=Kd.S_slice F102.out;subst eo105;clear hb tok100 ho0;have hczgb25 : w99.cell? ⟨gb25,0,none⟩ = some (.slice Ao24 t16.length co24):=(blk_cell B26.out 0).trans rfl;have hfzgb25:=blk_frozen B26.out 0;have hczgb49 : w99.cell? ⟨gb49,0,none⟩ = some (.slice Ao48 t40.length co48):=(blk_cell B50.out 0).trans rfl;have hfzgb49:=blk_frozen B50.out 0) | (go_at_call 15;have u_:=tok110;clear u_;((with_reducible refine (impl_GraphOf.calls k _ _ t98 t107 t108 _ (Kd.S_reads' F102.out).2.2 (S_cap F102.out) A106.out).mono ?_));(try clear hczgb25 hfzgb25);(try clear hczgb49 hfzgb49);rintro e w109 ⟨v111,rfl,ho0,hb⟩;have nF112_:=Aside0.mk (OwnS.make HB.out hb ho0);have n0_:=Aside0.mk (OwnS.below F11.out hb);have n1_:=Aside0.mk (OwnS.below F21.out hb);have n2_:=Aside0.mk (OwnS.below F79.out hb);have n3_:=Aside0.mk (OwnS.below F91.out hb);have n4_:=Aside0.mk (OwnS.below F64.out hb);have n5_:=Aside0.mk (OwnS.below F102.out hb);have m0_:=Aside0.mk (blk_below B26.out hb);have m1_:=Aside0.mk (blk_below B50.out hb);have nb_:=Aside0.mk (below_step HB.out hb);clear F11 F21 F79 F91 F64 F102 B26 B50 HB;have F11:=n0_;have F21:=n1_;have F79:=n2_;have F91:=n3_;have F64:=n4_;have F102:=n5_;have B26:=m0_;have B50:=m1_;have HB:=nb_;clear n0_ n1_ n2_ n3_ n4_ n5_ m0_ m1_ nb_;have Z113:=Aside0.mk hb.size;have F112:=nF112_;clear nF112_;obtain ⟨Ao115,co115,eo115⟩:=Kd.S_slice F112.out;subst eo115;clear hb tok110 ho0;have hczgb25 : w109.cell? ⟨gb25,0,none⟩ = some (.slice Ao24 t16.length co24):=(blk_cell B26.out 0).trans rfl;have hfzgb25:=blk_frozen B26.out 0;have hczgb49 : w109.cell? ⟨gb49,0,none⟩ = some (.slice Ao48 t40.length co48):=(blk_cell B50.out 0).trans rfl;have hfzgb49:=blk_frozen B50.out 0) | ((with_reducible refine gate_dst (N:=12) rfl ?_);refine box_event ?hg (N:=12) ?hd (cs:=#[.slice none 0 0]) (t:=31) ?hr ?_;(case hd => rfl);(case hg => rfl);(case hr => first | (go_simp;done) | (go_simp;rfl));intro gb116 hg w118 hbox hb;(try clear hczgb25 hfzgb25);(try clear hczgb49 hfzgb49);have n0_:=Aside0.mk (OwnS.below F11.out hb);have n1_:=Aside0.mk (OwnS.below F21.out hb);have n2_:=Aside0.mk (OwnS.below F79.out hb);have n3_:=Aside0.mk (OwnS.below F91.out hb);have n4_:=Aside0.mk (OwnS.below F64.out hb);have n5_:=Aside0.mk (OwnS.below F102.out hb);have n6_:=Aside0.mk (OwnS.below F112.out hb);have m0_:=Aside0.mk (blk_below B26.out hb);have m1_:=Aside0.mk (blk_below B50.out hb);have nb_:=Aside0.mk (below_step HB.out hb);clear F11 F21 F79 F91 F64 F102 F112 B26 B50 HB;have F11:=n0_;have F21:=n1_;have F79:=n2_;have F91:=n3_;have F64:=n4_;have F102:=n5_;have F112:=n6_;have B26:=m0_;have B50:=m1_;have HB:=nb_;clear n0_ n1_ n2_ n3_ n4_ n5_ n6_ m0_ m1_ nb_;have B117:=Aside0.mk hbox;have B117n:=Aside0.mk hg;have B117z:=Aside0.mk hb.size;have B117y:=Aside0.mk (blk_lt B117.out);clear hb hbox hg;have hczgb25 : w118.cell? ⟨gb25,0,none⟩ = some (.slice Ao24 t16.length co24):=(blk_cell B26.out 0).trans rfl;have hfzgb25:=blk_frozen B26.out 0;have hczgb49 : w118.cell? ⟨gb49,0,none⟩ = some (.slice Ao48 t40.length co48):=(blk_cell B50.out 0).trans rfl;have hfzgb49:=blk_frozen B50.out 0;have hczgb116 : w118.cell? ⟨gb116,0,none⟩ = some (.slice none 0 0):=(blk_cell B117.out 0).trans rfl;have hfzgb116:=blk_frozen B117.out 0) | ((with_reducible refine gate_store (t:=31) (p:=12) rfl ?_);refine store_event (t:=31) (p:=12) (v:=?vow119_) (w1:=(w118.setCell ⟨gb116,0,none⟩ (.slice Ao115 t107.length co115))) ?hg ?ho ?hn ?hr ?_;(case ho => rfl);(case hg => rfl);(case hn => rfl);(case hr => first | (go_simp;done) | (go_simp;rfl));intro w119 hw;(try clear hczgb25 hfzgb25);(try clear hczgb49 hfzgb49);(try clear hczgb116 hfzgb116);have n0_:=Aside0.mk (OwnS.stored hw F11.out (by have:=Z5.out;have:=Z12.out;have:=Z22.out;have:=B26z.out;have:=B26y.out;have:=B26n.out;have:=Z29.out;have:=Z36.out;have:=Z46.out;have:=B50z.out;have:=B50y.out;have:=B50n.out;have:=Z53.out;have:=Z58.out;have:=Z65.out;have:=Z72.out;have:=Z78.out;have:=Z84.out;have:=Z90.out;have:=Z96.out;have:=Z103.out;have:=Z113.out;have:=B117z.out;have:=B117y.out;have:=B117n.out;omega));have n1_:=Aside0.mk (OwnS.stored hw F21.out (by have:=Z5.out;have:=Z12.out;have:=Z22.out;have:=B26z.out;have:=B26y.out;have:=B26n.out;have:=Z29.out;have:=Z36.out;have:=Z46.out;have:=B50z.out;have:=B50y.out;have:=B50n.out;have:=Z53.out;have:=Z58.out;have:=Z65.out;have:=Z72.out;have:=Z78.out;have:=Z84.out;have:=Z90.out;have:=Z96.out;have:=Z103.out;have:=Z113.out;have:=B117z.out;have:=B117y.out;have:=B117n.out;omega));have n2_:=Aside0.mk (OwnS.stored hw F79.out (by have:=Z5.out;have:=Z12.out;have:=Z22.out;have:=B26z.out;have:=B26y.out;have:=B26n.out;have:=Z29.out;have:=Z36.out;have:=Z46.out;have:=B50z.out;have:=B50y.out;have:=B50n.out;have:=Z53.out;have:=Z58.out;have:=Z65.out;have:=Z72.out;have:=Z78.out;have:=Z84.out;have:=Z90.out;have:=Z96.out;have:=Z103.out;have:=Z113.out;have:=B117z.out;have:=B117y.out;have:=B117n.out;omega));have n3_:=Aside0.mk (OwnS.stored hw F91.out (by have:=Z5.out;have:=Z12.out;have:=Z22.out;have:=B26z.out;have:=B26y.out;have:=B26n.out;have:=Z29.out;have:=Z36.out;have:=Z46.out;have:=B50z.out;have:=B50y.out;have:=B50n.out;have:=Z53.out;have:=Z58.out;have:=Z65.out;have:=Z72.out;have:=Z78.out;have:=Z84.out;have:=Z90.out;have:=Z96.out;have:=Z103.out;have:=Z113.out;have:=B117z.out;have:=B117y.out;have:=B117n.out;omega));have n4_:=Aside0.mk (OwnS.stored hw F64.out (by have:=Z5.out;have:=Z12.out;have:=Z22.out;have:=B26z.out;have:=B26y.out;have:=B26n.out;have:=Z29.out;have:=Z36.out;have:=Z46.out;have:=B50z.out;have:=B50y.out;have:=B50n.out;have:=Z53.out;have:=Z58.out;have:=Z65.out;have:=Z72.out;have:=Z78.out;have:=Z84.out;have:=Z90.out;have:=Z96.out;have:=Z103.out;have:=Z113.out;have:=B117z.out;have:=B117y.out;have:=B117n.out;omega));have n5_:=Aside0.mk (OwnS.stored hw F102.out (by have:=Z5.out;have:=Z12.out;have:=Z22.out;have:=B26z.out;have:=B26y.out;have:=B26n.out;have:=Z29.out;have:=Z36.out;have:=Z46.out;have:=B50z.out;have:=B50y.out;have:=B50n.out;have:=Z53.out;have:=Z58.out;have:=Z65.out;have:=Z72.out;have:=Z78.out;have:=Z84.out;have:=Z90.out;have:=Z96.out;have:=Z103.out;have:=Z113.out;have:=B117z.out;have:=B117y.out;have:=B117n.out;omega));have n6_:=Aside0.mk (OwnS.stored hw F112.out (by have:=Z5.out;have:=Z12.out;have:=Z22.out;have:=B26z.out;have:=B26y.out;have:=B26n.out;have:=Z29.out;have:=Z36.out;have:=Z46.out;have:=B50z.out;have:=B50y.out;have:=B50n.out;have:=Z53.out;have:=Z58.out;have:=Z65.out;have:=Z72.out;have:=Z78.out;have:=Z84.out;have:=Z90.out;have:=Z96.out;have:=Z103.out;have:=Z113.out;have:=B117z.out;have:=B117y.out;have:=B117n.out;omega));have m0_ : Aside0 (w119.heap[gb25]? = some (.cells #[.slice Ao24 t16.length co24] 31 (0,0))):=Aside0.mk (blk_stored hw B26.out (by have:=Z5.out;have:=Z12.out;have:=Z22.out;have:=B26z.out;have:=B26y.out;have:=B26n.out;have:=Z29.out;have:=Z36.out;have:=Z46.out;have:=B50z.out;have:=B50y.out;have:=B50n.out;have:=Z53.out;have:=Z58.out;have:=Z65.out;have:=Z72.out;have:=Z78.out;have:=Z84.out;have:=Z90.out;have:=Z96.out;have:=Z103.out;have:=Z113.out;have:=B117z.out;have:=B117y.out;have:=B117n.out;omega));have m1_ : Aside0 (w119.heap[gb49]? = some (.cells #[.slice Ao48 t40.length co48] 31 (0,0))):=Aside0.mk (blk_stored hw B50.out (by have:=Z5.out;have:=Z12.out;have:=Z22.out;have:=B26z.out;have:=B26y.out;have:=B26n.out;have:=Z29.out;have:=Z36.out;have:=Z46.out;have:=B50z.out;have:=B50y.out;have:=B50n.out;have:=Z53.out;have:=Z58.out;have:=Z65.out;have:=Z72.out;have:=Z78.out;have:=Z84.out;have:=Z90.out;have:=Z96.out;have:=Z103.out;have:=Z113.out;have:=B117z.out;have:=B117y.out;have:=B117n.out;omega));have m2_ : Aside0 (w119.heap[gb116]? = some (.cells #[.slice Ao115 t107.length co115] 31 (0,0))):=Aside0.mk (blk_stored0 hw B117.out rfl);have nb_:=Aside0.mk (below_stored hw HB.out (by have:=Z5.out;have:=Z12.out;have:=Z22.out;have:=B26z.out;have:=B26y.out;have:=B26n.out;have:=Z29.out;have:=Z36.out;have:=Z46.out;have:=B50z.out;have:=B50y.out;have:=B50n.out;have:=Z53.out;have:=Z58.out;have:=Z65.out;have:=Z72.out;have:=Z78.out;have:=Z84.out;have:=Z90.out;have:=Z96.out;have:=Z103.out;have:=Z113.out;have:=B117z.out;have:=B117y.out;have:=B117n.out;omega));have Z120:=Aside0.mk (size_stored hw);clear F11 F21 F79 F91 F64 F102 F112 B26 B50 B117 HB;have F11:=n0_;have F21:=n1_;have F79:=n2_;have F91:=n3_;have F64:=n4_;have F102:=n5_;have F112:=n6_;have B26:=m0_;have B50:=m1_;have B117:=m2_;have HB:=nb_;clear n0_ n1_ n2_ n3_ n4_ n5_ n6_ m0_ m1_ m2_ nb_ hw;have hczgb25 : w119.cell? ⟨gb25,0,none⟩ = some (.slice Ao24 t16.length co24):=(blk_cell B26.out 0).trans rfl;have hfzgb25:=blk_frozen B26.out 0;have hczgb49 : w119.cell? ⟨gb49,0,none⟩ = some (.slice Ao48 t40.length co48):=(blk_cell B50.out 0).trans rfl;have hfzgb49:=blk_frozen B50.out 0;have hczgb116 : w119.cell? ⟨gb116,0,none⟩ = some (.slice Ao115 t107.length co115):=(blk_cell B117.out 0).trans rfl;have hfzgb116:=blk_frozen B117.out 0) | (go_at_call 16;have u_:=tok124;clear u_;((with_reducible refine (laws_eqGraph.calls k _ _ t107 _ _ t16 true _ (Kd.S_reads' F112.out).2.2 (S_cap F112.out) (Kd.S_reads' F21.out).2.2 (S_cap F21.out) A121.out).mono ?_));(try clear hczgb25 hfzgb25);(try clear hczgb49 hfzgb49);(try clear hczgb116 hfzgb116);rintro e w123 ⟨rfl,hb⟩;have n0_:=Aside0.mk (OwnS.below F11.out hb);have n1_:=Aside0.mk (OwnS.below F21.out hb);have n2_:=Aside0.mk (OwnS.below F79.out hb);have n3_:=Aside0.mk (OwnS.below F91.out hb);have n4_:=Aside0.mk (OwnS.below F64.out hb);have n5_:=Aside0.mk (OwnS.below F102.out hb);have n6_:=Aside0.mk (OwnS.below F112.out hb);have m0_:=Aside0.mk (blk_below B26.out hb);have m1_:=Aside0.mk (blk_below B50.out hb);have m2_:=Aside0.mk (blk_below B117.out hb);have nb_:=Aside0.mk (below_step HB.out hb);clear F11 F21 F79 F91 F64 F102 F112 B26 B50 B117 HB;have F11:=n0_;have F21:=n1_;have F79:=n2_;have F91:=n3_;have F64:=n4_;have F102:=n5_;have F112:=n6_;have B26:=m0_;have B50:=m1_;have B117:=m2_;have HB:=nb_;clear n0_ n1_ n2_ n3_ n4_ n5_ n6_ m0_ m1_ m2_ nb_;have Z125:=Aside0.mk hb.size;clear hb tok124;have hczgb25 : w123.cell? ⟨gb25,0,none⟩ = some (.slice Ao24 t16.length co24):=(blk_cell B26.out 0).trans rfl;have hfzgb25:=blk_frozen B26.out 0;have hczgb49 : w123.cell? ⟨gb49,0,none⟩ = some (.slice Ao48 t40.length co48):=(blk_cell B50.out 0).trans rfl;have hfzgb49:=blk_frozen B50.out 0;have hczgb116 : w123.cell? ⟨gb116,0,none⟩ = some (.slice Ao115 t107.length co115):=(blk_cell B117.out 0).trans rfl;have hfzgb116:=blk_frozen B117.out 0) | (go_at_call 19;have u_:=tok129;clear u_;refine calls_of_args (args':=#[.agg #[.slice Ao48 t87.length co48],.int .i64 1]) (by first | (rw [show t87.length = t40.length from (Kd.S_reads' F91.out).1.symm];done) | (rw [show t87.length = t40.length from (Kd.S_reads' F91.out).1.symm];rfl)) ?_;((with_reducible refine (laws_heldGraph.calls k _ _ t87 1 t127 _ (Kd.S_reads' F91.out).2.2 (S_cap F91.out) A126.out).mono ?_));(try clear hczgb25 hfzgb25);(try clear hczgb49 hfzgb49);(try clear hczgb116 hfzgb116);rintro e w128 ⟨rfl,hb⟩;have n0_:=Aside0.mk (OwnS.below F11.out hb);have n1_:=Aside0.mk (OwnS.below F21.out hb);have n2_:=Aside0.mk (OwnS.below F79.out hb);have n3_:=Aside0.mk (OwnS.below F91.out hb);have n4_:=Aside0.mk (OwnS.below F64.out hb);have n5_:=Aside0.mk (OwnS.below F102.out hb);have n6_:=Aside0.mk (OwnS.below F112.out hb);have m0_:=Aside0.mk (blk_below B26.out hb);have m1_:=Aside0.mk (blk_below B50.out hb);have m2_:=Aside0.mk (blk_below B117.out hb);have nb_:=Aside0.mk (below_step HB.out hb);clear F11 F21 F79 F91 F64 F102 F112 B26 B50 B117 HB;have F11:=n0_;have F21:=n1_;have F79:=n2_;have F91:=n3_;have F64:=n4_;have F102:=n5_;have F112:=n6_;have B26:=m0_;have B50:=m1_;have B117:=m2_;have HB:=nb_;clear n0_ n1_ n2_ n3_ n4_ n5_ n6_ m0_ m1_ m2_ nb_;have Z130:=Aside0.mk hb.size;clear hb tok129;have hczgb25 : w128.cell? ⟨gb25,0,none⟩ = some (.slice Ao24 t16.length co24):=(blk_cell B26.out 0).trans rfl;have hfzgb25:=blk_frozen B26.out 0;have hczgb49 : w128.cell? ⟨gb49,0,none⟩ = some (.slice Ao48 t40.length co48):=(blk_cell B50.out 0).trans rfl;have hfzgb49:=blk_frozen B50.out 0;have hczgb116 : w128.cell? ⟨gb116,0,none⟩ = some (.slice Ao115 t107.length co115):=(blk_cell B117.out 0).trans rfl;have hfzgb116:=blk_frozen B117.out 0))
     go_ret
     exact ⟨rfl,HB.out⟩

/-- THE ONE PURE STATEMENT of laws_FnExactGraphOf: yours. -/
def laws_FnExactGraphOf.Pure : Prop:=∀ (l0 : List (S53)),l0.length ≤ maxLen → (∀ x ∈ l0,Good53 x) → ∃ k,laws_FnExactGraphOf.f k l0 = some true

end Go.Proofs.Ythgkhfhfahifmaa.Q
