-- WRITTEN BY A PROGRAM OF THIS SESSION
import Derived.Test.YtbmnoenbhlfjaaaQ0
import Derived.Test.YtbmnoenbhlfjaaaQ1
import Derived.Test.YtbmnoenbhlfjaaaQ6
import Derived.Test.YtbmnoenbhlfjaaaQ13
import Derived.Test.YtbmnoenbhlfjaaaQ35
import Derived.Test.YtbmnoenbhlfjaaaQ36
import Derived.Test.YtbmnoenbhlfjaaaWMis
namespace Go.Proofs.Ytbmnoenbhlfjaaa.Q
open Go.RowKit Go.Proofs.YtbmnoenbhlfjaaaW.PrintWords Go.Proofs.YtbmnoenbhlfjaaaW.PrintLast Go.Proofs.YtbmnoenbhlfjaaaW.PrintMore
attribute [local go_sem] max2_int min2_int max_two min_two max_three min_three max_four min_four   -- for this text's walks alone
set_option linter.unusedVariables false
set_option linter.unusedSimpArgs false

-- WRITTEN BY lawgen.py
/-! ### laws_FnExactExitsOf: function 5 (by lawgen.py: rows in rows are marked) -/
def laws_FnExactExitsOf.f (k : Nat) (l0_0 : List (List Int)) (a1 : Int) : Option Bool:=(laws_szGraph.f k l0_0 1048576).bind fun t5 => (if t5 < 0 then (some true) else ((laws_toGraph.f k l0_0).bind fun t10 => ((spec_ExitsOf.f k t10 a1).bind fun bt19 => ((laws_toGraph.f k l0_0).bind fun t29 => ((impl_ExitsOf.f k t29 a1).bind fun bt43 => ((laws_eqIntSS.f k bt43.1 bt19.1).bind fun t53 => (if t53 = true then (if bt43.2 = bt19.2 then ((laws_toGraph.f k l0_0).bind fun t58 => ((laws_eqGraph.f k t29 t58).bind fun t67 => (if t67 = true then ((laws_markGraph.f k t29 1).bind fun bt73 => (if bt73.1 < 0 then (none) else ((laws_eqIntSS.f k bt43.1 bt19.1).bind fun t80 => (if t80 = true then (if bt43.2 = bt19.2 then ((laws_markIntSS.f k bt43.1 1).bind fun bt85 => ((laws_heldIntSS.f k bt85.2 1).bind fun t92 => (if t92 < 0 then (none) else (if t92 = bt85.1 then ((laws_toGraph.f k l0_0).bind fun t97 => ((impl_ExitsOf.f k t97 a1).bind fun bt106 => ((laws_eqIntSS.f k bt106.1 bt19.1).bind fun t116 => (if t116 = true then (if bt106.2 = bt19.2 then ((laws_heldIntSS.f k bt85.2 1).bind fun t121 => (if t121 < 0 then (none) else (if t121 = bt85.1 then (some true) else none))) else none) else none)))) else none)))) else none) else none)))) else none))) else none) else none)))))))
theorem laws_FnExactExitsOf.mono : ∀ a0 a1 k,LeO (laws_FnExactExitsOf.f k a0 a1) (laws_FnExactExitsOf.f (k + 1) a0 a1):=by
 intro a0 a1 k
 unfold laws_FnExactExitsOf.f
 repeat' first
   | (with_reducible exact laws_szGraph.mono _ _ _)
   | (with_reducible exact laws_toGraph.mono _ _)
   | (with_reducible exact spec_ExitsOf.mono _ _ _)
   | (with_reducible exact impl_ExitsOf.mono _ _ _)
   | (with_reducible exact laws_eqIntSS.mono _ _ _)
   | (with_reducible exact laws_eqGraph.mono _ _ _)
   | (with_reducible exact laws_markGraph.mono _ _ _)
   | (with_reducible exact laws_markIntSS.mono _ _ _)
   | (with_reducible exact laws_heldIntSS.mono _ _ _)
   | (with_reducible exact LeO.refl _)
   | (with_reducible exact LeO.none _)
   | (with_reducible refine LeO.ite ?_ ?_)
   | (with_reducible refine LeO.bind ?_ (fun _ => ?_))
set_option maxHeartbeats 8000000 in
set_option maxRecDepth 100000 in
theorem laws_FnExactExitsOf.calls (k : Nat) (A0_0 : Option Addr) (c0_0 : Nat) (l0_0 : List (List Int)) (a1 : Int) (r : Bool) (w : World) (hr0_0 : Kd.C (Kd.slice 3 (Kd.int .i64)) w A0_0 l0_0.length l0_0) (hc0_0 : l0_0.length ≤ c0_0) (h : laws_FnExactExitsOf.f k l0_0 a1 = some r) :
  Calls Try.prog 5 #[.agg #[.slice A0_0 l0_0.length c0_0],.int .i64 a1] w fun e w' => e = .returned (.bool r) ∧ Below w.heap.size w w':=by
 have hu24:=Try.underlying24
 have hu28:=Try.underlying28
 have HR0_0:=Aside0.mk hr0_0
 have HC0_0:=Aside0.mk hc0_0
 clear hr0_0 hc0_0
 have tok7 : Aside0 True:=⟨trivial⟩
 have tok12 : Aside0 True:=⟨trivial⟩
 have tok22 : Aside0 True:=⟨trivial⟩
 have tok31 : Aside0 True:=⟨trivial⟩
 have tok46 : Aside0 True:=⟨trivial⟩
 have tok55 : Aside0 True:=⟨trivial⟩
 have tok60 : Aside0 True:=⟨trivial⟩
 have tok69 : Aside0 True:=⟨trivial⟩
 have tok76 : Aside0 True:=⟨trivial⟩
 have tok82 : Aside0 True:=⟨trivial⟩
 have tok88 : Aside0 True:=⟨trivial⟩
 have tok94 : Aside0 True:=⟨trivial⟩
 have tok99 : Aside0 True:=⟨trivial⟩
 have tok109 : Aside0 True:=⟨trivial⟩
 have tok118 : Aside0 True:=⟨trivial⟩
 have tok123 : Aside0 True:=⟨trivial⟩
 have HB:=Aside0.mk (Below.refl w.heap.size w)
 unfold laws_FnExactExitsOf.f at h
 have bq_ : ∀ b_ : Bool,(b_ != b_) = false:=by decide
 replace h:=Option.bind_eq_some_iff.mp h
 obtain ⟨t5,A40,h⟩:=h
 (try dsimp only at h)
 have A4:=Aside0.mk A40
 clear A40
 by_cases c1 : t5 < 0
 ·rw [if_pos c1] at h
  obtain rfl:=Option.some.inj h
  have c1b : decide (t5 < 0) = true:=decide_eq_true c1
  clear c1
  go_enter Try.func5,Try.ntmps5
  go_wp2_with (first | ((with_reducible refine gate_dst (N:=2) rfl ?_);refine box_event ?hg (N:=2) ?hd (cs:=#[.slice A0_0 l0_0.length c0_0]) (t:=24) ?hr ?_;(case hd => rfl);(case hg => rfl);(case hr => first | (go_simp;done) | (go_simp;rfl));intro gb1 hg w3 hbox hb;have B2:=Aside0.mk hbox;have B2n:=Aside0.mk hg;have nb_:=Aside0.mk (below_step HB.out hb);clear HB;have HB:=nb_;clear nb_;have B2z:=Aside0.mk hb.size;have B2y:=Aside0.mk (blk_lt B2.out);clear hb hbox hg;have hczgb1 : w3.cell? ⟨gb1,0,none⟩ = some (.slice A0_0 l0_0.length c0_0):=(blk_cell B2.out 0).trans rfl;have hfzgb1:=blk_frozen B2.out 0) | (go_at_call 10;have u_:=tok7;clear u_;((with_reducible refine (laws_szGraph.calls k _ _ l0_0 1048576 t5 _ (Kd.C_below HR0_0.out HB.out) HC0_0.out A4.out).mono ?_));(try clear hczgb1 hfzgb1);rintro e w6 ⟨rfl,hb⟩;have m0_:=Aside0.mk (blk_below B2.out hb);have nb_:=Aside0.mk (below_step HB.out hb);clear B2 HB;have B2:=m0_;have HB:=nb_;clear m0_ nb_;have Z8:=Aside0.mk hb.size;clear hb tok7;have hczgb1 : w6.cell? ⟨gb1,0,none⟩ = some (.slice A0_0 l0_0.length c0_0):=(blk_cell B2.out 0).trans rfl;have hfzgb1:=blk_frozen B2.out 0))
  go_ret
  exact ⟨rfl,HB.out⟩
 rw [if_neg c1] at h
 have c1b : decide (t5 < 0) = false:=decide_eq_false c1
 clear c1
 replace h:=Option.bind_eq_some_iff.mp h
 obtain ⟨t10,A90,h⟩:=h
 (try dsimp only at h)
 have A9:=Aside0.mk A90
 clear A90
 replace h:=Option.bind_eq_some_iff.mp h
 obtain ⟨⟨t19,t20⟩,A180,h⟩:=h
 (try dsimp only at h)
 have A18:=Aside0.mk A180
 clear A180
 replace h:=Option.bind_eq_some_iff.mp h
 obtain ⟨t29,A280,h⟩:=h
 (try dsimp only at h)
 have A28:=Aside0.mk A280
 clear A280
 replace h:=Option.bind_eq_some_iff.mp h
 obtain ⟨⟨t43,t44⟩,A420,h⟩:=h
 (try dsimp only at h)
 have A42:=Aside0.mk A420
 clear A420
 replace h:=Option.bind_eq_some_iff.mp h
 obtain ⟨t53,A520,h⟩:=h
 (try dsimp only at h)
 have A52:=Aside0.mk A520
 clear A520
 cases t53 with
 | false => exact absurd h (by simp)
 | true =>
  rw [if_pos rfl] at h
  by_cases c2 : t44 = t20
  rotate_left
  ·rw [if_neg c2] at h;exact absurd h (by simp)
  rw [if_pos c2] at h
  have c2b : (t44 != t20) = false:=by rw [c2];simp
  have c2d : (t44 == t20) = true:=by rw [c2];simp
  have C2:=Aside0.mk c2
  clear c2
  replace h:=Option.bind_eq_some_iff.mp h
  obtain ⟨t58,A570,h⟩:=h
  (try dsimp only at h)
  have A57:=Aside0.mk A570
  clear A570
  replace h:=Option.bind_eq_some_iff.mp h
  obtain ⟨t67,A660,h⟩:=h
  (try dsimp only at h)
  have A66:=Aside0.mk A660
  clear A660
  cases t67 with
  | false => exact absurd h (by simp)
  | true =>
   rw [if_pos rfl] at h
   replace h:=Option.bind_eq_some_iff.mp h
   obtain ⟨⟨t73,t74⟩,A720,h⟩:=h
   (try dsimp only at h)
   have A72:=Aside0.mk A720
   clear A720
   by_cases c3 : t73 < 0
   ·rw [if_pos c3] at h;exact absurd h (by simp)
   rw [if_neg c3] at h
   have c3b : decide (t73 < 0) = false:=decide_eq_false c3
   clear c3
   replace h:=Option.bind_eq_some_iff.mp h
   obtain ⟨t80,A790,h⟩:=h
   (try dsimp only at h)
   have A79:=Aside0.mk A790
   clear A790
   cases t80 with
   | false => exact absurd h (by simp)
   | true =>
    rw [if_pos rfl] at h
    by_cases c4 : t44 = t20
    rotate_left
    ·rw [if_neg c4] at h;exact absurd h (by simp)
    rw [if_pos c4] at h
    have c4b : (t44 != t20) = false:=by rw [c4];simp
    have c4d : (t44 == t20) = true:=by rw [c4];simp
    have C4:=Aside0.mk c4
    clear c4
    replace h:=Option.bind_eq_some_iff.mp h
    obtain ⟨⟨t85,t86⟩,A840,h⟩:=h
    (try dsimp only at h)
    have A84:=Aside0.mk A840
    clear A840
    replace h:=Option.bind_eq_some_iff.mp h
    obtain ⟨t92,A910,h⟩:=h
    (try dsimp only at h)
    have A91:=Aside0.mk A910
    clear A910
    by_cases c5 : t92 < 0
    ·rw [if_pos c5] at h;exact absurd h (by simp)
    rw [if_neg c5] at h
    have c5b : decide (t92 < 0) = false:=decide_eq_false c5
    clear c5
    by_cases c6 : t92 = t85
    rotate_left
    ·rw [if_neg c6] at h;exact absurd h (by simp)
    rw [if_pos c6] at h
    have c6b : (t92 != t85) = false:=by rw [c6];simp
    have c6d : (t92 == t85) = true:=by rw [c6];simp
    have C6:=Aside0.mk c6
    clear c6
    replace h:=Option.bind_eq_some_iff.mp h
    obtain ⟨t97,A960,h⟩:=h
    (try dsimp only at h)
    have A96:=Aside0.mk A960
    clear A960
    replace h:=Option.bind_eq_some_iff.mp h
    obtain ⟨⟨t106,t107⟩,A1050,h⟩:=h
    (try dsimp only at h)
    have A105:=Aside0.mk A1050
    clear A1050
    replace h:=Option.bind_eq_some_iff.mp h
    obtain ⟨t116,A1150,h⟩:=h
    (try dsimp only at h)
    have A115:=Aside0.mk A1150
    clear A1150
    cases t116 with
    | false => exact absurd h (by simp)
    | true =>
     rw [if_pos rfl] at h
     by_cases c7 : t107 = t20
     rotate_left
     ·rw [if_neg c7] at h;exact absurd h (by simp)
     rw [if_pos c7] at h
     have c7b : (t107 != t20) = false:=by rw [c7];simp
     have c7d : (t107 == t20) = true:=by rw [c7];simp
     have C7:=Aside0.mk c7
     clear c7
     replace h:=Option.bind_eq_some_iff.mp h
     obtain ⟨t121,A1200,h⟩:=h
     (try dsimp only at h)
     have A120:=Aside0.mk A1200
     clear A1200
     by_cases c8 : t121 < 0
     ·rw [if_pos c8] at h;exact absurd h (by simp)
     rw [if_neg c8] at h
     have c8b : decide (t121 < 0) = false:=decide_eq_false c8
     clear c8
     by_cases c9 : t121 = t85
     rotate_left
     ·rw [if_neg c9] at h;exact absurd h (by simp)
     rw [if_pos c9] at h
     have c9b : (t121 != t85) = false:=by rw [c9];simp
     have c9d : (t121 == t85) = true:=by rw [c9];simp
     have C9:=Aside0.mk c9
     clear c9
     obtain rfl:=Option.some.inj h
     go_enter Try.func5,Try.ntmps5
     go_upto_region 10 with (first | ((with_reducible refine gate_dst (N:=2) rfl ?_);refine box_event ?hg (N:=2) ?hd (cs:=#[.slice A0_0 l0_0.length c0_0]) (t:=24) ?hr ?_;(case hd => rfl);(case hg => rfl);(case hr => first | (go_simp;done) | (go_simp;rfl));intro gb1 hg w3 hbox hb;have B2:=Aside0.mk hbox;have B2n:=Aside0.mk hg;have nb_:=Aside0.mk (below_step HB.out hb);clear HB;have HB:=nb_;clear nb_;have B2z:=Aside0.mk hb.size;have B2y:=Aside0.mk (blk_lt B2.out);clear hb hbox hg;have hczgb1 : w3.cell? ⟨gb1,0,none⟩ = some (.slice A0_0 l0_0.length c0_0):=(blk_cell B2.out 0).trans rfl;have hfzgb1:=blk_frozen B2.out 0) | (go_at_call 10;have u_:=tok7;clear u_;((with_reducible refine (laws_szGraph.calls k _ _ l0_0 1048576 t5 _ (Kd.C_below HR0_0.out HB.out) HC0_0.out A4.out).mono ?_));(try clear hczgb1 hfzgb1);rintro e w6 ⟨rfl,hb⟩;have m0_:=Aside0.mk (blk_below B2.out hb);have nb_:=Aside0.mk (below_step HB.out hb);clear B2 HB;have B2:=m0_;have HB:=nb_;clear m0_ nb_;have Z8:=Aside0.mk hb.size;clear hb tok7;have hczgb1 : w6.cell? ⟨gb1,0,none⟩ = some (.slice A0_0 l0_0.length c0_0):=(blk_cell B2.out 0).trans rfl;have hfzgb1:=blk_frozen B2.out 0) | (go_at_call 12;have u_:=tok12;clear u_;((with_reducible refine (laws_toGraph.calls k _ _ l0_0 t10 _ (Kd.C_below HR0_0.out HB.out) HC0_0.out A9.out).mono ?_));(try clear hczgb1 hfzgb1);rintro e w11 ⟨v13,rfl,ho0,hb⟩;have nF14_:=Aside0.mk (OwnS.make HB.out hb ho0);have m0_:=Aside0.mk (blk_below B2.out hb);have nb_:=Aside0.mk (below_step HB.out hb);clear B2 HB;have B2:=m0_;have HB:=nb_;clear m0_ nb_;have Z15:=Aside0.mk hb.size;have F14:=nF14_;clear nF14_;obtain ⟨Ao17,co17,eo17⟩:=Kd.S_slice F14.out;subst eo17;clear hb tok12 ho0;have hczgb1 : w11.cell? ⟨gb1,0,none⟩ = some (.slice A0_0 l0_0.length c0_0):=(blk_cell B2.out 0).trans rfl;have hfzgb1:=blk_frozen B2.out 0) | (go_at_call 17;have u_:=tok22;clear u_;((with_reducible refine (spec_ExitsOf.calls k _ _ t10 a1 t19 t20 _ (Kd.S_reads' F14.out).2.2 (S_cap F14.out) A18.out).mono ?_));(try clear hczgb1 hfzgb1);rintro e w21 ⟨v23,rfl,ho0,hb⟩;have nF24_:=Aside0.mk (OwnS.make HB.out hb ho0);have n0_:=Aside0.mk (OwnS.below F14.out hb);have m0_:=Aside0.mk (blk_below B2.out hb);have nb_:=Aside0.mk (below_step HB.out hb);clear F14 B2 HB;have F14:=n0_;have B2:=m0_;have HB:=nb_;clear n0_ m0_ nb_;have Z25:=Aside0.mk hb.size;have F24:=nF24_;clear nF24_;obtain ⟨Ao27,co27,eo27⟩:=Kd.S_slice F24.out;subst eo27;clear hb tok22 ho0;have hczgb1 : w21.cell? ⟨gb1,0,none⟩ = some (.slice A0_0 l0_0.length c0_0):=(blk_cell B2.out 0).trans rfl;have hfzgb1:=blk_frozen B2.out 0) | (go_at_call 12;have u_:=tok31;clear u_;((with_reducible refine (laws_toGraph.calls k _ _ l0_0 t29 _ (Kd.C_below HR0_0.out HB.out) HC0_0.out A28.out).mono ?_));(try clear hczgb1 hfzgb1);rintro e w30 ⟨v32,rfl,ho0,hb⟩;have nF33_:=Aside0.mk (OwnS.make HB.out hb ho0);have n0_:=Aside0.mk (OwnS.below F14.out hb);have n1_:=Aside0.mk (OwnS.below F24.out hb);have m0_:=Aside0.mk (blk_below B2.out hb);have nb_:=Aside0.mk (below_step HB.out hb);clear F14 F24 B2 HB;have F14:=n0_;have F24:=n1_;have B2:=m0_;have HB:=nb_;clear n0_ n1_ m0_ nb_;have Z34:=Aside0.mk hb.size;have F33:=nF33_;clear nF33_;obtain ⟨Ao36,co36,eo36⟩:=Kd.S_slice F33.out;subst eo36;clear hb tok31 ho0;have hczgb1 : w30.cell? ⟨gb1,0,none⟩ = some (.slice A0_0 l0_0.length c0_0):=(blk_cell B2.out 0).trans rfl;have hfzgb1:=blk_frozen B2.out 0) | ((with_reducible refine gate_dst (N:=8) rfl ?_);refine box_event ?hg (N:=8) ?hd (cs:=#[.slice none 0 0]) (t:=28) ?hr ?_;(case hd => rfl);(case hg => rfl);(case hr => first | (go_simp;done) | (go_simp;rfl));intro gb37 hg w39 hbox hb;(try clear hczgb1 hfzgb1);have n0_:=Aside0.mk (OwnS.below F14.out hb);have n1_:=Aside0.mk (OwnS.below F24.out hb);have n2_:=Aside0.mk (OwnS.below F33.out hb);have m0_:=Aside0.mk (blk_below B2.out hb);have nb_:=Aside0.mk (below_step HB.out hb);clear F14 F24 F33 B2 HB;have F14:=n0_;have F24:=n1_;have F33:=n2_;have B2:=m0_;have HB:=nb_;clear n0_ n1_ n2_ m0_ nb_;have B38:=Aside0.mk hbox;have B38n:=Aside0.mk hg;have B38z:=Aside0.mk hb.size;have B38y:=Aside0.mk (blk_lt B38.out);clear hb hbox hg;have hczgb1 : w39.cell? ⟨gb1,0,none⟩ = some (.slice A0_0 l0_0.length c0_0):=(blk_cell B2.out 0).trans rfl;have hfzgb1:=blk_frozen B2.out 0;have hczgb37 : w39.cell? ⟨gb37,0,none⟩ = some (.slice none 0 0):=(blk_cell B38.out 0).trans rfl;have hfzgb37:=blk_frozen B38.out 0) | ((with_reducible refine gate_store (t:=28) (p:=8) rfl ?_);refine store_event (t:=28) (p:=8) (v:=?vow40_) (w1:=(w39.setCell ⟨gb37,0,none⟩ (.slice Ao36 t29.length co36))) ?hg ?ho ?hn ?hr ?_;(case ho => rfl);(case hg => rfl);(case hn => rfl);(case hr => first | (go_simp;done) | (go_simp;rfl));intro w40 hw;(try clear hczgb1 hfzgb1);(try clear hczgb37 hfzgb37);have n0_:=Aside0.mk (OwnS.stored hw F14.out (by have:=B2z.out;have:=B2y.out;have:=B2n.out;have:=Z8.out;have:=Z15.out;have:=Z25.out;have:=Z34.out;have:=B38z.out;have:=B38y.out;have:=B38n.out;omega));have n1_:=Aside0.mk (OwnS.stored hw F24.out (by have:=B2z.out;have:=B2y.out;have:=B2n.out;have:=Z8.out;have:=Z15.out;have:=Z25.out;have:=Z34.out;have:=B38z.out;have:=B38y.out;have:=B38n.out;omega));have n2_:=Aside0.mk (OwnS.stored hw F33.out (by have:=B2z.out;have:=B2y.out;have:=B2n.out;have:=Z8.out;have:=Z15.out;have:=Z25.out;have:=Z34.out;have:=B38z.out;have:=B38y.out;have:=B38n.out;omega));have m0_ : Aside0 (w40.heap[gb1]? = some (.cells #[.slice A0_0 l0_0.length c0_0] 24 (0,0))):=Aside0.mk (blk_stored hw B2.out (by have:=B2z.out;have:=B2y.out;have:=B2n.out;have:=Z8.out;have:=Z15.out;have:=Z25.out;have:=Z34.out;have:=B38z.out;have:=B38y.out;have:=B38n.out;omega));have m1_ : Aside0 (w40.heap[gb37]? = some (.cells #[.slice Ao36 t29.length co36] 28 (0,0))):=Aside0.mk (blk_stored0 hw B38.out rfl);have nb_:=Aside0.mk (below_stored hw HB.out (by have:=B2z.out;have:=B2y.out;have:=B2n.out;have:=Z8.out;have:=Z15.out;have:=Z25.out;have:=Z34.out;have:=B38z.out;have:=B38y.out;have:=B38n.out;omega));have Z41:=Aside0.mk (size_stored hw);clear F14 F24 F33 B2 B38 HB;have F14:=n0_;have F24:=n1_;have F33:=n2_;have B2:=m0_;have B38:=m1_;have HB:=nb_;clear n0_ n1_ n2_ m0_ m1_ nb_ hw;have hczgb1 : w40.cell? ⟨gb1,0,none⟩ = some (.slice A0_0 l0_0.length c0_0):=(blk_cell B2.out 0).trans rfl;have hfzgb1:=blk_frozen B2.out 0;have hczgb37 : w40.cell? ⟨gb37,0,none⟩ = some (.slice Ao36 t29.length co36):=(blk_cell B38.out 0).trans rfl;have hfzgb37:=blk_frozen B38.out 0) | (go_at_call 18;have u_:=tok46;clear u_;((with_reducible refine (impl_ExitsOf.calls k _ _ t29 a1 t43 t44 _ (Kd.S_reads' F33.out).2.2 (S_cap F33.out) A42.out).mono ?_));(try clear hczgb1 hfzgb1);(try clear hczgb37 hfzgb37);rintro e w45 ⟨v47,rfl,ho0,hb⟩;have nF48_:=Aside0.mk (OwnS.make HB.out hb ho0);have n0_:=Aside0.mk (OwnS.below F14.out hb);have n1_:=Aside0.mk (OwnS.below F24.out hb);have n2_:=Aside0.mk (OwnS.below F33.out hb);have m0_:=Aside0.mk (blk_below B2.out hb);have m1_:=Aside0.mk (blk_below B38.out hb);have nb_:=Aside0.mk (below_step HB.out hb);clear F14 F24 F33 B2 B38 HB;have F14:=n0_;have F24:=n1_;have F33:=n2_;have B2:=m0_;have B38:=m1_;have HB:=nb_;clear n0_ n1_ n2_ m0_ m1_ nb_;have Z49:=Aside0.mk hb.size;have F48:=nF48_;clear nF48_;obtain ⟨Ao51,co51,eo51⟩:=Kd.S_slice F48.out;subst eo51;clear hb tok46 ho0;have hczgb1 : w45.cell? ⟨gb1,0,none⟩ = some (.slice A0_0 l0_0.length c0_0):=(blk_cell B2.out 0).trans rfl;have hfzgb1:=blk_frozen B2.out 0;have hczgb37 : w45.cell? ⟨gb37,0,none⟩ = some (.slice Ao36 t29.length co36):=(blk_cell B38.out 0).trans rfl;have hfzgb37:=blk_frozen B38.out 0) | (go_at_call 19;have u_:=tok55;clear u_;((with_reducible refine (laws_eqIntSS.calls k _ _ t43 _ _ t19 true _ (Kd.S_reads' F48.out).2.2 (S_cap F48.out) (Kd.S_reads' F24.out).2.2 (S_cap F24.out) A52.out).mono ?_));(try clear hczgb1 hfzgb1);(try clear hczgb37 hfzgb37);rintro e w54 ⟨rfl,hd⟩;have hb:=hd.below;clear hd;have n0_:=Aside0.mk (OwnS.below F14.out hb);have n1_:=Aside0.mk (OwnS.below F24.out hb);have n2_:=Aside0.mk (OwnS.below F33.out hb);have n3_:=Aside0.mk (OwnS.below F48.out hb);have m0_:=Aside0.mk (blk_below B2.out hb);have m1_:=Aside0.mk (blk_below B38.out hb);have nb_:=Aside0.mk (below_step HB.out hb);clear F14 F24 F33 F48 B2 B38 HB;have F14:=n0_;have F24:=n1_;have F33:=n2_;have F48:=n3_;have B2:=m0_;have B38:=m1_;have HB:=nb_;clear n0_ n1_ n2_ n3_ m0_ m1_ nb_;have Z56:=Aside0.mk hb.size;clear hb tok55;have hczgb1 : w54.cell? ⟨gb1,0,none⟩ = some (.slice A0_0 l0_0.length c0_0):=(blk_cell B2.out 0).trans rfl;have hfzgb1:=blk_frozen B2.out 0;have hczgb37 : w54.cell? ⟨gb37,0,none⟩ = some (.slice Ao36 t29.length co36):=(blk_cell B38.out 0).trans rfl;have hfzgb37:=blk_frozen B38.out 0))
     go_cut [49] (fun v49 wc => v49 = .bool false ∧ Aside0 (OwnS (Kd.slice 3 (Kd.int .i64)) 43 w wc w6.heap.size w11.heap.size (.slice Ao17 t10.length co17) t10) ∧ Aside0 (OwnS (Kd.slice 3 (Kd.int .i64)) 43 w wc w11.heap.size w21.heap.size (.slice Ao27 t19.length co27) t19) ∧ Aside0 (OwnS (Kd.slice 3 (Kd.int .i64)) 43 w wc w21.heap.size w30.heap.size (.slice Ao36 t29.length co36) t29) ∧ Aside0 (OwnS (Kd.slice 3 (Kd.int .i64)) 43 w wc w40.heap.size w45.heap.size (.slice Ao51 t43.length co51) t43) ∧ Aside0 (wc.heap[gb1]? = some (.cells #[.slice A0_0 l0_0.length c0_0] 24 (0,0))) ∧ Aside0 (wc.heap[gb37]? = some (.cells #[.slice Ao36 t29.length co36] 28 (0,0))) ∧ Aside0 (Below w.heap.size w wc) ∧ Aside0 (w54.heap.size ≤ wc.heap.size))
     case first =>
      have F14:=Aside0.mk (OwnS.drew F14.out)
      have F24:=Aside0.mk (OwnS.drew F24.out)
      have F33:=Aside0.mk (OwnS.drew F33.out)
      have F48:=Aside0.mk (OwnS.drew F48.out)
      have HB:=Aside0.mk (below_drew HB.out)
      have B2:=Aside0.mk (blk_drew B2.out)
      have B38:=Aside0.mk (blk_drew B38.out)
      have Z71 : Aside0 (w54.heap.size ≤ w54.drew.heap.size):=⟨Nat.le_refl _⟩
      go_region_with (first | (go_at_call 12;have u_:=tok60;clear u_;((with_reducible refine (laws_toGraph.calls k _ _ l0_0 t58 _ (Kd.C_below HR0_0.out HB.out) HC0_0.out A57.out).mono ?_));(try clear hczgb1 hfzgb1);(try clear hczgb37 hfzgb37);rintro e w59 ⟨v61,rfl,ho0,hb⟩;have nF62_:=Aside0.mk (OwnS.make HB.out hb ho0);have n0_:=Aside0.mk (OwnS.below F14.out hb);have n1_:=Aside0.mk (OwnS.below F24.out hb);have n2_:=Aside0.mk (OwnS.below F33.out hb);have n3_:=Aside0.mk (OwnS.below F48.out hb);have m0_:=Aside0.mk (blk_below B2.out hb);have m1_:=Aside0.mk (blk_below B38.out hb);have nb_:=Aside0.mk (below_step HB.out hb);clear F14 F24 F33 F48 B2 B38 HB;have F14:=n0_;have F24:=n1_;have F33:=n2_;have F48:=n3_;have B2:=m0_;have B38:=m1_;have HB:=nb_;clear n0_ n1_ n2_ n3_ m0_ m1_ nb_;have Z63:=Aside0.mk hb.size;have F62:=nF62_;clear nF62_;obtain ⟨Ao65,co65,eo65⟩:=Kd.S_slice F62.out;subst eo65;clear hb tok60 ho0;have hczgb1 : w59.cell? ⟨gb1,0,none⟩ = some (.slice A0_0 l0_0.length c0_0):=(blk_cell B2.out 0).trans rfl;have hfzgb1:=blk_frozen B2.out 0;have hczgb37 : w59.cell? ⟨gb37,0,none⟩ = some (.slice Ao36 t29.length co36):=(blk_cell B38.out 0).trans rfl;have hfzgb37:=blk_frozen B38.out 0) | (go_at_call 14;have u_:=tok69;clear u_;((with_reducible refine (laws_eqGraph.calls k _ _ t29 _ _ t58 true _ (Kd.S_reads' F33.out).2.2 (S_cap F33.out) (Kd.S_reads' F62.out).2.2 (S_cap F62.out) A66.out).mono ?_));(try clear hczgb1 hfzgb1);(try clear hczgb37 hfzgb37);rintro e w68 ⟨rfl,hb⟩;have n0_:=Aside0.mk (OwnS.below F14.out hb);have n1_:=Aside0.mk (OwnS.below F24.out hb);have n2_:=Aside0.mk (OwnS.below F33.out hb);have n3_:=Aside0.mk (OwnS.below F48.out hb);have n4_:=Aside0.mk (OwnS.below F62.out hb);have m0_:=Aside0.mk (blk_below B2.out hb);have m1_:=Aside0.mk (blk_below B38.out hb);have nb_:=Aside0.mk (below_step HB.out hb);clear F14 F24 F33 F48 F62 B2 B38 HB;have F14:=n0_;have F24:=n1_;have F33:=n2_;have F48:=n3_;have F62:=n4_;have B2:=m0_;have B38:=m1_;have HB:=nb_;clear n0_ n1_ n2_ n3_ n4_ m0_ m1_ nb_;have Z70:=Aside0.mk hb.size;clear hb tok69;have hczgb1 : w68.cell? ⟨gb1,0,none⟩ = some (.slice A0_0 l0_0.length c0_0):=(blk_cell B2.out 0).trans rfl;have hfzgb1:=blk_frozen B2.out 0;have hczgb37 : w68.cell? ⟨gb37,0,none⟩ = some (.slice Ao36 t29.length co36):=(blk_cell B38.out 0).trans rfl;have hfzgb37:=blk_frozen B38.out 0))
      all_goals go_wp2
      all_goals go_meet
      all_goals exact ⟨rfl,F14,F24,F33,F48,B2,B38,HB,⟨by have:=B2z.out;have:=B2y.out;have:=B2n.out;have:=Z8.out;have:=Z15.out;have:=Z25.out;have:=Z34.out;have:=B38z.out;have:=B38y.out;have:=B38n.out;have:=Z41.out;have:=Z49.out;have:=Z56.out;have:=Z63.out;have:=Z70.out;have:=Z71.out;omega⟩⟩
     case rest =>
      clear F14
      clear F24
      clear F33
      clear F48
      clear HB B2 B38
      obtain ⟨rfl,F14,F24,F33,F48,B2,B38,HB,Z71⟩:=hcut
      (try clear hczgb1 hfzgb1)
      (try clear hczgb37 hfzgb37)
      have hczgb1 : wc.cell? ⟨gb1,0,none⟩ = some (.slice A0_0 l0_0.length c0_0):=(blk_cell B2.out 0).trans rfl
      have hfzgb1:=blk_frozen B2.out 0
      have hczgb37 : wc.cell? ⟨gb37,0,none⟩ = some (.slice Ao36 t29.length co36):=(blk_cell B38.out 0).trans rfl
      have hfzgb37:=blk_frozen B38.out 0
      go_wp2_with (first | (go_at_call 20;have u_:=tok76;clear u_;((with_reducible refine (laws_markGraph.calls k (fun k_ => w21.heap.size ≤ k_ ∧ k_ < w30.heap.size) (.slice Ao36 t29.length co36) t29 1 t73 t74 w _ HB.out F33.out A72.out).mono ?_));(try clear hczgb1 hfzgb1);(try clear hczgb37 hfzgb37);rintro e w75 ⟨rfl,hy,hb,hkp⟩;have Z77:=Aside0.mk hkp.1;have ny_ : Aside0 (OwnS (Kd.slice 3 (Kd.int .i64)) 43 w w75 w21.heap.size w30.heap.size (.slice Ao36 t29.length co36) t74):=⟨hy⟩;have n0_:=Aside0.mk (OwnS.kept F14.out hkp (by have:=B2z.out;have:=B2y.out;have:=B2n.out;have:=Z8.out;have:=Z15.out;have:=Z25.out;have:=Z34.out;have:=B38z.out;have:=B38y.out;have:=B38n.out;have:=Z41.out;have:=Z49.out;have:=Z56.out;have:=Z71.out;omega));have n1_:=Aside0.mk (OwnS.kept F24.out hkp (by have:=B2z.out;have:=B2y.out;have:=B2n.out;have:=Z8.out;have:=Z15.out;have:=Z25.out;have:=Z34.out;have:=B38z.out;have:=B38y.out;have:=B38n.out;have:=Z41.out;have:=Z49.out;have:=Z56.out;have:=Z71.out;omega));have n3_:=Aside0.mk (OwnS.kept F48.out hkp (by have:=B2z.out;have:=B2y.out;have:=B2n.out;have:=Z8.out;have:=Z15.out;have:=Z25.out;have:=Z34.out;have:=B38z.out;have:=B38y.out;have:=B38n.out;have:=Z41.out;have:=Z49.out;have:=Z56.out;have:=Z71.out;omega));have m0_:=Aside0.mk (blk_kept B2.out hkp (by have:=B2n.out;have:=B2z.out;have:=B2y.out;have:=B2n.out;have:=Z8.out;have:=Z15.out;have:=Z25.out;have:=Z34.out;have:=B38z.out;have:=B38y.out;have:=B38n.out;have:=Z41.out;have:=Z49.out;have:=Z56.out;have:=Z71.out;intro h_;omega));have m1_:=Aside0.mk (blk_kept B38.out hkp (by have:=B38n.out;have:=B2z.out;have:=B2y.out;have:=B2n.out;have:=Z8.out;have:=Z15.out;have:=Z25.out;have:=Z34.out;have:=B38z.out;have:=B38y.out;have:=B38n.out;have:=Z41.out;have:=Z49.out;have:=Z56.out;have:=Z71.out;intro h_;omega));have nb_:=Aside0.mk (hb);clear F14 F24 F48 B2 B38 HB;have F14:=n0_;have F24:=n1_;have F48:=n3_;have B2:=m0_;have B38:=m1_;have HB:=nb_;clear n0_ n1_ n3_ m0_ m1_ nb_;have F78:=ny_;clear ny_ hy hb hkp F33;clear tok76;have hczgb1 : w75.cell? ⟨gb1,0,none⟩ = some (.slice A0_0 l0_0.length c0_0):=(blk_cell B2.out 0).trans rfl;have hfzgb1:=blk_frozen B2.out 0;have hczgb37 : w75.cell? ⟨gb37,0,none⟩ = some (.slice Ao36 t29.length co36):=(blk_cell B38.out 0).trans rfl;have hfzgb37:=blk_frozen B38.out 0) | (go_at_call 19;have u_:=tok82;clear u_;((with_reducible refine (laws_eqIntSS.calls k _ _ t43 _ _ t19 true _ (Kd.S_reads' F48.out).2.2 (S_cap F48.out) (Kd.S_reads' F24.out).2.2 (S_cap F24.out) A79.out).mono ?_));(try clear hczgb1 hfzgb1);(try clear hczgb37 hfzgb37);rintro e w81 ⟨rfl,hd⟩;have hb:=hd.below;clear hd;have n0_:=Aside0.mk (OwnS.below F14.out hb);have n1_:=Aside0.mk (OwnS.below F24.out hb);have n2_:=Aside0.mk (OwnS.below F78.out hb);have n3_:=Aside0.mk (OwnS.below F48.out hb);have m0_:=Aside0.mk (blk_below B2.out hb);have m1_:=Aside0.mk (blk_below B38.out hb);have nb_:=Aside0.mk (below_step HB.out hb);clear F14 F24 F78 F48 B2 B38 HB;have F14:=n0_;have F24:=n1_;have F78:=n2_;have F48:=n3_;have B2:=m0_;have B38:=m1_;have HB:=nb_;clear n0_ n1_ n2_ n3_ m0_ m1_ nb_;have Z83:=Aside0.mk hb.size;clear hb tok82;have hczgb1 : w81.cell? ⟨gb1,0,none⟩ = some (.slice A0_0 l0_0.length c0_0):=(blk_cell B2.out 0).trans rfl;have hfzgb1:=blk_frozen B2.out 0;have hczgb37 : w81.cell? ⟨gb37,0,none⟩ = some (.slice Ao36 t29.length co36):=(blk_cell B38.out 0).trans rfl;have hfzgb37:=blk_frozen B38.out 0) | (go_at_call 21;have u_:=tok88;clear u_;((with_reducible refine (laws_markIntSS.calls k (fun k_ => w40.heap.size ≤ k_ ∧ k_ < w45.heap.size) (.slice Ao51 t43.length co51) t43 1 t85 t86 w _ HB.out F48.out A84.out).mono ?_));(try clear hczgb1 hfzgb1);(try clear hczgb37 hfzgb37);rintro e w87 ⟨rfl,hy,hb,hkp⟩;have Z89:=Aside0.mk hkp.1;have ny_ : Aside0 (OwnS (Kd.slice 3 (Kd.int .i64)) 43 w w87 w40.heap.size w45.heap.size (.slice Ao51 t43.length co51) t86):=⟨hy⟩;have n0_:=Aside0.mk (OwnS.kept F14.out hkp (by have:=B2z.out;have:=B2y.out;have:=B2n.out;have:=Z8.out;have:=Z15.out;have:=Z25.out;have:=Z34.out;have:=B38z.out;have:=B38y.out;have:=B38n.out;have:=Z41.out;have:=Z49.out;have:=Z56.out;have:=Z71.out;have:=Z77.out;have:=Z83.out;omega));have n1_:=Aside0.mk (OwnS.kept F24.out hkp (by have:=B2z.out;have:=B2y.out;have:=B2n.out;have:=Z8.out;have:=Z15.out;have:=Z25.out;have:=Z34.out;have:=B38z.out;have:=B38y.out;have:=B38n.out;have:=Z41.out;have:=Z49.out;have:=Z56.out;have:=Z71.out;have:=Z77.out;have:=Z83.out;omega));have n2_:=Aside0.mk (OwnS.kept F78.out hkp (by have:=B2z.out;have:=B2y.out;have:=B2n.out;have:=Z8.out;have:=Z15.out;have:=Z25.out;have:=Z34.out;have:=B38z.out;have:=B38y.out;have:=B38n.out;have:=Z41.out;have:=Z49.out;have:=Z56.out;have:=Z71.out;have:=Z77.out;have:=Z83.out;omega));have m0_:=Aside0.mk (blk_kept B2.out hkp (by have:=B2n.out;have:=B2z.out;have:=B2y.out;have:=B2n.out;have:=Z8.out;have:=Z15.out;have:=Z25.out;have:=Z34.out;have:=B38z.out;have:=B38y.out;have:=B38n.out;have:=Z41.out;have:=Z49.out;have:=Z56.out;have:=Z71.out;have:=Z77.out;have:=Z83.out;intro h_;omega));have m1_:=Aside0.mk (blk_kept B38.out hkp (by have:=B38n.out;have:=B2z.out;have:=B2y.out;have:=B2n.out;have:=Z8.out;have:=Z15.out;have:=Z25.out;have:=Z34.out;have:=B38z.out;have:=B38y.out;have:=B38n.out;have:=Z41.out;have:=Z49.out;have:=Z56.out;have:=Z71.out;have:=Z77.out;have:=Z83.out;intro h_;omega));have nb_:=Aside0.mk (hb);clear F14 F24 F78 B2 B38 HB;have F14:=n0_;have F24:=n1_;have F78:=n2_;have B2:=m0_;have B38:=m1_;have HB:=nb_;clear n0_ n1_ n2_ m0_ m1_ nb_;have F90:=ny_;clear ny_ hy hb hkp F48;clear tok88;have hczgb1 : w87.cell? ⟨gb1,0,none⟩ = some (.slice A0_0 l0_0.length c0_0):=(blk_cell B2.out 0).trans rfl;have hfzgb1:=blk_frozen B2.out 0;have hczgb37 : w87.cell? ⟨gb37,0,none⟩ = some (.slice Ao36 t29.length co36):=(blk_cell B38.out 0).trans rfl;have hfzgb37:=blk_frozen B38.out 0) | (go_at_call 22;have u_:=tok94;clear u_;refine calls_of_args (args':=#[.slice Ao51 t86.length co51,.int .i64 1]) (by first | (rw [show t86.length = t43.length from (Kd.S_reads' F90.out).1.symm];done) | (rw [show t86.length = t43.length from (Kd.S_reads' F90.out).1.symm];rfl)) ?_;((with_reducible refine (laws_heldIntSS.calls k _ _ t86 1 t92 _ (Kd.S_reads' F90.out).2.2 (S_cap F90.out) A91.out).mono ?_));(try clear hczgb1 hfzgb1);(try clear hczgb37 hfzgb37);rintro e w93 ⟨rfl,hd⟩;have hb:=hd.below;clear hd;have n0_:=Aside0.mk (OwnS.below F14.out hb);have n1_:=Aside0.mk (OwnS.below F24.out hb);have n2_:=Aside0.mk (OwnS.below F78.out hb);have n3_:=Aside0.mk (OwnS.below F90.out hb);have m0_:=Aside0.mk (blk_below B2.out hb);have m1_:=Aside0.mk (blk_below B38.out hb);have nb_:=Aside0.mk (below_step HB.out hb);clear F14 F24 F78 F90 B2 B38 HB;have F14:=n0_;have F24:=n1_;have F78:=n2_;have F90:=n3_;have B2:=m0_;have B38:=m1_;have HB:=nb_;clear n0_ n1_ n2_ n3_ m0_ m1_ nb_;have Z95:=Aside0.mk hb.size;clear hb tok94;have hczgb1 : w93.cell? ⟨gb1,0,none⟩ = some (.slice A0_0 l0_0.length c0_0):=(blk_cell B2.out 0).trans rfl;have hfzgb1:=blk_frozen B2.out 0;have hczgb37 : w93.cell? ⟨gb37,0,none⟩ = some (.slice Ao36 t29.length co36):=(blk_cell B38.out 0).trans rfl;have hfzgb37:=blk_frozen B38.out 0) | (go_at_call 12;have u_:=tok99;clear u_;((with_reducible refine (laws_toGraph.calls k _ _ l0_0 t97 _ (Kd.C_below HR0_0.out HB.out) HC0_0.out A96.out).mono ?_));(try clear hczgb1 hfzgb1);(try clear hczgb37 hfzgb37);rintro e w98 ⟨v100,rfl,ho0,hb⟩;have nF101_:=Aside0.mk (OwnS.make HB.out hb ho0);have n0_:=Aside0.mk (OwnS.below F14.out hb);have n1_:=Aside0.mk (OwnS.below F24.out hb);have n2_:=Aside0.mk (OwnS.below F78.out hb);have n3_:=Aside0.mk (OwnS.below F90.out hb);have m0_:=Aside0.mk (blk_below B2.out hb);have m1_:=Aside0.mk (blk_below B38.out hb);have nb_:=Aside0.mk (below_step HB.out hb);clear F14 F24 F78 F90 B2 B38 HB;have F14:=n0_;have F24:=n1_;have F78:=n2_;have F90:=n3_;have B2:=m0_;have B38:=m1_;have HB:=nb_;clear n0_ n1_ n2_ n3_ m0_ m1_ nb_;have Z102:=Aside0.mk hb.size;have F101:=nF101_;clear nF101_;obtain ⟨Ao104,co104,eo104⟩:=Kd.S_slice F101.out;subst eo104;clear hb tok99 ho0;have hczgb1 : w98.cell? ⟨gb1,0,none⟩ = some (.slice A0_0 l0_0.length c0_0):=(blk_cell B2.out 0).trans rfl;have hfzgb1:=blk_frozen B2.out 0;have hczgb37 : w98.cell? ⟨gb37,0,none⟩ = some (.slice Ao36 t29.length co36):=(blk_cell B38.out 0).trans rfl;have hfzgb37:=blk_frozen B38.out 0) | (go_at_call 18;have u_:=tok109;clear u_;((with_reducible refine (impl_ExitsOf.calls k _ _ t97 a1 t106 t107 _ (Kd.S_reads' F101.out).2.2 (S_cap F101.out) A105.out).mono ?_));(try clear hczgb1 hfzgb1);(try clear hczgb37 hfzgb37);rintro e w108 ⟨v110,rfl,ho0,hb⟩;have nF111_:=Aside0.mk (OwnS.make HB.out hb ho0);have n0_:=Aside0.mk (OwnS.below F14.out hb);have n1_:=Aside0.mk (OwnS.below F24.out hb);have n2_:=Aside0.mk (OwnS.below F78.out hb);have n3_:=Aside0.mk (OwnS.below F90.out hb);have n4_:=Aside0.mk (OwnS.below F101.out hb);have m0_:=Aside0.mk (blk_below B2.out hb);have m1_:=Aside0.mk (blk_below B38.out hb);have nb_:=Aside0.mk (below_step HB.out hb);clear F14 F24 F78 F90 F101 B2 B38 HB;have F14:=n0_;have F24:=n1_;have F78:=n2_;have F90:=n3_;have F101:=n4_;have B2:=m0_;have B38:=m1_;have HB:=nb_;clear n0_ n1_ n2_ n3_ n4_ m0_ m1_ nb_;have Z112:=Aside0.mk hb.size;have F111:=nF111_;clear nF111_;obtain ⟨Ao114,co114,eo114⟩:=Kd.S_slice F111.out;subst eo114;clear hb tok109 ho0;have hczgb1 : w108.cell? ⟨gb1,0,none⟩ = some (.slice A0_0 l0_0.length c0_0):=(blk_cell B2.out 0).trans rfl;have hfzgb1:=blk_frozen B2.out 0;have hczgb37 : w108.cell? ⟨gb37,0,none⟩ = some (.slice Ao36 t29.length co36):=(blk_cell B38.out 0).trans rfl;have hfzgb37:=blk_frozen B38.out 0) | (go_at_call 19;have u_:=tok118;clear u_;((with_reducible refine (laws_eqIntSS.calls k _ _ t106 _ _ t19 true _ (Kd.S_reads' F111.out).2.2 (S_cap F111.out) (Kd.S_reads' F24.out).2.2 (S_cap F24.out) A115.out).mono ?_));(try clear hczgb1 hfzgb1);(try clear hczgb37 hfzgb37);rintro e w117 ⟨rfl,hd⟩;have hb:=hd.below;clear hd;have n0_:=Aside0.mk (OwnS.below F14.out hb);have n1_:=Aside0.mk (OwnS.below F24.out hb);have n2_:=Aside0.mk (OwnS.below F78.out hb);have n3_:=Aside0.mk (OwnS.below F90.out hb);have n4_:=Aside0.mk (OwnS.below F101.out hb);have n5_:=Aside0.mk (OwnS.below F111.out hb);have m0_:=Aside0.mk (blk_below B2.out hb);have m1_:=Aside0.mk (blk_below B38.out hb);have nb_:=Aside0.mk (below_step HB.out hb);clear F14 F24 F78 F90 F101 F111 B2 B38 HB;have F14:=n0_;have F24:=n1_;have F78:=n2_;have F90:=n3_;have F101:=n4_;have F111:=n5_;have B2:=m0_;have B38:=m1_;have HB:=nb_;clear n0_ n1_ n2_ n3_ n4_ n5_ m0_ m1_ nb_;have Z119:=Aside0.mk hb.size;clear hb tok118;have hczgb1 : w117.cell? ⟨gb1,0,none⟩ = some (.slice A0_0 l0_0.length c0_0):=(blk_cell B2.out 0).trans rfl;have hfzgb1:=blk_frozen B2.out 0;have hczgb37 : w117.cell? ⟨gb37,0,none⟩ = some (.slice Ao36 t29.length co36):=(blk_cell B38.out 0).trans rfl;have hfzgb37:=blk_frozen B38.out 0) | (go_at_call 22;have u_:=tok123;clear u_;refine calls_of_args (args':=#[.slice Ao51 t86.length co51,.int .i64 1]) (by first | (rw [show t86.length = t43.length from (Kd.S_reads' F90.out).1.symm];done) | (rw [show t86.length = t43.length from (Kd.S_reads' F90.out).1.symm];rfl)) ?_;((with_reducible refine (laws_heldIntSS.calls k _ _ t86 1 t121 _ (Kd.S_reads' F90.out).2.2 (S_cap F90.out) A120.out).mono ?_));(try clear hczgb1 hfzgb1);(try clear hczgb37 hfzgb37);rintro e w122 ⟨rfl,hd⟩;have hb:=hd.below;clear hd;have n0_:=Aside0.mk (OwnS.below F14.out hb);have n1_:=Aside0.mk (OwnS.below F24.out hb);have n2_:=Aside0.mk (OwnS.below F78.out hb);have n3_:=Aside0.mk (OwnS.below F90.out hb);have n4_:=Aside0.mk (OwnS.below F101.out hb);have n5_:=Aside0.mk (OwnS.below F111.out hb);have m0_:=Aside0.mk (blk_below B2.out hb);have m1_:=Aside0.mk (blk_below B38.out hb);have nb_:=Aside0.mk (below_step HB.out hb);clear F14 F24 F78 F90 F101 F111 B2 B38 HB;have F14:=n0_;have F24:=n1_;have F78:=n2_;have F90:=n3_;have F101:=n4_;have F111:=n5_;have B2:=m0_;have B38:=m1_;have HB:=nb_;clear n0_ n1_ n2_ n3_ n4_ n5_ m0_ m1_ nb_;have Z124:=Aside0.mk hb.size;clear hb tok123;have hczgb1 : w122.cell? ⟨gb1,0,none⟩ = some (.slice A0_0 l0_0.length c0_0):=(blk_cell B2.out 0).trans rfl;have hfzgb1:=blk_frozen B2.out 0;have hczgb37 : w122.cell? ⟨gb37,0,none⟩ = some (.slice Ao36 t29.length co36):=(blk_cell B38.out 0).trans rfl;have hfzgb37:=blk_frozen B38.out 0))
      go_ret
      exact ⟨rfl,HB.out⟩

/-- THE ONE PURE STATEMENT of laws_FnExactExitsOf: yours. -/
def laws_FnExactExitsOf.Pure : Prop:=∀ (l0_0 : List (List Int)) (a1 : Int),l0_0.length ≤ maxLen → (∀ x ∈ l0_0,(fun xs => xs.length ≤ maxLen ∧ ∀ x ∈ xs,(fun x => (Lit.int .i64 x).wf = true) x) x) → (Lit.int .i64 a1).wf = true → ∃ k,laws_FnExactExitsOf.f k l0_0 a1 = some true

end Go.Proofs.Ytbmnoenbhlfjaaa.Q
