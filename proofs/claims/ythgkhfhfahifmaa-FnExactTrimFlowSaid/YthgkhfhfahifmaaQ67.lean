-- WRITTEN BY A PROGRAM OF THIS SESSION
import Derived.Test.YthgkhfhfahifmaaWMi3
import Derived.Test.YthgkhfhfahifmaaQ0
import Derived.Test.YthgkhfhfahifmaaQ1
import Derived.Test.YthgkhfhfahifmaaQ4
import Derived.Test.YthgkhfhfahifmaaQ6
import Derived.Test.YthgkhfhfahifmaaQ60
import Derived.Test.YthgkhfhfahifmaaQ61
import Derived.Test.YthgkhfhfahifmaaQ63
import Derived.Test.YthgkhfhfahifmaaQ66
namespace Go.Proofs.Ythgkhfhfahifmaa.Q
open Go.RowKit Go.Proofs.YthgkhfhfahifmaaW.PrintWords Go.Proofs.YthgkhfhfahifmaaW.PrintLast Go.Proofs.YthgkhfhfahifmaaW.PrintMore
attribute [local go_sem] max2_int min2_int max_two min_two max_three min_three max_four min_four   -- for this text's walks alone
set_option linter.unusedVariables false
set_option linter.unusedSimpArgs false

-- WRITTEN BY lawgen.py
/-! ### laws_FnExactTrimFlow: function 7 (by lawgen.py: rows in rows are marked) -/
def laws_FnExactTrimFlow.f (k : Nat) (l0 : List (S53)) : Option Bool:=(laws_szBlockS.f k l0 1048576).bind fun t2 => (if t2 < 0 then (some true) else ((laws_toBlockS.f k l0).bind fun t7 => ((spec_TrimFlow.f k t7).bind fun bt16 => ((laws_toBlockS.f k l0).bind fun t32 => ((impl_TrimFlow.f k t32).bind fun bt41 => ((laws_eqBlockS.f k bt41.1 bt16.1).bind fun t57 => (if t57 = true then ((laws_eqIntS.f k bt41.2.1 bt16.2.1).bind fun t62 => (if t62 = true then (if bt41.2.2 = bt16.2.2 then ((laws_toBlockS.f k l0).bind fun t67 => ((laws_eqBlockS.f k t32 t67).bind fun t76 => (if t76 = true then ((laws_markBlockS.f k t32 1).bind fun bt81 => (if bt81.1 < 0 then (none) else ((laws_eqBlockS.f k bt41.1 bt16.1).bind fun t88 => (if t88 = true then ((laws_eqIntS.f k bt41.2.1 bt16.2.1).bind fun t93 => (if t93 = true then (if bt41.2.2 = bt16.2.2 then ((laws_markBlockS.f k bt41.1 1).bind fun bt98 => ((laws_markIntS.f k bt41.2.1 bt98.1).bind fun bt105 => ((laws_heldBlockS.f k bt98.2 1).bind fun t112 => (if t112 < 0 then (none) else ((laws_heldIntS.f k bt105.2 t112).bind fun t117 => (if t117 < 0 then (none) else (if t117 = bt105.1 then ((laws_toBlockS.f k l0).bind fun t122 => ((impl_TrimFlow.f k t122).bind fun bt131 => ((laws_eqBlockS.f k bt131.1 bt16.1).bind fun t147 => (if t147 = true then ((laws_eqIntS.f k bt131.2.1 bt16.2.1).bind fun t152 => (if t152 = true then (if bt131.2.2 = bt16.2.2 then ((laws_heldBlockS.f k bt98.2 1).bind fun t157 => (if t157 < 0 then (none) else ((laws_heldIntS.f k bt105.2 t157).bind fun t162 => (if t162 < 0 then (none) else (if t162 = bt105.1 then (some true) else none))))) else none) else none)) else none)))) else none))))))) else none) else none)) else none)))) else none))) else none) else none)) else none)))))))
theorem laws_FnExactTrimFlow.mono : ∀ a0 k,LeO (laws_FnExactTrimFlow.f k a0) (laws_FnExactTrimFlow.f (k + 1) a0):=by
 intro a0 k
 unfold laws_FnExactTrimFlow.f
 repeat' first
   | (with_reducible exact laws_szBlockS.mono _ _ _)
   | (with_reducible exact laws_toBlockS.mono _ _)
   | (with_reducible exact spec_TrimFlow.mono _ _)
   | (with_reducible exact impl_TrimFlow.mono _ _)
   | (with_reducible exact laws_eqBlockS.mono _ _ _)
   | (with_reducible exact laws_eqIntS.mono _ _ _)
   | (with_reducible exact laws_markBlockS.mono _ _ _)
   | (with_reducible exact laws_markIntS.mono _ _ _)
   | (with_reducible exact laws_heldBlockS.mono _ _ _)
   | (with_reducible exact laws_heldIntS.mono _ _ _)
   | (with_reducible exact LeO.refl _)
   | (with_reducible exact LeO.none _)
   | (with_reducible refine LeO.ite ?_ ?_)
   | (with_reducible refine LeO.bind ?_ (fun _ => ?_))
set_option maxHeartbeats 8000000 in
set_option maxRecDepth 100000 in
theorem laws_FnExactTrimFlow.calls (k : Nat) (A0 : Option Addr) (c0 : Nat) (l0 : List (S53)) (r : Bool) (w : World) (hr0 : Kd.C k53 w A0 l0.length l0) (hc0 : l0.length ≤ c0) (h : laws_FnExactTrimFlow.f k l0 = some r) :
  Calls Try.prog 7 #[.slice A0 l0.length c0] w fun e w' => e = .returned (.bool r) ∧ Below w.heap.size w w':=by
 have HR0:=Aside0.mk hr0
 have HC0:=Aside0.mk hc0
 clear hr0 hc0
 have tok4 : Aside0 True:=⟨trivial⟩
 have tok9 : Aside0 True:=⟨trivial⟩
 have tok20 : Aside0 True:=⟨trivial⟩
 have tok34 : Aside0 True:=⟨trivial⟩
 have tok45 : Aside0 True:=⟨trivial⟩
 have tok59 : Aside0 True:=⟨trivial⟩
 have tok64 : Aside0 True:=⟨trivial⟩
 have tok69 : Aside0 True:=⟨trivial⟩
 have tok78 : Aside0 True:=⟨trivial⟩
 have tok84 : Aside0 True:=⟨trivial⟩
 have tok90 : Aside0 True:=⟨trivial⟩
 have tok95 : Aside0 True:=⟨trivial⟩
 have tok101 : Aside0 True:=⟨trivial⟩
 have tok108 : Aside0 True:=⟨trivial⟩
 have tok114 : Aside0 True:=⟨trivial⟩
 have tok119 : Aside0 True:=⟨trivial⟩
 have tok124 : Aside0 True:=⟨trivial⟩
 have tok135 : Aside0 True:=⟨trivial⟩
 have tok149 : Aside0 True:=⟨trivial⟩
 have tok154 : Aside0 True:=⟨trivial⟩
 have tok159 : Aside0 True:=⟨trivial⟩
 have tok164 : Aside0 True:=⟨trivial⟩
 have HB:=Aside0.mk (Below.refl w.heap.size w)
 unfold laws_FnExactTrimFlow.f at h
 have bq_ : ∀ b_ : Bool,(b_ != b_) = false:=by decide
 replace h:=Option.bind_eq_some_iff.mp h
 obtain ⟨t2,A10,h⟩:=h
 (try dsimp only at h)
 have A1:=Aside0.mk A10
 clear A10
 by_cases c1 : t2 < 0
 ·rw [if_pos c1] at h
  obtain rfl:=Option.some.inj h
  have c1b : decide (t2 < 0) = true:=decide_eq_true c1
  clear c1
  go_enter Try.func7,Try.ntmps7
  go_wp2_with (first | (go_at_call 9;have u_:=tok4;clear u_;((with_reducible refine (laws_szBlockS.calls k _ _ l0 1048576 t2 _ (Kd.C_below HR0.out HB.out) HC0.out A1.out).mono ?_));rintro e w3 ⟨rfl,hb⟩;have nb_:=Aside0.mk (below_step HB.out hb);clear HB;have HB:=nb_;clear nb_;have Z5:=Aside0.mk hb.size;clear hb tok4))
  go_ret
  exact ⟨rfl,HB.out⟩
 rw [if_neg c1] at h
 have c1b : decide (t2 < 0) = false:=decide_eq_false c1
 clear c1
 replace h:=Option.bind_eq_some_iff.mp h
 obtain ⟨t7,A60,h⟩:=h
 (try dsimp only at h)
 have A6:=Aside0.mk A60
 clear A60
 replace h:=Option.bind_eq_some_iff.mp h
 obtain ⟨⟨t16,t17,t18⟩,A150,h⟩:=h
 (try dsimp only at h)
 have A15:=Aside0.mk A150
 clear A150
 replace h:=Option.bind_eq_some_iff.mp h
 obtain ⟨t32,A310,h⟩:=h
 (try dsimp only at h)
 have A31:=Aside0.mk A310
 clear A310
 replace h:=Option.bind_eq_some_iff.mp h
 obtain ⟨⟨t41,t42,t43⟩,A400,h⟩:=h
 (try dsimp only at h)
 have A40:=Aside0.mk A400
 clear A400
 replace h:=Option.bind_eq_some_iff.mp h
 obtain ⟨t57,A560,h⟩:=h
 (try dsimp only at h)
 have A56:=Aside0.mk A560
 clear A560
 cases t57 with
 | false => exact absurd h (by simp)
 | true =>
  rw [if_pos rfl] at h
  replace h:=Option.bind_eq_some_iff.mp h
  obtain ⟨t62,A610,h⟩:=h
  (try dsimp only at h)
  have A61:=Aside0.mk A610
  clear A610
  cases t62 with
  | false => exact absurd h (by simp)
  | true =>
   rw [if_pos rfl] at h
   by_cases c2 : t43 = t18
   rotate_left
   ·rw [if_neg c2] at h;exact absurd h (by simp)
   rw [if_pos c2] at h
   have c2b : (t43 != t18) = false:=by rw [c2];simp
   have c2d : (t43 == t18) = true:=by rw [c2];simp
   have C2:=Aside0.mk c2
   clear c2
   replace h:=Option.bind_eq_some_iff.mp h
   obtain ⟨t67,A660,h⟩:=h
   (try dsimp only at h)
   have A66:=Aside0.mk A660
   clear A660
   replace h:=Option.bind_eq_some_iff.mp h
   obtain ⟨t76,A750,h⟩:=h
   (try dsimp only at h)
   have A75:=Aside0.mk A750
   clear A750
   cases t76 with
   | false => exact absurd h (by simp)
   | true =>
    rw [if_pos rfl] at h
    replace h:=Option.bind_eq_some_iff.mp h
    obtain ⟨⟨t81,t82⟩,A800,h⟩:=h
    (try dsimp only at h)
    have A80:=Aside0.mk A800
    clear A800
    by_cases c3 : t81 < 0
    ·rw [if_pos c3] at h;exact absurd h (by simp)
    rw [if_neg c3] at h
    have c3b : decide (t81 < 0) = false:=decide_eq_false c3
    clear c3
    replace h:=Option.bind_eq_some_iff.mp h
    obtain ⟨t88,A870,h⟩:=h
    (try dsimp only at h)
    have A87:=Aside0.mk A870
    clear A870
    cases t88 with
    | false => exact absurd h (by simp)
    | true =>
     rw [if_pos rfl] at h
     replace h:=Option.bind_eq_some_iff.mp h
     obtain ⟨t93,A920,h⟩:=h
     (try dsimp only at h)
     have A92:=Aside0.mk A920
     clear A920
     cases t93 with
     | false => exact absurd h (by simp)
     | true =>
      rw [if_pos rfl] at h
      by_cases c4 : t43 = t18
      rotate_left
      ·rw [if_neg c4] at h;exact absurd h (by simp)
      rw [if_pos c4] at h
      have c4b : (t43 != t18) = false:=by rw [c4];simp
      have c4d : (t43 == t18) = true:=by rw [c4];simp
      have C4:=Aside0.mk c4
      clear c4
      replace h:=Option.bind_eq_some_iff.mp h
      obtain ⟨⟨t98,t99⟩,A970,h⟩:=h
      (try dsimp only at h)
      have A97:=Aside0.mk A970
      clear A970
      replace h:=Option.bind_eq_some_iff.mp h
      obtain ⟨⟨t105,t106⟩,A1040,h⟩:=h
      (try dsimp only at h)
      have A104:=Aside0.mk A1040
      clear A1040
      replace h:=Option.bind_eq_some_iff.mp h
      obtain ⟨t112,A1110,h⟩:=h
      (try dsimp only at h)
      have A111:=Aside0.mk A1110
      clear A1110
      by_cases c5 : t112 < 0
      ·rw [if_pos c5] at h;exact absurd h (by simp)
      rw [if_neg c5] at h
      have c5b : decide (t112 < 0) = false:=decide_eq_false c5
      clear c5
      replace h:=Option.bind_eq_some_iff.mp h
      obtain ⟨t117,A1160,h⟩:=h
      (try dsimp only at h)
      have A116:=Aside0.mk A1160
      clear A1160
      by_cases c6 : t117 < 0
      ·rw [if_pos c6] at h;exact absurd h (by simp)
      rw [if_neg c6] at h
      have c6b : decide (t117 < 0) = false:=decide_eq_false c6
      clear c6
      by_cases c7 : t117 = t105
      rotate_left
      ·rw [if_neg c7] at h;exact absurd h (by simp)
      rw [if_pos c7] at h
      have c7b : (t117 != t105) = false:=by rw [c7];simp
      have c7d : (t117 == t105) = true:=by rw [c7];simp
      have C7:=Aside0.mk c7
      clear c7
      replace h:=Option.bind_eq_some_iff.mp h
      obtain ⟨t122,A1210,h⟩:=h
      (try dsimp only at h)
      have A121:=Aside0.mk A1210
      clear A1210
      replace h:=Option.bind_eq_some_iff.mp h
      obtain ⟨⟨t131,t132,t133⟩,A1300,h⟩:=h
      (try dsimp only at h)
      have A130:=Aside0.mk A1300
      clear A1300
      replace h:=Option.bind_eq_some_iff.mp h
      obtain ⟨t147,A1460,h⟩:=h
      (try dsimp only at h)
      have A146:=Aside0.mk A1460
      clear A1460
      cases t147 with
      | false => exact absurd h (by simp)
      | true =>
       rw [if_pos rfl] at h
       replace h:=Option.bind_eq_some_iff.mp h
       obtain ⟨t152,A1510,h⟩:=h
       (try dsimp only at h)
       have A151:=Aside0.mk A1510
       clear A1510
       cases t152 with
       | false => exact absurd h (by simp)
       | true =>
        rw [if_pos rfl] at h
        by_cases c8 : t133 = t18
        rotate_left
        ·rw [if_neg c8] at h;exact absurd h (by simp)
        rw [if_pos c8] at h
        have c8b : (t133 != t18) = false:=by rw [c8];simp
        have c8d : (t133 == t18) = true:=by rw [c8];simp
        have C8:=Aside0.mk c8
        clear c8
        replace h:=Option.bind_eq_some_iff.mp h
        obtain ⟨t157,A1560,h⟩:=h
        (try dsimp only at h)
        have A156:=Aside0.mk A1560
        clear A1560
        by_cases c9 : t157 < 0
        ·rw [if_pos c9] at h;exact absurd h (by simp)
        rw [if_neg c9] at h
        have c9b : decide (t157 < 0) = false:=decide_eq_false c9
        clear c9
        replace h:=Option.bind_eq_some_iff.mp h
        obtain ⟨t162,A1610,h⟩:=h
        (try dsimp only at h)
        have A161:=Aside0.mk A1610
        clear A1610
        by_cases c10 : t162 < 0
        ·rw [if_pos c10] at h;exact absurd h (by simp)
        rw [if_neg c10] at h
        have c10b : decide (t162 < 0) = false:=decide_eq_false c10
        clear c10
        by_cases c11 : t162 = t105
        rotate_left
        ·rw [if_neg c11] at h;exact absurd h (by simp)
        rw [if_pos c11] at h
        have c11b : (t162 != t105) = false:=by rw [c11];simp
        have c11d : (t162 == t105) = true:=by rw [c11];simp
        have C11:=Aside0.mk c11
        clear c11
        obtain rfl:=Option.some.inj h
        go_enter Try.func7,Try.ntmps7
        go_wp2_with (first | (go_at_call 9;have u_:=tok4;clear u_;((with_reducible refine (laws_szBlockS.calls k _ _ l0 1048576 t2 _ (Kd.C_below HR0.out HB.out) HC0.out A1.out).mono ?_));rintro e w3 ⟨rfl,hb⟩;have nb_:=Aside0.mk (below_step HB.out hb);clear HB;have HB:=nb_;clear nb_;have Z5:=Aside0.mk hb.size;clear hb tok4) | (go_at_call 11;have u_:=tok9;clear u_;((with_reducible refine (laws_toBlockS.calls k _ _ l0 t7 _ (Kd.C_below HR0.out HB.out) HC0.out A6.out).mono ?_));rintro e w8 ⟨v10,rfl,ho0,hb⟩;have nF11_:=Aside0.mk (OwnS.make HB.out hb ho0);have nb_:=Aside0.mk (below_step HB.out hb);clear HB;have HB:=nb_;clear nb_;have Z12:=Aside0.mk hb.size;have F11:=nF11_;clear nF11_;obtain ⟨Ao14,co14,eo14⟩:=Kd.S_slice F11.out;subst eo14;clear hb tok9 ho0) | (go_at_call 30;have u_:=tok20;clear u_;((with_reducible refine (spec_TrimFlow.calls k _ _ t7 t16 t17 t18 _ (Kd.S_reads' F11.out).2.2 (S_cap F11.out) A15.out).mono ?_));rintro e w19 ⟨v21,v22,mw19,rfl,hm1_,hm2_,ho0,ho1,hb⟩;have nF23_:=Aside0.mk (show OwnS k56 56 w w19 mw19 w19.heap.size (v21) t16 from Kd.S_lower (Kd.S_mono (Kd.S_bound ho0) (fun _ hk => ⟨hk.2.1,hk.2.2.1⟩)) (Nat.le_trans HB.out.size hm1_));have nF24_:=Aside0.mk (show OwnR (Kd.int .i64) 3 w w19 w8.heap.size mw19 (v22) t17 from Kd.R_lower (Kd.R_mono (Kd.R_bound ho1) (fun _ hk => ⟨hk.2.1,hk.1⟩)) HB.out.size);have Z25:=Aside0.mk hm1_;have Z26:=Aside0.mk hm2_;clear hm1_ hm2_;have n0_:=Aside0.mk (OwnS.below F11.out hb);have nb_:=Aside0.mk (below_step HB.out hb);clear F11 HB;have F11:=n0_;have HB:=nb_;clear n0_ nb_;have Z27:=Aside0.mk hb.size;have F23:=nF23_;clear nF23_;obtain ⟨Ao29,co29,eo29⟩:=Kd.S_slice F23.out;subst eo29;have F24:=nF24_;clear nF24_;obtain ⟨Ao30,co30,eo30⟩:=Kd.R_slice F24.out;subst eo30;clear hb tok20 ho0 ho1) | (go_at_call 11;have u_:=tok34;clear u_;((with_reducible refine (laws_toBlockS.calls k _ _ l0 t32 _ (Kd.C_below HR0.out HB.out) HC0.out A31.out).mono ?_));rintro e w33 ⟨v35,rfl,ho0,hb⟩;have nF36_:=Aside0.mk (OwnS.make HB.out hb ho0);have n0_:=Aside0.mk (OwnS.below F11.out hb);have n1_:=Aside0.mk (OwnS.below F23.out hb);have n2_:=Aside0.mk (OwnR.below F24.out hb);have nb_:=Aside0.mk (below_step HB.out hb);clear F11 F23 F24 HB;have F11:=n0_;have F23:=n1_;have F24:=n2_;have HB:=nb_;clear n0_ n1_ n2_ nb_;have Z37:=Aside0.mk hb.size;have F36:=nF36_;clear nF36_;obtain ⟨Ao39,co39,eo39⟩:=Kd.S_slice F36.out;subst eo39;clear hb tok34 ho0) | (go_at_call 31;have u_:=tok45;clear u_;((with_reducible refine (impl_TrimFlow.calls k _ _ t32 t41 t42 t43 _ (Kd.S_reads' F36.out).2.2 (S_cap F36.out) A40.out).mono ?_));rintro e w44 ⟨v46,v47,mw44,rfl,hm1_,hm2_,ho0,ho1,hb⟩;have nF48_:=Aside0.mk (show OwnS k56 56 w w44 mw44 w44.heap.size (v46) t41 from Kd.S_lower (Kd.S_mono (Kd.S_bound ho0) (fun _ hk => ⟨hk.2.1,hk.2.2.1⟩)) (Nat.le_trans HB.out.size hm1_));have nF49_:=Aside0.mk (show OwnR (Kd.int .i64) 3 w w44 w33.heap.size mw44 (v47) t42 from Kd.R_lower (Kd.R_mono (Kd.R_bound ho1) (fun _ hk => ⟨hk.2.1,hk.1⟩)) HB.out.size);have Z50:=Aside0.mk hm1_;have Z51:=Aside0.mk hm2_;clear hm1_ hm2_;have n0_:=Aside0.mk (OwnS.below F11.out hb);have n1_:=Aside0.mk (OwnS.below F23.out hb);have n2_:=Aside0.mk (OwnR.below F24.out hb);have n3_:=Aside0.mk (OwnS.below F36.out hb);have nb_:=Aside0.mk (below_step HB.out hb);clear F11 F23 F24 F36 HB;have F11:=n0_;have F23:=n1_;have F24:=n2_;have F36:=n3_;have HB:=nb_;clear n0_ n1_ n2_ n3_ nb_;have Z52:=Aside0.mk hb.size;have F48:=nF48_;clear nF48_;obtain ⟨Ao54,co54,eo54⟩:=Kd.S_slice F48.out;subst eo54;have F49:=nF49_;clear nF49_;obtain ⟨Ao55,co55,eo55⟩:=Kd.R_slice F49.out;subst eo55;clear hb tok45 ho0 ho1) | (go_at_call 13;have u_:=tok59;clear u_;((with_reducible refine (laws_eqBlockS.calls k _ _ t41 _ _ t16 true _ (Kd.S_reads' F48.out).2.2 (S_cap F48.out) (Kd.S_reads' F23.out).2.2 (S_cap F23.out) A56.out).mono ?_));rintro e w58 ⟨rfl,hb⟩;have n0_:=Aside0.mk (OwnS.below F11.out hb);have n1_:=Aside0.mk (OwnS.below F23.out hb);have n2_:=Aside0.mk (OwnR.below F24.out hb);have n3_:=Aside0.mk (OwnS.below F36.out hb);have n4_:=Aside0.mk (OwnS.below F48.out hb);have n5_:=Aside0.mk (OwnR.below F49.out hb);have nb_:=Aside0.mk (below_step HB.out hb);clear F11 F23 F24 F36 F48 F49 HB;have F11:=n0_;have F23:=n1_;have F24:=n2_;have F36:=n3_;have F48:=n4_;have F49:=n5_;have HB:=nb_;clear n0_ n1_ n2_ n3_ n4_ n5_ nb_;have Z60:=Aside0.mk hb.size;clear hb tok59) | (go_at_call 22;have u_:=tok64;clear u_;((with_reducible refine (laws_eqIntS.calls k _ _ t42 _ _ t17 true _ (Kd.R_reads' F49.out).2.2 (R_cap F49.out) (Kd.R_reads' F24.out).2.2 (R_cap F24.out) A61.out).mono ?_));rintro e w63 ⟨rfl,hd⟩;have hb:=hd.below;clear hd;have n0_:=Aside0.mk (OwnS.below F11.out hb);have n1_:=Aside0.mk (OwnS.below F23.out hb);have n2_:=Aside0.mk (OwnR.below F24.out hb);have n3_:=Aside0.mk (OwnS.below F36.out hb);have n4_:=Aside0.mk (OwnS.below F48.out hb);have n5_:=Aside0.mk (OwnR.below F49.out hb);have nb_:=Aside0.mk (below_step HB.out hb);clear F11 F23 F24 F36 F48 F49 HB;have F11:=n0_;have F23:=n1_;have F24:=n2_;have F36:=n3_;have F48:=n4_;have F49:=n5_;have HB:=nb_;clear n0_ n1_ n2_ n3_ n4_ n5_ nb_;have Z65:=Aside0.mk hb.size;clear hb tok64) | (go_at_call 11;have u_:=tok69;clear u_;((with_reducible refine (laws_toBlockS.calls k _ _ l0 t67 _ (Kd.C_below HR0.out HB.out) HC0.out A66.out).mono ?_));rintro e w68 ⟨v70,rfl,ho0,hb⟩;have nF71_:=Aside0.mk (OwnS.make HB.out hb ho0);have n0_:=Aside0.mk (OwnS.below F11.out hb);have n1_:=Aside0.mk (OwnS.below F23.out hb);have n2_:=Aside0.mk (OwnR.below F24.out hb);have n3_:=Aside0.mk (OwnS.below F36.out hb);have n4_:=Aside0.mk (OwnS.below F48.out hb);have n5_:=Aside0.mk (OwnR.below F49.out hb);have nb_:=Aside0.mk (below_step HB.out hb);clear F11 F23 F24 F36 F48 F49 HB;have F11:=n0_;have F23:=n1_;have F24:=n2_;have F36:=n3_;have F48:=n4_;have F49:=n5_;have HB:=nb_;clear n0_ n1_ n2_ n3_ n4_ n5_ nb_;have Z72:=Aside0.mk hb.size;have F71:=nF71_;clear nF71_;obtain ⟨Ao74,co74,eo74⟩:=Kd.S_slice F71.out;subst eo74;clear hb tok69 ho0) | (go_at_call 13;have u_:=tok78;clear u_;((with_reducible refine (laws_eqBlockS.calls k _ _ t32 _ _ t67 true _ (Kd.S_reads' F36.out).2.2 (S_cap F36.out) (Kd.S_reads' F71.out).2.2 (S_cap F71.out) A75.out).mono ?_));rintro e w77 ⟨rfl,hb⟩;have n0_:=Aside0.mk (OwnS.below F11.out hb);have n1_:=Aside0.mk (OwnS.below F23.out hb);have n2_:=Aside0.mk (OwnR.below F24.out hb);have n3_:=Aside0.mk (OwnS.below F36.out hb);have n4_:=Aside0.mk (OwnS.below F48.out hb);have n5_:=Aside0.mk (OwnR.below F49.out hb);have n6_:=Aside0.mk (OwnS.below F71.out hb);have nb_:=Aside0.mk (below_step HB.out hb);clear F11 F23 F24 F36 F48 F49 F71 HB;have F11:=n0_;have F23:=n1_;have F24:=n2_;have F36:=n3_;have F48:=n4_;have F49:=n5_;have F71:=n6_;have HB:=nb_;clear n0_ n1_ n2_ n3_ n4_ n5_ n6_ nb_;have Z79:=Aside0.mk hb.size;clear hb tok78) | (go_at_call 17;have u_:=tok84;clear u_;((with_reducible refine (laws_markBlockS.calls k (fun k_ => w19.heap.size ≤ k_ ∧ k_ < w33.heap.size) (.slice Ao39 t32.length co39) t32 1 t81 t82 w _ HB.out F36.out A80.out).mono ?_));rintro e w83 ⟨rfl,hy,hb,hkp⟩;have Z85:=Aside0.mk hkp.1;have ny_ : Aside0 (OwnS k56 56 w w83 w19.heap.size w33.heap.size (.slice Ao39 t32.length co39) t82):=⟨hy⟩;have n0_:=Aside0.mk (OwnS.kept F11.out hkp (by have:=Z5.out;have:=Z12.out;have:=Z25.out;have:=Z26.out;have:=Z27.out;have:=Z37.out;have:=Z50.out;have:=Z51.out;have:=Z52.out;have:=Z60.out;have:=Z65.out;have:=Z72.out;have:=Z79.out;omega));have n1_:=Aside0.mk (OwnS.kept F23.out hkp (by have:=Z5.out;have:=Z12.out;have:=Z25.out;have:=Z26.out;have:=Z27.out;have:=Z37.out;have:=Z50.out;have:=Z51.out;have:=Z52.out;have:=Z60.out;have:=Z65.out;have:=Z72.out;have:=Z79.out;omega));have n2_:=Aside0.mk (OwnR.kept F24.out hkp (by have:=Z5.out;have:=Z12.out;have:=Z25.out;have:=Z26.out;have:=Z27.out;have:=Z37.out;have:=Z50.out;have:=Z51.out;have:=Z52.out;have:=Z60.out;have:=Z65.out;have:=Z72.out;have:=Z79.out;omega));have n4_:=Aside0.mk (OwnS.kept F48.out hkp (by have:=Z5.out;have:=Z12.out;have:=Z25.out;have:=Z26.out;have:=Z27.out;have:=Z37.out;have:=Z50.out;have:=Z51.out;have:=Z52.out;have:=Z60.out;have:=Z65.out;have:=Z72.out;have:=Z79.out;omega));have n5_:=Aside0.mk (OwnR.kept F49.out hkp (by have:=Z5.out;have:=Z12.out;have:=Z25.out;have:=Z26.out;have:=Z27.out;have:=Z37.out;have:=Z50.out;have:=Z51.out;have:=Z52.out;have:=Z60.out;have:=Z65.out;have:=Z72.out;have:=Z79.out;omega));have n6_:=Aside0.mk (OwnS.kept F71.out hkp (by have:=Z5.out;have:=Z12.out;have:=Z25.out;have:=Z26.out;have:=Z27.out;have:=Z37.out;have:=Z50.out;have:=Z51.out;have:=Z52.out;have:=Z60.out;have:=Z65.out;have:=Z72.out;have:=Z79.out;omega));have nb_:=Aside0.mk (hb);clear F11 F23 F24 F48 F49 F71 HB;have F11:=n0_;have F23:=n1_;have F24:=n2_;have F48:=n4_;have F49:=n5_;have F71:=n6_;have HB:=nb_;clear n0_ n1_ n2_ n4_ n5_ n6_ nb_;have F86:=ny_;clear ny_ hy hb hkp F36;clear tok84) | (go_at_call 13;have u_:=tok90;clear u_;((with_reducible refine (laws_eqBlockS.calls k _ _ t41 _ _ t16 true _ (Kd.S_reads' F48.out).2.2 (S_cap F48.out) (Kd.S_reads' F23.out).2.2 (S_cap F23.out) A87.out).mono ?_));rintro e w89 ⟨rfl,hb⟩;have n0_:=Aside0.mk (OwnS.below F11.out hb);have n1_:=Aside0.mk (OwnS.below F23.out hb);have n2_:=Aside0.mk (OwnR.below F24.out hb);have n3_:=Aside0.mk (OwnS.below F86.out hb);have n4_:=Aside0.mk (OwnS.below F48.out hb);have n5_:=Aside0.mk (OwnR.below F49.out hb);have n6_:=Aside0.mk (OwnS.below F71.out hb);have nb_:=Aside0.mk (below_step HB.out hb);clear F11 F23 F24 F86 F48 F49 F71 HB;have F11:=n0_;have F23:=n1_;have F24:=n2_;have F86:=n3_;have F48:=n4_;have F49:=n5_;have F71:=n6_;have HB:=nb_;clear n0_ n1_ n2_ n3_ n4_ n5_ n6_ nb_;have Z91:=Aside0.mk hb.size;clear hb tok90) | (go_at_call 22;have u_:=tok95;clear u_;((with_reducible refine (laws_eqIntS.calls k _ _ t42 _ _ t17 true _ (Kd.R_reads' F49.out).2.2 (R_cap F49.out) (Kd.R_reads' F24.out).2.2 (R_cap F24.out) A92.out).mono ?_));rintro e w94 ⟨rfl,hd⟩;have hb:=hd.below;clear hd;have n0_:=Aside0.mk (OwnS.below F11.out hb);have n1_:=Aside0.mk (OwnS.below F23.out hb);have n2_:=Aside0.mk (OwnR.below F24.out hb);have n3_:=Aside0.mk (OwnS.below F86.out hb);have n4_:=Aside0.mk (OwnS.below F48.out hb);have n5_:=Aside0.mk (OwnR.below F49.out hb);have n6_:=Aside0.mk (OwnS.below F71.out hb);have nb_:=Aside0.mk (below_step HB.out hb);clear F11 F23 F24 F86 F48 F49 F71 HB;have F11:=n0_;have F23:=n1_;have F24:=n2_;have F86:=n3_;have F48:=n4_;have F49:=n5_;have F71:=n6_;have HB:=nb_;clear n0_ n1_ n2_ n3_ n4_ n5_ n6_ nb_;have Z96:=Aside0.mk hb.size;clear hb tok95) | (go_at_call 17;have u_:=tok101;clear u_;((with_reducible refine (laws_markBlockS.calls k (fun k_ => mw44 ≤ k_ ∧ k_ < w44.heap.size) (.slice Ao54 t41.length co54) t41 1 t98 t99 w _ HB.out F48.out A97.out).mono ?_));rintro e w100 ⟨rfl,hy,hb,hkp⟩;have Z102:=Aside0.mk hkp.1;have ny_ : Aside0 (OwnS k56 56 w w100 mw44 w44.heap.size (.slice Ao54 t41.length co54) t99):=⟨hy⟩;have n0_:=Aside0.mk (OwnS.kept F11.out hkp (by have:=Z5.out;have:=Z12.out;have:=Z25.out;have:=Z26.out;have:=Z27.out;have:=Z37.out;have:=Z50.out;have:=Z51.out;have:=Z52.out;have:=Z60.out;have:=Z65.out;have:=Z72.out;have:=Z79.out;have:=Z85.out;have:=Z91.out;have:=Z96.out;omega));have n1_:=Aside0.mk (OwnS.kept F23.out hkp (by have:=Z5.out;have:=Z12.out;have:=Z25.out;have:=Z26.out;have:=Z27.out;have:=Z37.out;have:=Z50.out;have:=Z51.out;have:=Z52.out;have:=Z60.out;have:=Z65.out;have:=Z72.out;have:=Z79.out;have:=Z85.out;have:=Z91.out;have:=Z96.out;omega));have n2_:=Aside0.mk (OwnR.kept F24.out hkp (by have:=Z5.out;have:=Z12.out;have:=Z25.out;have:=Z26.out;have:=Z27.out;have:=Z37.out;have:=Z50.out;have:=Z51.out;have:=Z52.out;have:=Z60.out;have:=Z65.out;have:=Z72.out;have:=Z79.out;have:=Z85.out;have:=Z91.out;have:=Z96.out;omega));have n3_:=Aside0.mk (OwnS.kept F86.out hkp (by have:=Z5.out;have:=Z12.out;have:=Z25.out;have:=Z26.out;have:=Z27.out;have:=Z37.out;have:=Z50.out;have:=Z51.out;have:=Z52.out;have:=Z60.out;have:=Z65.out;have:=Z72.out;have:=Z79.out;have:=Z85.out;have:=Z91.out;have:=Z96.out;omega));have n5_:=Aside0.mk (OwnR.kept F49.out hkp (by have:=Z5.out;have:=Z12.out;have:=Z25.out;have:=Z26.out;have:=Z27.out;have:=Z37.out;have:=Z50.out;have:=Z51.out;have:=Z52.out;have:=Z60.out;have:=Z65.out;have:=Z72.out;have:=Z79.out;have:=Z85.out;have:=Z91.out;have:=Z96.out;omega));have n6_:=Aside0.mk (OwnS.kept F71.out hkp (by have:=Z5.out;have:=Z12.out;have:=Z25.out;have:=Z26.out;have:=Z27.out;have:=Z37.out;have:=Z50.out;have:=Z51.out;have:=Z52.out;have:=Z60.out;have:=Z65.out;have:=Z72.out;have:=Z79.out;have:=Z85.out;have:=Z91.out;have:=Z96.out;omega));have nb_:=Aside0.mk (hb);clear F11 F23 F24 F86 F49 F71 HB;have F11:=n0_;have F23:=n1_;have F24:=n2_;have F86:=n3_;have F49:=n5_;have F71:=n6_;have HB:=nb_;clear n0_ n1_ n2_ n3_ n5_ n6_ nb_;have F103:=ny_;clear ny_ hy hb hkp F48;clear tok101) | (go_at_call 23;have u_:=tok108;clear u_;((with_reducible refine (laws_markIntS.calls k (fun k_ => w33.heap.size ≤ k_ ∧ k_ < mw44) (.slice Ao55 t42.length co55) t42 t98 t105 t106 w _ HB.out F49.out A104.out).mono ?_));rintro e w107 ⟨rfl,hy,hb,hkp⟩;have Z109:=Aside0.mk hkp.1;have ny_ : Aside0 (OwnR (Kd.int .i64) 3 w w107 w33.heap.size mw44 (.slice Ao55 t42.length co55) t106):=⟨Kd.R_reok rfl hy (fun k_ e_ => F49.out.1 k_ e_)⟩;have n0_:=Aside0.mk (OwnS.kept F11.out hkp (by have:=Z5.out;have:=Z12.out;have:=Z25.out;have:=Z26.out;have:=Z27.out;have:=Z37.out;have:=Z50.out;have:=Z51.out;have:=Z52.out;have:=Z60.out;have:=Z65.out;have:=Z72.out;have:=Z79.out;have:=Z85.out;have:=Z91.out;have:=Z96.out;have:=Z102.out;omega));have n1_:=Aside0.mk (OwnS.kept F23.out hkp (by have:=Z5.out;have:=Z12.out;have:=Z25.out;have:=Z26.out;have:=Z27.out;have:=Z37.out;have:=Z50.out;have:=Z51.out;have:=Z52.out;have:=Z60.out;have:=Z65.out;have:=Z72.out;have:=Z79.out;have:=Z85.out;have:=Z91.out;have:=Z96.out;have:=Z102.out;omega));have n2_:=Aside0.mk (OwnR.kept F24.out hkp (by have:=Z5.out;have:=Z12.out;have:=Z25.out;have:=Z26.out;have:=Z27.out;have:=Z37.out;have:=Z50.out;have:=Z51.out;have:=Z52.out;have:=Z60.out;have:=Z65.out;have:=Z72.out;have:=Z79.out;have:=Z85.out;have:=Z91.out;have:=Z96.out;have:=Z102.out;omega));have n3_:=Aside0.mk (OwnS.kept F86.out hkp (by have:=Z5.out;have:=Z12.out;have:=Z25.out;have:=Z26.out;have:=Z27.out;have:=Z37.out;have:=Z50.out;have:=Z51.out;have:=Z52.out;have:=Z60.out;have:=Z65.out;have:=Z72.out;have:=Z79.out;have:=Z85.out;have:=Z91.out;have:=Z96.out;have:=Z102.out;omega));have n4_:=Aside0.mk (OwnS.kept F103.out hkp (by have:=Z5.out;have:=Z12.out;have:=Z25.out;have:=Z26.out;have:=Z27.out;have:=Z37.out;have:=Z50.out;have:=Z51.out;have:=Z52.out;have:=Z60.out;have:=Z65.out;have:=Z72.out;have:=Z79.out;have:=Z85.out;have:=Z91.out;have:=Z96.out;have:=Z102.out;omega));have n6_:=Aside0.mk (OwnS.kept F71.out hkp (by have:=Z5.out;have:=Z12.out;have:=Z25.out;have:=Z26.out;have:=Z27.out;have:=Z37.out;have:=Z50.out;have:=Z51.out;have:=Z52.out;have:=Z60.out;have:=Z65.out;have:=Z72.out;have:=Z79.out;have:=Z85.out;have:=Z91.out;have:=Z96.out;have:=Z102.out;omega));have nb_:=Aside0.mk (hb);clear F11 F23 F24 F86 F103 F71 HB;have F11:=n0_;have F23:=n1_;have F24:=n2_;have F86:=n3_;have F103:=n4_;have F71:=n6_;have HB:=nb_;clear n0_ n1_ n2_ n3_ n4_ n6_ nb_;have F110:=ny_;clear ny_ hy hb hkp F49;clear tok108) | (go_at_call 32;have u_:=tok114;clear u_;refine calls_of_args (args':=#[.slice Ao54 t99.length co54,.int .i64 1]) (by first | (rw [show t99.length = t41.length from (Kd.S_reads' F103.out).1.symm];done) | (rw [show t99.length = t41.length from (Kd.S_reads' F103.out).1.symm];rfl)) ?_;((with_reducible refine (laws_heldBlockS.calls k _ _ t99 1 t112 _ (Kd.S_reads' F103.out).2.2 (S_cap F103.out) A111.out).mono ?_));rintro e w113 ⟨rfl,hd⟩;have hb:=hd.below;clear hd;have n0_:=Aside0.mk (OwnS.below F11.out hb);have n1_:=Aside0.mk (OwnS.below F23.out hb);have n2_:=Aside0.mk (OwnR.below F24.out hb);have n3_:=Aside0.mk (OwnS.below F86.out hb);have n4_:=Aside0.mk (OwnS.below F103.out hb);have n5_:=Aside0.mk (OwnR.below F110.out hb);have n6_:=Aside0.mk (OwnS.below F71.out hb);have nb_:=Aside0.mk (below_step HB.out hb);clear F11 F23 F24 F86 F103 F110 F71 HB;have F11:=n0_;have F23:=n1_;have F24:=n2_;have F86:=n3_;have F103:=n4_;have F110:=n5_;have F71:=n6_;have HB:=nb_;clear n0_ n1_ n2_ n3_ n4_ n5_ n6_ nb_;have Z115:=Aside0.mk hb.size;clear hb tok114) | (go_at_call 24;have u_:=tok119;clear u_;refine calls_of_args (args':=#[.slice Ao55 t106.length co55,.int .i64 t112]) (by first | (rw [show t106.length = t42.length from (Kd.R_reads' F110.out).1.symm];done) | (rw [show t106.length = t42.length from (Kd.R_reads' F110.out).1.symm];rfl)) ?_;((with_reducible refine (laws_heldIntS.calls k _ _ t106 t112 t117 _ (Kd.R_reads' F110.out).2.2 (R_cap F110.out) A116.out).mono ?_));rintro e w118 ⟨rfl,hd⟩;have hb:=hd.below;clear hd;have n0_:=Aside0.mk (OwnS.below F11.out hb);have n1_:=Aside0.mk (OwnS.below F23.out hb);have n2_:=Aside0.mk (OwnR.below F24.out hb);have n3_:=Aside0.mk (OwnS.below F86.out hb);have n4_:=Aside0.mk (OwnS.below F103.out hb);have n5_:=Aside0.mk (OwnR.below F110.out hb);have n6_:=Aside0.mk (OwnS.below F71.out hb);have nb_:=Aside0.mk (below_step HB.out hb);clear F11 F23 F24 F86 F103 F110 F71 HB;have F11:=n0_;have F23:=n1_;have F24:=n2_;have F86:=n3_;have F103:=n4_;have F110:=n5_;have F71:=n6_;have HB:=nb_;clear n0_ n1_ n2_ n3_ n4_ n5_ n6_ nb_;have Z120:=Aside0.mk hb.size;clear hb tok119) | (go_at_call 11;have u_:=tok124;clear u_;((with_reducible refine (laws_toBlockS.calls k _ _ l0 t122 _ (Kd.C_below HR0.out HB.out) HC0.out A121.out).mono ?_));rintro e w123 ⟨v125,rfl,ho0,hb⟩;have nF126_:=Aside0.mk (OwnS.make HB.out hb ho0);have n0_:=Aside0.mk (OwnS.below F11.out hb);have n1_:=Aside0.mk (OwnS.below F23.out hb);have n2_:=Aside0.mk (OwnR.below F24.out hb);have n3_:=Aside0.mk (OwnS.below F86.out hb);have n4_:=Aside0.mk (OwnS.below F103.out hb);have n5_:=Aside0.mk (OwnR.below F110.out hb);have n6_:=Aside0.mk (OwnS.below F71.out hb);have nb_:=Aside0.mk (below_step HB.out hb);clear F11 F23 F24 F86 F103 F110 F71 HB;have F11:=n0_;have F23:=n1_;have F24:=n2_;have F86:=n3_;have F103:=n4_;have F110:=n5_;have F71:=n6_;have HB:=nb_;clear n0_ n1_ n2_ n3_ n4_ n5_ n6_ nb_;have Z127:=Aside0.mk hb.size;have F126:=nF126_;clear nF126_;obtain ⟨Ao129,co129,eo129⟩:=Kd.S_slice F126.out;subst eo129;clear hb tok124 ho0) | (go_at_call 31;have u_:=tok135;clear u_;((with_reducible refine (impl_TrimFlow.calls k _ _ t122 t131 t132 t133 _ (Kd.S_reads' F126.out).2.2 (S_cap F126.out) A130.out).mono ?_));rintro e w134 ⟨v136,v137,mw134,rfl,hm1_,hm2_,ho0,ho1,hb⟩;have nF138_:=Aside0.mk (show OwnS k56 56 w w134 mw134 w134.heap.size (v136) t131 from Kd.S_lower (Kd.S_mono (Kd.S_bound ho0) (fun _ hk => ⟨hk.2.1,hk.2.2.1⟩)) (Nat.le_trans HB.out.size hm1_));have nF139_:=Aside0.mk (show OwnR (Kd.int .i64) 3 w w134 w123.heap.size mw134 (v137) t132 from Kd.R_lower (Kd.R_mono (Kd.R_bound ho1) (fun _ hk => ⟨hk.2.1,hk.1⟩)) HB.out.size);have Z140:=Aside0.mk hm1_;have Z141:=Aside0.mk hm2_;clear hm1_ hm2_;have n0_:=Aside0.mk (OwnS.below F11.out hb);have n1_:=Aside0.mk (OwnS.below F23.out hb);have n2_:=Aside0.mk (OwnR.below F24.out hb);have n3_:=Aside0.mk (OwnS.below F86.out hb);have n4_:=Aside0.mk (OwnS.below F103.out hb);have n5_:=Aside0.mk (OwnR.below F110.out hb);have n6_:=Aside0.mk (OwnS.below F71.out hb);have n7_:=Aside0.mk (OwnS.below F126.out hb);have nb_:=Aside0.mk (below_step HB.out hb);clear F11 F23 F24 F86 F103 F110 F71 F126 HB;have F11:=n0_;have F23:=n1_;have F24:=n2_;have F86:=n3_;have F103:=n4_;have F110:=n5_;have F71:=n6_;have F126:=n7_;have HB:=nb_;clear n0_ n1_ n2_ n3_ n4_ n5_ n6_ n7_ nb_;have Z142:=Aside0.mk hb.size;have F138:=nF138_;clear nF138_;obtain ⟨Ao144,co144,eo144⟩:=Kd.S_slice F138.out;subst eo144;have F139:=nF139_;clear nF139_;obtain ⟨Ao145,co145,eo145⟩:=Kd.R_slice F139.out;subst eo145;clear hb tok135 ho0 ho1) | (go_at_call 13;have u_:=tok149;clear u_;((with_reducible refine (laws_eqBlockS.calls k _ _ t131 _ _ t16 true _ (Kd.S_reads' F138.out).2.2 (S_cap F138.out) (Kd.S_reads' F23.out).2.2 (S_cap F23.out) A146.out).mono ?_));rintro e w148 ⟨rfl,hb⟩;have n0_:=Aside0.mk (OwnS.below F11.out hb);have n1_:=Aside0.mk (OwnS.below F23.out hb);have n2_:=Aside0.mk (OwnR.below F24.out hb);have n3_:=Aside0.mk (OwnS.below F86.out hb);have n4_:=Aside0.mk (OwnS.below F103.out hb);have n5_:=Aside0.mk (OwnR.below F110.out hb);have n6_:=Aside0.mk (OwnS.below F71.out hb);have n7_:=Aside0.mk (OwnS.below F126.out hb);have n8_:=Aside0.mk (OwnS.below F138.out hb);have n9_:=Aside0.mk (OwnR.below F139.out hb);have nb_:=Aside0.mk (below_step HB.out hb);clear F11 F23 F24 F86 F103 F110 F71 F126 F138 F139 HB;have F11:=n0_;have F23:=n1_;have F24:=n2_;have F86:=n3_;have F103:=n4_;have F110:=n5_;have F71:=n6_;have F126:=n7_;have F138:=n8_;have F139:=n9_;have HB:=nb_;clear n0_ n1_ n2_ n3_ n4_ n5_ n6_ n7_ n8_ n9_ nb_;have Z150:=Aside0.mk hb.size;clear hb tok149) | (go_at_call 22;have u_:=tok154;clear u_;((with_reducible refine (laws_eqIntS.calls k _ _ t132 _ _ t17 true _ (Kd.R_reads' F139.out).2.2 (R_cap F139.out) (Kd.R_reads' F24.out).2.2 (R_cap F24.out) A151.out).mono ?_));rintro e w153 ⟨rfl,hd⟩;have hb:=hd.below;clear hd;have n0_:=Aside0.mk (OwnS.below F11.out hb);have n1_:=Aside0.mk (OwnS.below F23.out hb);have n2_:=Aside0.mk (OwnR.below F24.out hb);have n3_:=Aside0.mk (OwnS.below F86.out hb);have n4_:=Aside0.mk (OwnS.below F103.out hb);have n5_:=Aside0.mk (OwnR.below F110.out hb);have n6_:=Aside0.mk (OwnS.below F71.out hb);have n7_:=Aside0.mk (OwnS.below F126.out hb);have n8_:=Aside0.mk (OwnS.below F138.out hb);have n9_:=Aside0.mk (OwnR.below F139.out hb);have nb_:=Aside0.mk (below_step HB.out hb);clear F11 F23 F24 F86 F103 F110 F71 F126 F138 F139 HB;have F11:=n0_;have F23:=n1_;have F24:=n2_;have F86:=n3_;have F103:=n4_;have F110:=n5_;have F71:=n6_;have F126:=n7_;have F138:=n8_;have F139:=n9_;have HB:=nb_;clear n0_ n1_ n2_ n3_ n4_ n5_ n6_ n7_ n8_ n9_ nb_;have Z155:=Aside0.mk hb.size;clear hb tok154) | (go_at_call 32;have u_:=tok159;clear u_;refine calls_of_args (args':=#[.slice Ao54 t99.length co54,.int .i64 1]) (by first | (rw [show t99.length = t41.length from (Kd.S_reads' F103.out).1.symm];done) | (rw [show t99.length = t41.length from (Kd.S_reads' F103.out).1.symm];rfl)) ?_;((with_reducible refine (laws_heldBlockS.calls k _ _ t99 1 t157 _ (Kd.S_reads' F103.out).2.2 (S_cap F103.out) A156.out).mono ?_));rintro e w158 ⟨rfl,hd⟩;have hb:=hd.below;clear hd;have n0_:=Aside0.mk (OwnS.below F11.out hb);have n1_:=Aside0.mk (OwnS.below F23.out hb);have n2_:=Aside0.mk (OwnR.below F24.out hb);have n3_:=Aside0.mk (OwnS.below F86.out hb);have n4_:=Aside0.mk (OwnS.below F103.out hb);have n5_:=Aside0.mk (OwnR.below F110.out hb);have n6_:=Aside0.mk (OwnS.below F71.out hb);have n7_:=Aside0.mk (OwnS.below F126.out hb);have n8_:=Aside0.mk (OwnS.below F138.out hb);have n9_:=Aside0.mk (OwnR.below F139.out hb);have nb_:=Aside0.mk (below_step HB.out hb);clear F11 F23 F24 F86 F103 F110 F71 F126 F138 F139 HB;have F11:=n0_;have F23:=n1_;have F24:=n2_;have F86:=n3_;have F103:=n4_;have F110:=n5_;have F71:=n6_;have F126:=n7_;have F138:=n8_;have F139:=n9_;have HB:=nb_;clear n0_ n1_ n2_ n3_ n4_ n5_ n6_ n7_ n8_ n9_ nb_;have Z160:=Aside0.mk hb.size;clear hb tok159) | (go_at_call 24;have u_:=tok164;clear u_;refine calls_of_args (args':=#[.slice Ao55 t106.length co55,.int .i64 t157]) (by first | (rw [show t106.length = t42.length from (Kd.R_reads' F110.out).1.symm];done) | (rw [show t106.length = t42.length from (Kd.R_reads' F110.out).1.symm];rfl)) ?_;((with_reducible refine (laws_heldIntS.calls k _ _ t106 t157 t162 _ (Kd.R_reads' F110.out).2.2 (R_cap F110.out) A161.out).mono ?_));rintro e w163 ⟨rfl,hd⟩;have hb:=hd.below;clear hd;have n0_:=Aside0.mk (OwnS.below F11.out hb);have n1_:=Aside0.mk (OwnS.below F23.out hb);have n2_:=Aside0.mk (OwnR.below F24.out hb);have n3_:=Aside0.mk (OwnS.below F86.out hb);have n4_:=Aside0.mk (OwnS.below F103.out hb);have n5_:=Aside0.mk (OwnR.below F110.out hb);have n6_:=Aside0.mk (OwnS.below F71.out hb);have n7_:=Aside0.mk (OwnS.below F126.out hb);have n8_:=Aside0.mk (OwnS.below F138.out hb);have n9_:=Aside0.mk (OwnR.below F139.out hb);have nb_:=Aside0.mk (below_step HB.out hb);clear F11 F23 F24 F86 F103 F110 F71 F126 F138 F139 HB;have F11:=n0_;have F23:=n1_;have F24:=n2_;have F86:=n3_;have F103:=n4_;have F110:=n5_;have F71:=n6_;have F126:=n7_;have F138:=n8_;have F139:=n9_;have HB:=nb_;clear n0_ n1_ n2_ n3_ n4_ n5_ n6_ n7_ n8_ n9_ nb_;have Z165:=Aside0.mk hb.size;clear hb tok164))
        go_ret
        exact ⟨rfl,HB.out⟩

/-- THE ONE PURE STATEMENT of laws_FnExactTrimFlow: yours. -/
def laws_FnExactTrimFlow.Pure : Prop:=∀ (l0 : List (S53)),l0.length ≤ maxLen → (∀ x ∈ l0,Good53 x) → ∃ k,laws_FnExactTrimFlow.f k l0 = some true

end Go.Proofs.Ythgkhfhfahifmaa.Q
