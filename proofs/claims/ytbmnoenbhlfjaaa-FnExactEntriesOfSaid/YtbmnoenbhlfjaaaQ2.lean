-- WRITTEN BY A PROGRAM OF THIS SESSION
import Derived.Test.YtbmnoenbhlfjaaaQ0
namespace Go.Proofs.Ytbmnoenbhlfjaaa.Q
open Go.RowKit Go.Proofs.YtbmnoenbhlfjaaaW.PrintWords Go.Proofs.YtbmnoenbhlfjaaaW.PrintLast Go.Proofs.YtbmnoenbhlfjaaaW.PrintMore
attribute [local go_sem] max2_int min2_int max_two min_two max_three min_three max_four min_four   -- for this text's walks alone
set_option linter.unusedVariables false
set_option linter.unusedSimpArgs false

/-! ### spec_l1Put: function 55 -/
def spec_l1Put.l0 : Nat → List Int → Int → Int → Option (List Int)
 | 0,_,_,_ => none
 | k + 1,x0,x1,x5 => if x5 < (x0.length : Int) then (if 0 ≤ x5 then (if (rd x0 x5) < x1 then (spec_l1Put.l0 k x0 x1 (wrap64 (x5 + 1))) else (if (rd x0 x5) = x1 then (some x0) else (if x5 ≤ (x0.length : Int) then ((some (x0.take (x5 : Int).toNat : List Int)).bind fun y119 => (if ([] : List Int).length + y119.length < 17592186044416 then ((some (([] : List Int) ++ y119 : List Int)).bind fun y123 => (if y123.length < 17592186044416 then ((some (y123 ++ [x1] : List Int)).bind fun y126 => ((some (x0.drop (x5 : Int).toNat : List Int)).bind fun y129 => (if y126.length + y129.length < 17592186044416 then (some (y126 ++ y129)) else (none)))) else (none))) else (none))) else (none)))) else (none)) else (if 0 ≤ x5 then (if x5 ≤ (x0.length : Int) then ((some (x0.take (x5 : Int).toNat : List Int)).bind fun y136 => (if ([] : List Int).length + y136.length < 17592186044416 then ((some (([] : List Int) ++ y136 : List Int)).bind fun y140 => (if y140.length < 17592186044416 then ((some (y140 ++ [x1] : List Int)).bind fun y143 => ((some (x0.drop (x5 : Int).toNat : List Int)).bind fun y146 => (if y143.length + y146.length < 17592186044416 then (some (y143 ++ y146)) else (none)))) else (none))) else (none))) else (none)) else (none))
def spec_l1Put.f (k : Nat) (l0 : List Int) (a1 : Int) : Option (List Int):=spec_l1Put.l0 k l0 a1 0
theorem spec_l1Put.mono_l : ∀ k,(∀ y0 y1 y2,LeO (spec_l1Put.l0 k y0 y1 y2) (spec_l1Put.l0 (k + 1) y0 y1 y2))
 | 0 => fun _ _ _ r h => by simp [spec_l1Put.l0] at h
 | k + 1 => by
  have ih0:=spec_l1Put.mono_l k
  ·intro y0 y1 y2
   unfold spec_l1Put.l0
   repeat' first
   | (with_reducible exact ih0 _ _ _)
   | (with_reducible exact LeO.refl _)
   | (with_reducible exact LeO.none _)
   | (with_reducible refine LeO.ite ?_ ?_)
   | (with_reducible refine LeO.bind ?_ (fun _ => ?_))
   | exact ih0 _ _ _
   | exact LeO.none _
   | refine LeO.ite ?_ ?_
   | refine LeO.bind ?_ (fun _ => ?_)
theorem spec_l1Put.mono : ∀ a0 a1 k,LeO (spec_l1Put.f k a0 a1) (spec_l1Put.f (k + 1) a0 a1):=by
 intro a0 a1 k
 have ih0:=spec_l1Put.mono_l k
 unfold spec_l1Put.f
 repeat' first
   | (with_reducible exact ih0 _ _ _)
   | (with_reducible exact LeO.refl _)
   | (with_reducible exact LeO.none _)
   | (with_reducible refine LeO.ite ?_ ?_)
   | (with_reducible refine LeO.bind ?_ (fun _ => ?_))
   | exact ih0 _ _ _
   | exact LeO.none _
   | refine LeO.ite ?_ ?_
   | refine LeO.bind ?_ (fun _ => ?_)
set_option maxHeartbeats 8000000 in
set_option maxRecDepth 100000 in
theorem spec_l1Put.calls (k : Nat) (P0_ : Nat → Prop) (u9000_ : Value) (l0 : List Int) (a1 : Int) (r : List Int) (w0 w : World) (hB : Below w0.heap.size w0 w) (ho0 : Kd.R (Kd.int .i64) 3 w w0.heap.size P0_ u9000_ l0) (h : spec_l1Put.f k l0 a1 = some r) :
  Calls Try.prog 55 #[u9000_,.int .i64 a1] w fun e w' => ∃ v0_ : Value,e = .returned (v0_) ∧ Kd.R (Kd.int .i64) 3 w' w0.heap.size (fun k_ => (P0_ k_ ∨ w.heap.size ≤ k_)) v0_ r ∧ Below w0.heap.size w0 w' ∧ Kept w w' (fun k_ => P0_ k_):=by
 have HO0:=Aside0.mk (show Kd.R (Kd.int .i64) 3 w w0.heap.size (fun k_ => (P0_ k_ ∨ w.heap.size ≤ k_)) u9000_ l0 from Kd.R_mono ho0 (fun k_ hk => (.inl hk)))
 have HK:=Aside0.mk (Kept.refl w (fun k_ => P0_ k_))
 have HW0:=Aside0.mk hB.size
 have HB:=Aside0.mk hB
 clear hB
 have H : (spec_l1Put.l0 k l0 a1 0) = some r:=h
 clear h
 have H':=Aside0.mk H
 clear H
 go_enter Try.func55,Try.ntmps55
 go_wp2
 go_loopg [5] k (fun kq v5 w' => ∃ (x5_1 : Int),v5 = .int .i64 x5_1 ∧ Aside0 (spec_l1Put.l0 kq l0 a1 x5_1 = some r) ∧ Aside0 (kq ≤ k) ∧ Aside0 (Kd.R (Kd.int .i64) 3 w' w0.heap.size (fun k_ => (P0_ k_ ∨ w.heap.size ≤ k_)) u9000_ l0) ∧ Aside0 (Kept w w' (fun k_ => P0_ k_)) ∧ Aside0 (Below w0.heap.size w0 w'))
 case atStart => exact ⟨(0),(by first | rfl | (simp;done) | (simp [*];done)),H',⟨Nat.le_refl _⟩,⟨by (with_reducible repeat (first | apply Kd.R_alloc | apply Kd.R_drewN | apply Kd.R_drew));exact HO0.out⟩,⟨by repeat (first | (with_reducible first | exact HK.out | apply Kept.alloc | apply Kept.drewN | apply Kept.drew) | exact HK.out)⟩,⟨by repeat (first | (with_reducible first | exact HB.out | apply below_alloc | apply pw_below_drewN | apply below_drew1) | exact HB.out)⟩⟩
 case round =>
  clear H'
  try clear p2
  obtain ⟨x5_1,rfl,HA,HK1,HO_0,HK,HB⟩:=hrel
  cases gk with
  | zero => exact absurd HA.out (by simp [spec_l1Put.l0])
  | succ k1 =>
   have H:=HA.out
   clear HA
   simp only [spec_l1Put.l0] at H
   by_cases c3 : x5_1 < (l0.length : Int)
   ·rw [if_pos c3] at H
    have c3b0 : decide (x5_1 < (l0.length : Int)) = true:=decide_eq_true c3
    clear c3
    by_cases c4 : 0 ≤ x5_1
    ·rw [if_pos c4] at H
     have c4b0 : decide (0 ≤ x5_1) = true:=decide_eq_true c4
     clear c4
     by_cases c5 : (rd l0 x5_1) < a1
     ·rw [if_pos c5] at H
      have c5b0 : decide ((rd l0 x5_1) < a1) = true:=decide_eq_true c5
      clear c5
      have H':=Aside0.mk H
      clear H
      obtain ⟨Ao6,co6,eo6⟩:=Kd.R_slice HO_0.out
      subst eo6
      have p117 : 0 ≤ (x5_1 : Int):=of_decide_eq_true (by first | (with_reducible assumption) | assumption)
      have q117 : x5_1 < (l0.length : Int):=of_decide_eq_true (by first | (with_reducible assumption) | assumption)
      obtain ⟨ad117,e117,hx117_0⟩:=Kd.at_int (Kd.R_reads' HO_0.out).2.2 x5_1 p117 q117
      cases e117
      replace p117:=eq_true p117
      replace q117:=eq_true q117
      go_wp2
      go_roundg k1
      case measure => have:=HK1.out;omega
      case rel => exact ⟨(wrap64 (x5_1 + 1)),(by first | rfl | (simp;done) | (simp [*];done)),H',⟨by have:=HK1.out;omega⟩,⟨by (with_reducible repeat (first | apply Kd.R_alloc | apply Kd.R_drewN | apply Kd.R_drew));exact HO_0.out⟩,⟨by repeat (first | (with_reducible first | exact HK.out | apply Kept.alloc | apply Kept.drewN | apply Kept.drew) | exact HK.out)⟩,⟨by repeat (first | (with_reducible first | exact HB.out | apply below_alloc | apply pw_below_drewN | apply below_drew1) | exact HB.out)⟩⟩
     ·rw [if_neg c5] at H
      have c5b0 : decide ((rd l0 x5_1) < a1) = false:=decide_eq_false c5
      clear c5
      by_cases c7 : (rd l0 x5_1) = a1
      ·rw [if_pos c7] at H
       have c7b0 : ((rd l0 x5_1) == a1) = true:=beq_iff_eq.mpr c7
       have c7b1 : ((rd l0 x5_1) != a1) = false:=bne_eq_false_iff_eq.mpr c7
       clear c7
       obtain rfl:=Option.some.inj H
       obtain ⟨Ao8,co8,eo8⟩:=Kd.R_slice HO_0.out
       subst eo8
       have p117 : 0 ≤ (x5_1 : Int):=of_decide_eq_true (by first | (with_reducible assumption) | assumption)
       have q117 : x5_1 < (l0.length : Int):=of_decide_eq_true (by first | (with_reducible assumption) | assumption)
       obtain ⟨ad117,e117,hx117_0⟩:=Kd.at_int (Kd.R_reads' HO_0.out).2.2 x5_1 p117 q117
       cases e117
       replace p117:=eq_true p117
       replace q117:=eq_true q117
       have p118 : 0 ≤ (x5_1 : Int):=of_decide_eq_true (by first | (with_reducible assumption) | assumption)
       have q118 : x5_1 < (l0.length : Int):=of_decide_eq_true (by first | (with_reducible assumption) | assumption)
       obtain ⟨ad118,e118,hx118_0⟩:=Kd.at_int (Kd.R_reads' HO_0.out).2.2 x5_1 p118 q118
       obtain rfl : ad117 = ad118:=(by injection e118)
       replace p118:=eq_true p118
       replace q118:=eq_true q118
       go_wp2
       go_ret
       exact ⟨_,by first | rfl | (simp [errW_none,errW_some] <;> rfl) | (simp [*,errW_none,errW_some] <;> rfl),by (with_reducible repeat (first | apply Kd.R_alloc | apply Kd.R_drewN | apply Kd.R_drew));exact HO_0.out,by repeat (first | (with_reducible first | exact HB.out | apply below_alloc | apply pw_below_drewN | apply below_drew1) | exact HB.out),by repeat (first | (with_reducible first | exact HK.out | apply Kept.alloc | apply Kept.drewN | apply Kept.drew) | exact HK.out)⟩
      ·rw [if_neg c7] at H
       have c7b0 : ((rd l0 x5_1) == a1) = false:=beq_eq_false_iff_ne.mpr c7
       have c7b1 : ((rd l0 x5_1) != a1) = true:=bne_iff_ne.mpr c7
       have c9b0:=eq_true (of_decide_eq_true (by first | (with_reducible assumption) | assumption) : 0 ≤ x5_1)
       by_cases c10 : x5_1 ≤ (l0.length : Int)
       ·rw [if_pos c10] at H
        have c10b0:=eq_true c10
        have c10b1 : decide (x5_1 ≤ (l0.length : Int)) = true:=decide_eq_true c10
        clear c10
        obtain ⟨y119,hy119⟩ : ∃ y_ : List Int,y_ = (l0.take (x5_1 : Int).toNat):=⟨_,rfl⟩
        replace H : (if ([] : List Int).length + y119.length < 17592186044416 then ((some (([] : List Int) ++ y119 : List Int)).bind fun y123 => (if y123.length < 17592186044416 then ((some (y123 ++ [a1] : List Int)).bind fun y126 => ((some (l0.drop (x5_1 : Int).toNat : List Int)).bind fun y129 => (if y126.length + y129.length < 17592186044416 then (some (y126 ++ y129)) else (none)))) else (none))) else (none)) = some r:=by first | (rw [hy119];with_reducible exact H) | (have H2_:=(Option.bind_some _ _).symm.trans H;rw [hy119];with_reducible exact H2_) | (have H2_:=(Option.bind_some _ _).symm.trans H;with_reducible exact H2_) | with_reducible exact H | (rw [hy119];exact H) | exact H
        have Ny119:=Aside0.mk hy119
        clear hy119
        by_cases c11 : ([] : List Int).length + y119.length < 17592186044416
        ·rw [if_pos c11] at H
         have LMc11:=Aside0.mk c11
         clear c11
         obtain ⟨y123,hy123⟩ : ∃ y_ : List Int,y_ = (([] : List Int) ++ y119):=⟨_,rfl⟩
         replace H : (if y123.length < 17592186044416 then ((some (y123 ++ [a1] : List Int)).bind fun y126 => ((some (l0.drop (x5_1 : Int).toNat : List Int)).bind fun y129 => (if y126.length + y129.length < 17592186044416 then (some (y126 ++ y129)) else (none)))) else (none)) = some r:=by first | (rw [hy123];with_reducible exact H) | (have H2_:=(Option.bind_some _ _).symm.trans H;rw [hy123];with_reducible exact H2_) | (have H2_:=(Option.bind_some _ _).symm.trans H;with_reducible exact H2_) | with_reducible exact H | (rw [hy123];exact H) | exact H
         have Ny123:=Aside0.mk hy123
         clear hy123
         by_cases c12 : y123.length < 17592186044416
         ·rw [if_pos c12] at H
          have LMc12:=Aside0.mk c12
          clear c12
          obtain ⟨y126,hy126⟩ : ∃ y_ : List Int,y_ = (y123 ++ [a1]):=⟨_,rfl⟩
          replace H : ((some (l0.drop (x5_1 : Int).toNat : List Int)).bind fun y129 => (if y126.length + y129.length < 17592186044416 then (some (y126 ++ y129)) else (none))) = some r:=by first | (rw [hy126];with_reducible exact H) | (have H2_:=(Option.bind_some _ _).symm.trans H;rw [hy126];with_reducible exact H2_) | (have H2_:=(Option.bind_some _ _).symm.trans H;with_reducible exact H2_) | with_reducible exact H | (rw [hy126];exact H) | exact H
          have Ny126:=Aside0.mk hy126
          clear hy126
          have c13b0:=eq_true (of_decide_eq_true (by first | (with_reducible assumption) | assumption) : 0 ≤ x5_1)
          have c14b0:=eq_true (of_decide_eq_true (by first | (with_reducible assumption) | assumption) : x5_1 ≤ (l0.length : Int))
          obtain ⟨y129,hy129⟩ : ∃ y_ : List Int,y_ = (l0.drop (x5_1 : Int).toNat):=⟨_,rfl⟩
          replace H : (if y126.length + y129.length < 17592186044416 then (some (y126 ++ y129)) else (none)) = some r:=by first | (rw [hy129];with_reducible exact H) | (have H2_:=(Option.bind_some _ _).symm.trans H;rw [hy129];with_reducible exact H2_) | (have H2_:=(Option.bind_some _ _).symm.trans H;with_reducible exact H2_) | with_reducible exact H | (rw [hy129];exact H) | exact H
          have Ny129:=Aside0.mk hy129
          clear hy129
          by_cases c15 : y126.length + y129.length < 17592186044416
          ·rw [if_pos c15] at H
           have LMc15:=Aside0.mk c15
           clear c15
           obtain ⟨y133,hy133⟩ : ∃ y_ : List Int,y_ = (y126 ++ y129):=⟨_,rfl⟩
           replace H : (some y133) = some r:=by first | (rw [hy133];with_reducible exact H) | (have H2_:=(Option.bind_some _ _).symm.trans H;rw [hy133];with_reducible exact H2_) | (have H2_:=(Option.bind_some _ _).symm.trans H;with_reducible exact H2_) | with_reducible exact H | (rw [hy133];exact H) | exact H
           have Ny133:=Aside0.mk hy133
           clear hy133
           obtain rfl:=Option.some.inj H
           obtain ⟨Ao16,co16,eo16⟩:=Kd.R_slice HO_0.out
           subst eo16
           have p117 : 0 ≤ (x5_1 : Int):=of_decide_eq_true (by first | (with_reducible assumption) | assumption)
           have q117 : x5_1 < (l0.length : Int):=of_decide_eq_true (by first | (with_reducible assumption) | assumption)
           obtain ⟨ad117,e117,hx117_0⟩:=Kd.at_int (Kd.R_reads' HO_0.out).2.2 x5_1 p117 q117
           cases e117
           replace p117:=eq_true p117
           replace q117:=eq_true q117
           have p118 : 0 ≤ (x5_1 : Int):=of_decide_eq_true (by first | (with_reducible assumption) | assumption)
           have q118 : x5_1 < (l0.length : Int):=of_decide_eq_true (by first | (with_reducible assumption) | assumption)
           obtain ⟨ad118,e118,hx118_0⟩:=Kd.at_int (Kd.R_reads' HO_0.out).2.2 x5_1 p118 q118
           obtain rfl : ad117 = ad118:=(by injection e118)
           replace p118:=eq_true p118
           replace q118:=eq_true q118
           have q17 : (x5_1 : Int) ≤ ((l0.length : Int) : Int):=of_decide_eq_true (by first | (with_reducible assumption) | assumption)
           obtain ⟨i017,hi017,_,hsz17,_⟩:=info_parts info3
           have hroom17 : l0.length ≤ co16:=(Kd.R_reads' HO_0.out).2.1
           have hC17 : Kd.C (Kd.int .i64) _ (some ad117) l0.length l0:=(Kd.R_reads' HO_0.out).2.2
           have hcut17:=cut_to (P:=Try.prog) 43 3 .i64 Try.underlying43 hi017 (some ad117) l0.length co16 x5_1 (of_decide_eq_true (by first | (with_reducible assumption) | assumption)) q17 hroom17
           have hr17:=Kd.C_take (m:=(x5_1 : Int).toNat) hC17 (by omega)
           have hy17 : y119.length = (x5_1 : Int).toNat:=(by rw [Ny119.out,List.length_take];omega)
           rw [← Ny119.out] at hr17
           rw [← hy17] at hcut17
           have HR122:=Aside0.mk hr17
           have HC122:=Aside0.mk (show y119.length ≤ co16 from by omega)
           clear hr17 hC17 hroom17 hi017 hsz17
           have KY17:=Aside0.mk hy17
           clear hy17
           have KL17:=Aside0.mk (show (x5_1 : Int).toNat ≤ l0.length from by omega)
           replace q17:=eq_true q17
           go_wp2_with (first | ((with_reducible refine gate_builtin (b:=.append) (xs:=#[.tmp 34,.tmp 37]) rfl ?_);at_builtin;refine Kd.R_append_rows (Kd.int .i64) (w0:=w0) w0.heap.size rfl (.tmp 34) (.tmp 37) 43 3 (.int .i64 0) 8 rfl Try.underlying43 info3 rfl (by decide) (by omega) (.slice none 0 0) ([] : List Int) y119 _ _ _ (fun k_ => (P0_ k_ ∨ w.heap.size ≤ k_) ∧ some k_ ≠ (.slice (some ad117) l0.length co16 : Value).ownBlock) (fun _ => False) rfl rfl ?aO ?aR (fun _ _ h => h) (fun _ h => h.elim) ?aF ?aB ?aS ?aL ?_;(case aR => repeat (first | exact (by repeat (first | (with_reducible exact HR122.out) | (with_reducible refine Kd.C_alloc ?_ _) | (with_reducible refine Kd.C_drewN ?_ _) | (with_reducible refine Kd.C_drew ?_) | exact HR122.out)) | (with_reducible refine Kd.C_alloc ?_ _) | (with_reducible refine Kd.C_drewN ?_ _) | (with_reducible refine Kd.C_drew ?_)));(case aB => exact (by repeat (first | (with_reducible first | exact HB.out | apply below_alloc | apply pw_below_drewN | apply below_drew1) | exact HB.out)));(case aF => exact (fun k_ hk => ⟨(.inr (Nat.le_trans (by first | exact HK.out.1 | exact (show Kept w _ (fun k_ => P0_ k_) from by repeat (first | (with_reducible first | exact HK.out | apply Kept.alloc | apply Kept.drewN | apply Kept.drew) | exact HK.out)).1) hk)),Kd.fresh' (Kd.R_lt (by (with_reducible repeat (first | apply Kd.R_alloc | apply Kd.R_drewN | apply Kd.R_drew));exact HO_0.out)) k_ hk⟩));(case aO => exact ((Kd.R_nil _ _ _ _ (fun k_ => (P0_ k_ ∨ w.heap.size ≤ k_) ∧ some k_ ≠ (.slice (some ad117) l0.length co16 : Value).ownBlock))));(case aS => exact (below_size (by repeat (first | (with_reducible first | exact HB.out | apply below_alloc | apply pw_below_drewN | apply below_drew1) | exact HB.out))));(case aL => have:=LMc11.out;omega);intro v124 w18 ho hb hg hat;rw [← Ny123.out] at ho;have n0_:=Aside0.mk (Kd.R_after (Kd.R_apart_nil (by (with_reducible repeat (first | apply Kd.R_alloc | apply Kd.R_drewN | apply Kd.R_drew));exact HO_0.out)) hg hat);have n1_:=Aside0.mk (hb);have n2_:=Aside0.mk (Kept.of_grown (S:=(fun k_ => P0_ k_)) hg (by repeat (first | (with_reducible first | exact HK.out | apply Kept.alloc | apply Kept.drewN | apply Kept.drew) | exact HK.out)) (fun k_ e_ => by simp [Value.ownBlock] at e_));have n3_:=Aside0.mk ((show Kd.C (Kd.int .i64) w18 (some ad117) y119.length y119 from by rw [Ny119.out];exact Kd.C_take (m:=(x5_1 : Int).toNat) ((Kd.R_reads' (Kd.R_after (Kd.R_apart_nil (by (with_reducible repeat (first | apply Kd.R_alloc | apply Kd.R_drewN | apply Kd.R_drew));exact HO_0.out)) hg hat)).2.2) KL17.out));have n4_:=Aside0.mk (ho);clear HO_0;clear HB;clear HK;clear HR122;have HO_0:=n0_;have HB:=n1_;have HK:=n2_;have HR122:=n3_;have HO125:=n4_;clear n0_ n1_ n2_ n3_ n4_;clear ho hb hg hat) | ((with_reducible refine gate_builtin (b:=.append) (xs:=#[.tmp 39,.tmp 41]) rfl ?_);at_builtin;refine Kd.R_append (Kd.int .i64) (w0:=w0) w0.heap.size rfl (.tmp 39) (.tmp 41) 43 3 (.int .i64 0) 8 rfl Try.underlying43 info3 rfl (by decide) (by omega) v124 y123 a1 [.int .i64 a1] (fun k_ => (P0_ k_ ∨ w.heap.size ≤ k_) ∧ some k_ ≠ (.slice (some ad117) l0.length co16 : Value).ownBlock) (fun _ => False) rfl rfl ?aP (fun _ hk => hk.elim) ?aF ?aO ?aB ?aS ?aL ?_;(case aP => exact rfl);(case aB => exact (by repeat (first | (with_reducible first | exact HB.out | apply below_alloc | apply pw_below_drewN | apply below_drew1) | exact HB.out)));(case aF => exact (fun k_ hk => ⟨(.inr (Nat.le_trans (by first | exact HK.out.1 | exact (show Kept w _ (fun k_ => P0_ k_) from by repeat (first | (with_reducible first | exact HK.out | apply Kept.alloc | apply Kept.drewN | apply Kept.drew) | exact HK.out)).1) hk)),Kd.fresh' (Kd.R_lt (by (with_reducible repeat (first | apply Kd.R_alloc | apply Kd.R_drewN | apply Kd.R_drew));exact HO_0.out)) k_ hk⟩));(case aO => exact (by (with_reducible repeat (first | apply Kd.R_alloc | apply Kd.R_drewN | apply Kd.R_drew));exact HO125.out));(case aS => exact (below_size (by repeat (first | (with_reducible first | exact HB.out | apply below_alloc | apply pw_below_drewN | apply below_drew1) | exact HB.out))));(case aL => have:=LMc12.out;omega);intro v127 w19 ho hb hg hat;rw [← Ny126.out] at ho;have n0_:=Aside0.mk (Kd.R_after (ok:=(fun k_ => (P0_ k_ ∨ w.heap.size ≤ k_))) (by (with_reducible repeat (first | apply Kd.R_alloc | apply Kd.R_drewN | apply Kd.R_drew));exact HO_0.out) hg hat);have n1_:=Aside0.mk (hb);have n2_:=Aside0.mk (Kept.of_grown (S:=(fun k_ => P0_ k_)) hg (by repeat (first | (with_reducible first | exact HK.out | apply Kept.alloc | apply Kept.drewN | apply Kept.drew) | exact HK.out)) (fun k_ e_ => (HO125.out.1 k_ e_).1));have n3_:=Aside0.mk ((show Kd.C (Kd.int .i64) w19 (some ad117) y119.length y119 from by rw [Ny119.out];exact Kd.C_take (m:=(x5_1 : Int).toNat) ((Kd.R_reads' (Kd.R_after (ok:=(fun k_ => (P0_ k_ ∨ w.heap.size ≤ k_))) (by (with_reducible repeat (first | apply Kd.R_alloc | apply Kd.R_drewN | apply Kd.R_drew));exact HO_0.out) hg hat)).2.2) KL17.out));have n4_:=Aside0.mk (ho);clear HO_0;clear HB;clear HK;clear HR122;clear HO125;have HO_0:=n0_;have HB:=n1_;have HK:=n2_;have HR122:=n3_;have HO128:=n4_;clear n0_ n1_ n2_ n3_ n4_;clear ho hb hg hat;have q20 : (x5_1 : Int) ≤ ((l0.length : Int) : Int):=of_decide_eq_true (by first | (with_reducible assumption) | assumption);obtain ⟨i020,hi020,_,hsz20,_⟩:=info_parts info3;have hroom20 : l0.length ≤ co16:=(Kd.R_reads' HO_0.out).2.1;have hC20 : Kd.C (Kd.int .i64) _ (some ad117) l0.length l0:=(Kd.R_reads' HO_0.out).2.2;have q020 : (0 : Int) ≤ (x5_1 : Int):=of_decide_eq_true (by first | (with_reducible assumption) | assumption);have hcut20:=cut_from (P:=Try.prog) 43 3 .i64 Try.underlying43 hi020 1 hsz20 (some ad117) l0.length co16 x5_1 q020 q20;have hr20:=Kd.C_drop (m:=(x5_1 : Int).toNat) (c:=co16) hC20 (by omega) hroom20;obtain ⟨A20,hA20⟩ : ∃ A1,A1 = (if co16 = (x5_1 : Int).toNat then (some ad117) else ((some ad117) : Option Addr).map (·.add ((x5_1 : Int).toNat * 1))):=⟨_,rfl⟩;obtain ⟨c20,hc20⟩ : ∃ c1,c1 = co16 - (x5_1 : Int).toNat:=⟨_,rfl⟩;have hy20 : y129.length = l0.length - (x5_1 : Int).toNat:=(by rw [Ny129.out,List.length_drop] <;> omega);rw [show (l0).drop (x5_1 : Int).toNat = y129 from Ny129.out.symm] at hr20;replace hr20 : Kd.C (Kd.int .i64) _ A20 y129.length y129:=(by rw [hA20];exact hr20);rw [← hy20,← hA20,← hc20] at hcut20;have HR132:=Aside0.mk hr20;have HC132:=Aside0.mk (show y129.length ≤ c20 from by rw [hy20,hc20];exact Nat.sub_le_sub_right hroom20 _);clear hr20 hC20 hroom20 hi020 hsz20 hc20;have KY20:=Aside0.mk hy20;have KA20:=Aside0.mk hA20;clear hy20 hA20;have KL20:=Aside0.mk (show (x5_1 : Int).toNat ≤ l0.length from by omega);replace q20:=eq_true q20) | ((with_reducible refine gate_builtin (b:=.append) (xs:=#[.tmp 43,.tmp 46]) rfl ?_);at_builtin;refine Kd.R_append_rows (Kd.int .i64) (w0:=w0) w0.heap.size rfl (.tmp 43) (.tmp 46) 43 3 (.int .i64 0) 8 rfl Try.underlying43 info3 rfl (by decide) (by omega) v127 y126 y129 _ _ _ (fun k_ => (P0_ k_ ∨ w.heap.size ≤ k_) ∧ some k_ ≠ (.slice (some ad117) l0.length co16 : Value).ownBlock) (fun _ => False) rfl rfl ?aO ?aR (fun _ _ h => h) (fun _ h => h.elim) ?aF ?aB ?aS ?aL ?_;(case aR => repeat (first | exact (by repeat (first | (with_reducible exact HR132.out) | (with_reducible refine Kd.C_alloc ?_ _) | (with_reducible refine Kd.C_drewN ?_ _) | (with_reducible refine Kd.C_drew ?_) | exact HR132.out)) | (with_reducible refine Kd.C_alloc ?_ _) | (with_reducible refine Kd.C_drewN ?_ _) | (with_reducible refine Kd.C_drew ?_)));(case aB => exact (by repeat (first | (with_reducible first | exact HB.out | apply below_alloc | apply pw_below_drewN | apply below_drew1) | exact HB.out)));(case aF => exact (fun k_ hk => ⟨(.inr (Nat.le_trans (by first | exact HK.out.1 | exact (show Kept w _ (fun k_ => P0_ k_) from by repeat (first | (with_reducible first | exact HK.out | apply Kept.alloc | apply Kept.drewN | apply Kept.drew) | exact HK.out)).1) hk)),Kd.fresh' (Kd.R_lt (by (with_reducible repeat (first | apply Kd.R_alloc | apply Kd.R_drewN | apply Kd.R_drew));exact HO_0.out)) k_ hk⟩));(case aO => exact (by (with_reducible repeat (first | apply Kd.R_alloc | apply Kd.R_drewN | apply Kd.R_drew));exact HO128.out));(case aS => exact (below_size (by repeat (first | (with_reducible first | exact HB.out | apply below_alloc | apply pw_below_drewN | apply below_drew1) | exact HB.out))));(case aL => have:=LMc15.out;omega);intro v134 w21 ho hb hg hat;rw [← Ny133.out] at ho;have n0_:=Aside0.mk (Kd.R_after (ok:=(fun k_ => (P0_ k_ ∨ w.heap.size ≤ k_))) (by (with_reducible repeat (first | apply Kd.R_alloc | apply Kd.R_drewN | apply Kd.R_drew));exact HO_0.out) hg hat);have n1_:=Aside0.mk (hb);have n2_:=Aside0.mk (Kept.of_grown (S:=(fun k_ => P0_ k_)) hg (by repeat (first | (with_reducible first | exact HK.out | apply Kept.alloc | apply Kept.drewN | apply Kept.drew) | exact HK.out)) (fun k_ e_ => (HO128.out.1 k_ e_).1));have n3_:=Aside0.mk ((show Kd.C (Kd.int .i64) w21 (some ad117) y119.length y119 from by rw [Ny119.out];exact Kd.C_take (m:=(x5_1 : Int).toNat) ((Kd.R_reads' (Kd.R_after (ok:=(fun k_ => (P0_ k_ ∨ w.heap.size ≤ k_))) (by (with_reducible repeat (first | apply Kd.R_alloc | apply Kd.R_drewN | apply Kd.R_drew));exact HO_0.out) hg hat)).2.2) KL17.out));have n4_:=Aside0.mk ((show Kd.C (Kd.int .i64) w21 A20 y129.length y129 from by rw [Ny129.out,KA20.out];exact Kd.C_drop (m:=(x5_1 : Int).toNat) (c:=co16) ((Kd.R_reads' (Kd.R_after (ok:=(fun k_ => (P0_ k_ ∨ w.heap.size ≤ k_))) (by (with_reducible repeat (first | apply Kd.R_alloc | apply Kd.R_drewN | apply Kd.R_drew));exact HO_0.out) hg hat)).2.2) KL20.out ((Kd.R_reads' (Kd.R_after (ok:=(fun k_ => (P0_ k_ ∨ w.heap.size ≤ k_))) (by (with_reducible repeat (first | apply Kd.R_alloc | apply Kd.R_drewN | apply Kd.R_drew));exact HO_0.out) hg hat)).2.1)));have n5_:=Aside0.mk (ho);clear HO_0;clear HB;clear HK;clear HR122;clear HR132;clear HO128;have HO_0:=n0_;have HB:=n1_;have HK:=n2_;have HR122:=n3_;have HR132:=n4_;have HO135:=n5_;clear n0_ n1_ n2_ n3_ n4_ n5_;clear ho hb hg hat))
           go_ret
           exact ⟨_,by first | rfl | (simp [errW_none,errW_some] <;> rfl) | (simp [*,errW_none,errW_some] <;> rfl),by (with_reducible repeat (first | apply Kd.R_alloc | apply Kd.R_drewN | apply Kd.R_drew));exact Kd.R_mono HO135.out (fun _ hk => hk.1),by repeat (first | (with_reducible first | exact HB.out | apply below_alloc | apply pw_below_drewN | apply below_drew1) | exact HB.out),by repeat (first | (with_reducible first | exact HK.out | apply Kept.alloc | apply Kept.drewN | apply Kept.drew) | exact HK.out)⟩
          ·rw [if_neg c15] at H
           exact absurd H (by simp)
         ·rw [if_neg c12] at H
          exact absurd H (by simp)
        ·rw [if_neg c11] at H
         exact absurd H (by simp)
       ·rw [if_neg c10] at H
        exact absurd H (by simp)
    ·rw [if_neg c4] at H
     exact absurd H (by simp)
   ·rw [if_neg c3] at H
    have c3b0 : decide (x5_1 < (l0.length : Int)) = false:=decide_eq_false c3
    clear c3
    by_cases c22 : 0 ≤ x5_1
    ·rw [if_pos c22] at H
     have c22b0:=eq_true c22
     have c22b1 : decide (0 ≤ x5_1) = true:=decide_eq_true c22
     clear c22
     by_cases c23 : x5_1 ≤ (l0.length : Int)
     ·rw [if_pos c23] at H
      have c23b0:=eq_true c23
      have c23b1 : decide (x5_1 ≤ (l0.length : Int)) = true:=decide_eq_true c23
      clear c23
      obtain ⟨y136,hy136⟩ : ∃ y_ : List Int,y_ = (l0.take (x5_1 : Int).toNat):=⟨_,rfl⟩
      replace H : (if ([] : List Int).length + y136.length < 17592186044416 then ((some (([] : List Int) ++ y136 : List Int)).bind fun y140 => (if y140.length < 17592186044416 then ((some (y140 ++ [a1] : List Int)).bind fun y143 => ((some (l0.drop (x5_1 : Int).toNat : List Int)).bind fun y146 => (if y143.length + y146.length < 17592186044416 then (some (y143 ++ y146)) else (none)))) else (none))) else (none)) = some r:=by first | (rw [hy136];with_reducible exact H) | (have H2_:=(Option.bind_some _ _).symm.trans H;rw [hy136];with_reducible exact H2_) | (have H2_:=(Option.bind_some _ _).symm.trans H;with_reducible exact H2_) | with_reducible exact H | (rw [hy136];exact H) | exact H
      have Ny136:=Aside0.mk hy136
      clear hy136
      by_cases c24 : ([] : List Int).length + y136.length < 17592186044416
      ·rw [if_pos c24] at H
       have LMc24:=Aside0.mk c24
       clear c24
       obtain ⟨y140,hy140⟩ : ∃ y_ : List Int,y_ = (([] : List Int) ++ y136):=⟨_,rfl⟩
       replace H : (if y140.length < 17592186044416 then ((some (y140 ++ [a1] : List Int)).bind fun y143 => ((some (l0.drop (x5_1 : Int).toNat : List Int)).bind fun y146 => (if y143.length + y146.length < 17592186044416 then (some (y143 ++ y146)) else (none)))) else (none)) = some r:=by first | (rw [hy140];with_reducible exact H) | (have H2_:=(Option.bind_some _ _).symm.trans H;rw [hy140];with_reducible exact H2_) | (have H2_:=(Option.bind_some _ _).symm.trans H;with_reducible exact H2_) | with_reducible exact H | (rw [hy140];exact H) | exact H
       have Ny140:=Aside0.mk hy140
       clear hy140
       by_cases c25 : y140.length < 17592186044416
       ·rw [if_pos c25] at H
        have LMc25:=Aside0.mk c25
        clear c25
        obtain ⟨y143,hy143⟩ : ∃ y_ : List Int,y_ = (y140 ++ [a1]):=⟨_,rfl⟩
        replace H : ((some (l0.drop (x5_1 : Int).toNat : List Int)).bind fun y146 => (if y143.length + y146.length < 17592186044416 then (some (y143 ++ y146)) else (none))) = some r:=by first | (rw [hy143];with_reducible exact H) | (have H2_:=(Option.bind_some _ _).symm.trans H;rw [hy143];with_reducible exact H2_) | (have H2_:=(Option.bind_some _ _).symm.trans H;with_reducible exact H2_) | with_reducible exact H | (rw [hy143];exact H) | exact H
        have Ny143:=Aside0.mk hy143
        clear hy143
        have c26b0:=eq_true (of_decide_eq_true (by first | (with_reducible assumption) | assumption) : 0 ≤ x5_1)
        have c27b0:=eq_true (of_decide_eq_true (by first | (with_reducible assumption) | assumption) : x5_1 ≤ (l0.length : Int))
        obtain ⟨y146,hy146⟩ : ∃ y_ : List Int,y_ = (l0.drop (x5_1 : Int).toNat):=⟨_,rfl⟩
        replace H : (if y143.length + y146.length < 17592186044416 then (some (y143 ++ y146)) else (none)) = some r:=by first | (rw [hy146];with_reducible exact H) | (have H2_:=(Option.bind_some _ _).symm.trans H;rw [hy146];with_reducible exact H2_) | (have H2_:=(Option.bind_some _ _).symm.trans H;with_reducible exact H2_) | with_reducible exact H | (rw [hy146];exact H) | exact H
        have Ny146:=Aside0.mk hy146
        clear hy146
        by_cases c28 : y143.length + y146.length < 17592186044416
        ·rw [if_pos c28] at H
         have LMc28:=Aside0.mk c28
         clear c28
         obtain ⟨y150,hy150⟩ : ∃ y_ : List Int,y_ = (y143 ++ y146):=⟨_,rfl⟩
         replace H : (some y150) = some r:=by first | (rw [hy150];with_reducible exact H) | (have H2_:=(Option.bind_some _ _).symm.trans H;rw [hy150];with_reducible exact H2_) | (have H2_:=(Option.bind_some _ _).symm.trans H;with_reducible exact H2_) | with_reducible exact H | (rw [hy150];exact H) | exact H
         have Ny150:=Aside0.mk hy150
         clear hy150
         obtain rfl:=Option.some.inj H
         obtain ⟨Ao29,co29,eo29⟩:=Kd.R_slice HO_0.out
         subst eo29
         have q30 : (x5_1 : Int) ≤ ((l0.length : Int) : Int):=of_decide_eq_true (by first | (with_reducible assumption) | assumption)
         obtain ⟨i030,hi030,_,hsz30,_⟩:=info_parts info3
         have hroom30 : l0.length ≤ co29:=(Kd.R_reads' HO_0.out).2.1
         have hC30 : Kd.C (Kd.int .i64) _ Ao29 l0.length l0:=(Kd.R_reads' HO_0.out).2.2
         have hcut30:=cut_to (P:=Try.prog) 43 3 .i64 Try.underlying43 hi030 Ao29 l0.length co29 x5_1 (of_decide_eq_true (by first | (with_reducible assumption) | assumption)) q30 hroom30
         have hr30:=Kd.C_take (m:=(x5_1 : Int).toNat) hC30 (by omega)
         have hy30 : y136.length = (x5_1 : Int).toNat:=(by rw [Ny136.out,List.length_take];omega)
         rw [← Ny136.out] at hr30
         rw [← hy30] at hcut30
         have HR139:=Aside0.mk hr30
         have HC139:=Aside0.mk (show y136.length ≤ co29 from by omega)
         clear hr30 hC30 hroom30 hi030 hsz30
         have KY30:=Aside0.mk hy30
         clear hy30
         have KL30:=Aside0.mk (show (x5_1 : Int).toNat ≤ l0.length from by omega)
         replace q30:=eq_true q30
         go_wp2_with (first | ((with_reducible refine gate_builtin (b:=.append) (xs:=#[.tmp 34,.tmp 37]) rfl ?_);at_builtin;refine Kd.R_append_rows (Kd.int .i64) (w0:=w0) w0.heap.size rfl (.tmp 34) (.tmp 37) 43 3 (.int .i64 0) 8 rfl Try.underlying43 info3 rfl (by decide) (by omega) (.slice none 0 0) ([] : List Int) y136 _ _ _ (fun k_ => (P0_ k_ ∨ w.heap.size ≤ k_) ∧ some k_ ≠ (.slice Ao29 l0.length co29 : Value).ownBlock) (fun _ => False) rfl rfl ?aO ?aR (fun _ _ h => h) (fun _ h => h.elim) ?aF ?aB ?aS ?aL ?_;(case aR => repeat (first | exact (by repeat (first | (with_reducible exact HR139.out) | (with_reducible refine Kd.C_alloc ?_ _) | (with_reducible refine Kd.C_drewN ?_ _) | (with_reducible refine Kd.C_drew ?_) | exact HR139.out)) | (with_reducible refine Kd.C_alloc ?_ _) | (with_reducible refine Kd.C_drewN ?_ _) | (with_reducible refine Kd.C_drew ?_)));(case aB => exact (by repeat (first | (with_reducible first | exact HB.out | apply below_alloc | apply pw_below_drewN | apply below_drew1) | exact HB.out)));(case aF => exact (fun k_ hk => ⟨(.inr (Nat.le_trans (by first | exact HK.out.1 | exact (show Kept w _ (fun k_ => P0_ k_) from by repeat (first | (with_reducible first | exact HK.out | apply Kept.alloc | apply Kept.drewN | apply Kept.drew) | exact HK.out)).1) hk)),Kd.fresh' (Kd.R_lt (by (with_reducible repeat (first | apply Kd.R_alloc | apply Kd.R_drewN | apply Kd.R_drew));exact HO_0.out)) k_ hk⟩));(case aO => exact ((Kd.R_nil _ _ _ _ (fun k_ => (P0_ k_ ∨ w.heap.size ≤ k_) ∧ some k_ ≠ (.slice Ao29 l0.length co29 : Value).ownBlock))));(case aS => exact (below_size (by repeat (first | (with_reducible first | exact HB.out | apply below_alloc | apply pw_below_drewN | apply below_drew1) | exact HB.out))));(case aL => have:=LMc24.out;omega);intro v141 w31 ho hb hg hat;rw [← Ny140.out] at ho;have n0_:=Aside0.mk (Kd.R_after (Kd.R_apart_nil (by (with_reducible repeat (first | apply Kd.R_alloc | apply Kd.R_drewN | apply Kd.R_drew));exact HO_0.out)) hg hat);have n1_:=Aside0.mk (hb);have n2_:=Aside0.mk (Kept.of_grown (S:=(fun k_ => P0_ k_)) hg (by repeat (first | (with_reducible first | exact HK.out | apply Kept.alloc | apply Kept.drewN | apply Kept.drew) | exact HK.out)) (fun k_ e_ => by simp [Value.ownBlock] at e_));have n3_:=Aside0.mk ((show Kd.C (Kd.int .i64) w31 Ao29 y136.length y136 from by rw [Ny136.out];exact Kd.C_take (m:=(x5_1 : Int).toNat) ((Kd.R_reads' (Kd.R_after (Kd.R_apart_nil (by (with_reducible repeat (first | apply Kd.R_alloc | apply Kd.R_drewN | apply Kd.R_drew));exact HO_0.out)) hg hat)).2.2) KL30.out));have n4_:=Aside0.mk (ho);clear HO_0;clear HB;clear HK;clear HR139;have HO_0:=n0_;have HB:=n1_;have HK:=n2_;have HR139:=n3_;have HO142:=n4_;clear n0_ n1_ n2_ n3_ n4_;clear ho hb hg hat) | ((with_reducible refine gate_builtin (b:=.append) (xs:=#[.tmp 39,.tmp 41]) rfl ?_);at_builtin;refine Kd.R_append (Kd.int .i64) (w0:=w0) w0.heap.size rfl (.tmp 39) (.tmp 41) 43 3 (.int .i64 0) 8 rfl Try.underlying43 info3 rfl (by decide) (by omega) v141 y140 a1 [.int .i64 a1] (fun k_ => (P0_ k_ ∨ w.heap.size ≤ k_) ∧ some k_ ≠ (.slice Ao29 l0.length co29 : Value).ownBlock) (fun _ => False) rfl rfl ?aP (fun _ hk => hk.elim) ?aF ?aO ?aB ?aS ?aL ?_;(case aP => exact rfl);(case aB => exact (by repeat (first | (with_reducible first | exact HB.out | apply below_alloc | apply pw_below_drewN | apply below_drew1) | exact HB.out)));(case aF => exact (fun k_ hk => ⟨(.inr (Nat.le_trans (by first | exact HK.out.1 | exact (show Kept w _ (fun k_ => P0_ k_) from by repeat (first | (with_reducible first | exact HK.out | apply Kept.alloc | apply Kept.drewN | apply Kept.drew) | exact HK.out)).1) hk)),Kd.fresh' (Kd.R_lt (by (with_reducible repeat (first | apply Kd.R_alloc | apply Kd.R_drewN | apply Kd.R_drew));exact HO_0.out)) k_ hk⟩));(case aO => exact (by (with_reducible repeat (first | apply Kd.R_alloc | apply Kd.R_drewN | apply Kd.R_drew));exact HO142.out));(case aS => exact (below_size (by repeat (first | (with_reducible first | exact HB.out | apply below_alloc | apply pw_below_drewN | apply below_drew1) | exact HB.out))));(case aL => have:=LMc25.out;omega);intro v144 w32 ho hb hg hat;rw [← Ny143.out] at ho;have n0_:=Aside0.mk (Kd.R_after (ok:=(fun k_ => (P0_ k_ ∨ w.heap.size ≤ k_))) (by (with_reducible repeat (first | apply Kd.R_alloc | apply Kd.R_drewN | apply Kd.R_drew));exact HO_0.out) hg hat);have n1_:=Aside0.mk (hb);have n2_:=Aside0.mk (Kept.of_grown (S:=(fun k_ => P0_ k_)) hg (by repeat (first | (with_reducible first | exact HK.out | apply Kept.alloc | apply Kept.drewN | apply Kept.drew) | exact HK.out)) (fun k_ e_ => (HO142.out.1 k_ e_).1));have n3_:=Aside0.mk ((show Kd.C (Kd.int .i64) w32 Ao29 y136.length y136 from by rw [Ny136.out];exact Kd.C_take (m:=(x5_1 : Int).toNat) ((Kd.R_reads' (Kd.R_after (ok:=(fun k_ => (P0_ k_ ∨ w.heap.size ≤ k_))) (by (with_reducible repeat (first | apply Kd.R_alloc | apply Kd.R_drewN | apply Kd.R_drew));exact HO_0.out) hg hat)).2.2) KL30.out));have n4_:=Aside0.mk (ho);clear HO_0;clear HB;clear HK;clear HR139;clear HO142;have HO_0:=n0_;have HB:=n1_;have HK:=n2_;have HR139:=n3_;have HO145:=n4_;clear n0_ n1_ n2_ n3_ n4_;clear ho hb hg hat;have q33 : (x5_1 : Int) ≤ ((l0.length : Int) : Int):=of_decide_eq_true (by first | (with_reducible assumption) | assumption);obtain ⟨i033,hi033,_,hsz33,_⟩:=info_parts info3;have hroom33 : l0.length ≤ co29:=(Kd.R_reads' HO_0.out).2.1;have hC33 : Kd.C (Kd.int .i64) _ Ao29 l0.length l0:=(Kd.R_reads' HO_0.out).2.2;have q033 : (0 : Int) ≤ (x5_1 : Int):=of_decide_eq_true (by first | (with_reducible assumption) | assumption);have hcut33:=cut_from (P:=Try.prog) 43 3 .i64 Try.underlying43 hi033 1 hsz33 Ao29 l0.length co29 x5_1 q033 q33;have hr33:=Kd.C_drop (m:=(x5_1 : Int).toNat) (c:=co29) hC33 (by omega) hroom33;obtain ⟨A33,hA33⟩ : ∃ A1,A1 = (if co29 = (x5_1 : Int).toNat then Ao29 else (Ao29 : Option Addr).map (·.add ((x5_1 : Int).toNat * 1))):=⟨_,rfl⟩;obtain ⟨c33,hc33⟩ : ∃ c1,c1 = co29 - (x5_1 : Int).toNat:=⟨_,rfl⟩;have hy33 : y146.length = l0.length - (x5_1 : Int).toNat:=(by rw [Ny146.out,List.length_drop] <;> omega);rw [show (l0).drop (x5_1 : Int).toNat = y146 from Ny146.out.symm] at hr33;replace hr33 : Kd.C (Kd.int .i64) _ A33 y146.length y146:=(by rw [hA33];exact hr33);rw [← hy33,← hA33,← hc33] at hcut33;have HR149:=Aside0.mk hr33;have HC149:=Aside0.mk (show y146.length ≤ c33 from by rw [hy33,hc33];exact Nat.sub_le_sub_right hroom33 _);clear hr33 hC33 hroom33 hi033 hsz33 hc33;have KY33:=Aside0.mk hy33;have KA33:=Aside0.mk hA33;clear hy33 hA33;have KL33:=Aside0.mk (show (x5_1 : Int).toNat ≤ l0.length from by omega);replace q33:=eq_true q33) | ((with_reducible refine gate_builtin (b:=.append) (xs:=#[.tmp 43,.tmp 46]) rfl ?_);at_builtin;refine Kd.R_append_rows (Kd.int .i64) (w0:=w0) w0.heap.size rfl (.tmp 43) (.tmp 46) 43 3 (.int .i64 0) 8 rfl Try.underlying43 info3 rfl (by decide) (by omega) v144 y143 y146 _ _ _ (fun k_ => (P0_ k_ ∨ w.heap.size ≤ k_) ∧ some k_ ≠ (.slice Ao29 l0.length co29 : Value).ownBlock) (fun _ => False) rfl rfl ?aO ?aR (fun _ _ h => h) (fun _ h => h.elim) ?aF ?aB ?aS ?aL ?_;(case aR => repeat (first | exact (by repeat (first | (with_reducible exact HR149.out) | (with_reducible refine Kd.C_alloc ?_ _) | (with_reducible refine Kd.C_drewN ?_ _) | (with_reducible refine Kd.C_drew ?_) | exact HR149.out)) | (with_reducible refine Kd.C_alloc ?_ _) | (with_reducible refine Kd.C_drewN ?_ _) | (with_reducible refine Kd.C_drew ?_)));(case aB => exact (by repeat (first | (with_reducible first | exact HB.out | apply below_alloc | apply pw_below_drewN | apply below_drew1) | exact HB.out)));(case aF => exact (fun k_ hk => ⟨(.inr (Nat.le_trans (by first | exact HK.out.1 | exact (show Kept w _ (fun k_ => P0_ k_) from by repeat (first | (with_reducible first | exact HK.out | apply Kept.alloc | apply Kept.drewN | apply Kept.drew) | exact HK.out)).1) hk)),Kd.fresh' (Kd.R_lt (by (with_reducible repeat (first | apply Kd.R_alloc | apply Kd.R_drewN | apply Kd.R_drew));exact HO_0.out)) k_ hk⟩));(case aO => exact (by (with_reducible repeat (first | apply Kd.R_alloc | apply Kd.R_drewN | apply Kd.R_drew));exact HO145.out));(case aS => exact (below_size (by repeat (first | (with_reducible first | exact HB.out | apply below_alloc | apply pw_below_drewN | apply below_drew1) | exact HB.out))));(case aL => have:=LMc28.out;omega);intro v151 w34 ho hb hg hat;rw [← Ny150.out] at ho;have n0_:=Aside0.mk (Kd.R_after (ok:=(fun k_ => (P0_ k_ ∨ w.heap.size ≤ k_))) (by (with_reducible repeat (first | apply Kd.R_alloc | apply Kd.R_drewN | apply Kd.R_drew));exact HO_0.out) hg hat);have n1_:=Aside0.mk (hb);have n2_:=Aside0.mk (Kept.of_grown (S:=(fun k_ => P0_ k_)) hg (by repeat (first | (with_reducible first | exact HK.out | apply Kept.alloc | apply Kept.drewN | apply Kept.drew) | exact HK.out)) (fun k_ e_ => (HO145.out.1 k_ e_).1));have n3_:=Aside0.mk ((show Kd.C (Kd.int .i64) w34 Ao29 y136.length y136 from by rw [Ny136.out];exact Kd.C_take (m:=(x5_1 : Int).toNat) ((Kd.R_reads' (Kd.R_after (ok:=(fun k_ => (P0_ k_ ∨ w.heap.size ≤ k_))) (by (with_reducible repeat (first | apply Kd.R_alloc | apply Kd.R_drewN | apply Kd.R_drew));exact HO_0.out) hg hat)).2.2) KL30.out));have n4_:=Aside0.mk ((show Kd.C (Kd.int .i64) w34 A33 y146.length y146 from by rw [Ny146.out,KA33.out];exact Kd.C_drop (m:=(x5_1 : Int).toNat) (c:=co29) ((Kd.R_reads' (Kd.R_after (ok:=(fun k_ => (P0_ k_ ∨ w.heap.size ≤ k_))) (by (with_reducible repeat (first | apply Kd.R_alloc | apply Kd.R_drewN | apply Kd.R_drew));exact HO_0.out) hg hat)).2.2) KL33.out ((Kd.R_reads' (Kd.R_after (ok:=(fun k_ => (P0_ k_ ∨ w.heap.size ≤ k_))) (by (with_reducible repeat (first | apply Kd.R_alloc | apply Kd.R_drewN | apply Kd.R_drew));exact HO_0.out) hg hat)).2.1)));have n5_:=Aside0.mk (ho);clear HO_0;clear HB;clear HK;clear HR139;clear HR149;clear HO145;have HO_0:=n0_;have HB:=n1_;have HK:=n2_;have HR139:=n3_;have HR149:=n4_;have HO152:=n5_;clear n0_ n1_ n2_ n3_ n4_ n5_;clear ho hb hg hat))
         go_ret
         exact ⟨_,by first | rfl | (simp [errW_none,errW_some] <;> rfl) | (simp [*,errW_none,errW_some] <;> rfl),by (with_reducible repeat (first | apply Kd.R_alloc | apply Kd.R_drewN | apply Kd.R_drew));exact Kd.R_mono HO152.out (fun _ hk => hk.1),by repeat (first | (with_reducible first | exact HB.out | apply below_alloc | apply pw_below_drewN | apply below_drew1) | exact HB.out),by repeat (first | (with_reducible first | exact HK.out | apply Kept.alloc | apply Kept.drewN | apply Kept.drew) | exact HK.out)⟩
        ·rw [if_neg c28] at H
         exact absurd H (by simp)
       ·rw [if_neg c25] at H
        exact absurd H (by simp)
      ·rw [if_neg c24] at H
       exact absurd H (by simp)
     ·rw [if_neg c23] at H
      exact absurd H (by simp)
    ·rw [if_neg c22] at H
     exact absurd H (by simp)

/-! ### spec_l1In: function 92 -/
def spec_l1In.f (a0 : Int) (a1 : Int) (a2 : Int) : Option (Bool):=if a0 ≥ a1 then (some (decide (a0 ≤ a2))) else (some false)
set_option maxHeartbeats 8000000 in
set_option maxRecDepth 100000 in
theorem spec_l1In.calls (a0 : Int) (a1 : Int) (a2 : Int) (r : Bool) (w : World) (h : spec_l1In.f a0 a1 a2 = some r) :
  Calls Try.prog 92 #[.int .i64 a0,.int .i64 a1,.int .i64 a2] w fun e w' => e = .returned (.bool r) ∧ Drawn0 w w':=by
 have H : (if a0 ≥ a1 then (some (decide (a0 ≤ a2))) else (some false)) = some r:=h
 clear h
 by_cases c4 : a0 ≥ a1
 ·rw [if_pos c4] at H
  have c4b0 : decide (a1 ≤ a0) = true:=decide_eq_true c4
  clear c4
  obtain rfl:=Option.some.inj H
  go_enter Try.func92,Try.ntmps92
  go_wp2
  go_ret
  exact ⟨by first | rfl | (simp;done) | (simp [*];done),by repeat (first | exact Drawn0.refl _ | apply Drawn0.step)⟩
 ·rw [if_neg c4] at H
  have c4b0 : decide (a1 ≤ a0) = false:=decide_eq_false c4
  clear c4
  obtain rfl:=Option.some.inj H
  go_enter Try.func92,Try.ntmps92
  go_wp2
  go_ret
  exact ⟨by first | rfl | (simp;done) | (simp [*];done),by repeat (first | exact Drawn0.refl _ | apply Drawn0.step)⟩

/-! ### spec_GoodGraph: function 71 -/
mutual
def spec_GoodGraph.l0 : Nat → Int → List (List Int) → Int → Int → Option (Bool)
 | 0,_,_,_,_ => none
 | k + 1,x3,x12,x13,x14 => if x14 < x13 then (if 0 ≤ x14 then (if x14 < (x12.length : Int) then (spec_GoodGraph.l1 k x3 (rd_L1 x12 x14) x12 x13 x14 (rd_L1 x12 x14) ((rd_L1 x12 x14).length : Int) 0) else (none)) else (none)) else ((spec_l1In.f x3 1 12).bind fun t154 => (some t154))
def spec_GoodGraph.l1 : Nat → Int → List Int → List (List Int) → Int → Int → List Int → Int → Int → Option (Bool)
 | 0,_,_,_,_,_,_,_,_ => none
 | k + 1,x3,x5,x12,x13,x14,x18,x19,x20 => if x20 < x19 then (if 0 ≤ x20 then (if x20 < (x18.length : Int) then (if (rd x18 x20) < 0 then (some false) else (if (rd x18 x20) ≥ x3 then (some false) else (if x20 > 0 then (if 0 ≤ (wrap64 (x20 - 1)) then (if (wrap64 (x20 - 1)) < (x5.length : Int) then (if (rd x5 (wrap64 (x20 - 1))) ≥ (rd x18 x20) then (some false) else (spec_GoodGraph.l1 k x3 x5 x12 x13 x14 x18 x19 (wrap64 (x20 + 1)))) else (none)) else (none)) else (spec_GoodGraph.l1 k x3 x5 x12 x13 x14 x18 x19 (wrap64 (x20 + 1)))))) else (none)) else (none)) else (spec_GoodGraph.l0 k x3 x12 x13 (wrap64 (x14 + 1)))
end
def spec_GoodGraph.f (k : Nat) (l0_0 : List (List Int)) : Option (Bool):=spec_GoodGraph.l0 k (l0_0.length : Int) l0_0 (l0_0.length : Int) 0
theorem spec_GoodGraph.mono_l : ∀ k,(∀ y0 y1 y2 y3,LeO (spec_GoodGraph.l0 k y0 y1 y2 y3) (spec_GoodGraph.l0 (k + 1) y0 y1 y2 y3)) ∧ (∀ y0 y1 y2 y3 y4 y5 y6 y7,LeO (spec_GoodGraph.l1 k y0 y1 y2 y3 y4 y5 y6 y7) (spec_GoodGraph.l1 (k + 1) y0 y1 y2 y3 y4 y5 y6 y7))
 | 0 => ⟨fun _ _ _ _ r h => by simp [spec_GoodGraph.l0] at h,fun _ _ _ _ _ _ _ _ r h => by simp [spec_GoodGraph.l1] at h⟩
 | k + 1 => by
  obtain ⟨ih0,ih1⟩:=spec_GoodGraph.mono_l k
  refine ⟨?_,?_⟩
  ·intro y0 y1 y2 y3
   unfold spec_GoodGraph.l0
   repeat' first
   | (with_reducible exact ih0 _ _ _ _)
   | (with_reducible exact ih1 _ _ _ _ _ _ _ _)
   | (with_reducible exact LeO.refl _)
   | (with_reducible exact LeO.none _)
   | (with_reducible refine LeO.ite ?_ ?_)
   | (with_reducible refine LeO.bind ?_ (fun _ => ?_))
   | exact ih0 _ _ _ _
   | exact ih1 _ _ _ _ _ _ _ _
   | exact LeO.none _
   | refine LeO.ite ?_ ?_
   | refine LeO.bind ?_ (fun _ => ?_)
  ·intro y0 y1 y2 y3 y4 y5 y6 y7
   unfold spec_GoodGraph.l1
   repeat' first
   | (with_reducible exact ih0 _ _ _ _)
   | (with_reducible exact ih1 _ _ _ _ _ _ _ _)
   | (with_reducible exact LeO.refl _)
   | (with_reducible exact LeO.none _)
   | (with_reducible refine LeO.ite ?_ ?_)
   | (with_reducible refine LeO.bind ?_ (fun _ => ?_))
   | exact ih0 _ _ _ _
   | exact ih1 _ _ _ _ _ _ _ _
   | exact LeO.none _
   | refine LeO.ite ?_ ?_
   | refine LeO.bind ?_ (fun _ => ?_)
theorem spec_GoodGraph.mono : ∀ a0 k,LeO (spec_GoodGraph.f k a0) (spec_GoodGraph.f (k + 1) a0):=by
 intro a0 k
 obtain ⟨ih0,ih1⟩:=spec_GoodGraph.mono_l k
 unfold spec_GoodGraph.f
 repeat' first
   | (with_reducible exact ih0 _ _ _ _)
   | (with_reducible exact ih1 _ _ _ _ _ _ _ _)
   | (with_reducible exact LeO.refl _)
   | (with_reducible exact LeO.none _)
   | (with_reducible refine LeO.ite ?_ ?_)
   | (with_reducible refine LeO.bind ?_ (fun _ => ?_))
   | exact ih0 _ _ _ _
   | exact ih1 _ _ _ _ _ _ _ _
   | exact LeO.none _
   | refine LeO.ite ?_ ?_
   | refine LeO.bind ?_ (fun _ => ?_)
set_option maxHeartbeats 8000000 in
set_option maxRecDepth 100000 in
theorem spec_GoodGraph.calls (k : Nat) (A0_0 : Option Addr) (c0_0 : Nat) (l0_0 : List (List Int)) (r : Bool) (w : World) (hr0_0 : Kd.C (Kd.slice 3 (Kd.int .i64)) w A0_0 l0_0.length l0_0) (hc0_0 : l0_0.length ≤ c0_0) (h : spec_GoodGraph.f k l0_0 = some r) :
  Calls Try.prog 71 #[.agg #[.slice A0_0 l0_0.length c0_0]] w fun e w' => e = .returned (.bool r) ∧ Below w.heap.size w w':=by
 have hu28:=Try.underlying28
 have HR0_0:=Aside0.mk hr0_0
 have HC0_0:=Aside0.mk hc0_0
 clear hr0_0 hc0_0
 have HB:=Aside0.mk (Below.refl w.heap.size w)
 have H : (spec_GoodGraph.l0 k (l0_0.length : Int) l0_0 (l0_0.length : Int) 0) = some r:=h
 clear h
 have H':=Aside0.mk H
 clear H
 go_enter Try.func71,Try.ntmps71
 go_wp2_with (first | ((with_reducible refine gate_dst (N:=1) rfl ?_);refine box_event ?hg (N:=1) ?hd (cs:=#[.slice A0_0 l0_0.length c0_0]) (t:=28) ?hr ?_;(case hd => rfl);(case hg => rfl);(case hr => first | (go_simp;done) | (go_simp;rfl));intro gb153 hg w2 hbox hb;have n0_:=Aside0.mk (below_step (by repeat (first | (with_reducible first | exact HB.out | apply below_alloc | apply pw_below_drewN | apply below_drew1) | exact HB.out)) hb);have n1_:=Aside0.mk (hbox);have n2_:=Aside0.mk ((by rw [hg];exact (below_size (by repeat (first | (with_reducible first | exact HB.out | apply below_alloc | apply pw_below_drewN | apply below_drew1) | exact HB.out))) : w.heap.size ≤ gb153));have n3_:=Aside0.mk ((by rw [hg];exact (below_size (by repeat (first | (with_reducible first | exact HB.out | apply below_alloc | apply pw_below_drewN | apply below_drew1) | exact HB.out))) : w.heap.size ≤ gb153));clear HB;have HB:=n0_;have BK153:=n1_;have GW153:=n2_;have GE153:=n3_;clear n0_ n1_ n2_ n3_;clear hb hbox hg;have hcz3_0 : w2.cell? ⟨gb153,0,none⟩ = some (.slice A0_0 l0_0.length c0_0):=(blk_cell BK153.out 0).trans rfl;have hfz3_0:=blk_frozen BK153.out 0))
 go_loopg [14] k (fun kq v14 w' => ∃ (x14_1 : Int),v14 = .int .i64 x14_1 ∧ Aside0 (spec_GoodGraph.l0 kq (l0_0.length : Int) l0_0 (l0_0.length : Int) x14_1 = some r) ∧ Aside0 (kq ≤ k) ∧ Aside0 (w'.heap[gb153]? = some (.cells #[(.slice A0_0 l0_0.length c0_0)] 28 (0,0))) ∧ Aside0 (Below w.heap.size w w'))
 case atStart => exact ⟨(0),(by first | rfl | (simp;done) | (simp [*];done)),H',⟨Nat.le_refl _⟩,⟨by (with_reducible repeat (first | refine blk_drewN ?_ _ | refine blk_drew ?_ | refine blk_alloc ?_ _));exact BK153.out⟩,⟨by repeat (first | (with_reducible first | exact HB.out | apply below_alloc | apply pw_below_drewN | apply below_drew1 | refine below_set ?_ GE153.out) | exact HB.out)⟩⟩
 case round =>
  clear H'
  try clear p2
  try clear hcz3_0
  try clear hfz3_0
  obtain ⟨x14_1,rfl,HA,HK1,BK153,HB⟩:=hrel
  cases gk with
  | zero => exact absurd HA.out (by simp [spec_GoodGraph.l0])
  | succ k1 =>
   have H:=HA.out
   clear HA
   simp only [spec_GoodGraph.l0] at H
   by_cases c4 : x14_1 < (l0_0.length : Int)
   ·rw [if_pos c4] at H
    have c4b0 : decide (x14_1 < (l0_0.length : Int)) = true:=decide_eq_true c4
    clear c4
    by_cases c5 : 0 ≤ x14_1
    ·rw [if_pos c5] at H
     have c5b0 : decide (0 ≤ x14_1) = true:=decide_eq_true c5
     clear c5
     by_cases c6 : x14_1 < (l0_0.length : Int)
     ·rw [if_pos c6] at H
      have c6b0 : decide (x14_1 < (l0_0.length : Int)) = true:=decide_eq_true c6
      clear c6
      have H':=Aside0.mk H
      clear H
      have p155 : 0 ≤ (x14_1 : Int):=of_decide_eq_true (by first | (with_reducible assumption) | assumption)
      have q155 : x14_1 < (l0_0.length : Int):=of_decide_eq_true (by first | (with_reducible assumption) | assumption)
      obtain ⟨ad155,A155_0,c155_0,e155,hx155_0,hl155_0,hi155_0⟩:=at_L1 HR0_0.out x14_1 p155 q155
      cases e155
      replace hx155_0:=(HB.out.cell (World.block_lt_of_cell? w _ hx155_0)).trans hx155_0
      have HR155_0:=Aside0.mk hi155_0
      have HC155_0:=Aside0.mk hl155_0
      clear hi155_0 hl155_0
      replace p155:=eq_true p155
      replace q155:=eq_true q155
      go_wp2
      go_loopg [20] k1 (fun kq v20 w' => ∃ (x20_2 : Int),v20 = .int .i64 x20_2 ∧ Aside0 (spec_GoodGraph.l1 kq (l0_0.length : Int) (rd_L1 l0_0 x14_1) l0_0 (l0_0.length : Int) x14_1 (rd_L1 l0_0 x14_1) ((rd_L1 l0_0 x14_1).length : Int) x20_2 = some r) ∧ Aside0 (kq ≤ k1) ∧ Aside0 (w'.heap[gb153]? = some (.cells #[(.slice (some ad155) l0_0.length c0_0)] 28 (0,0))) ∧ Aside0 (Below w.heap.size w w'))
      case atStart => exact ⟨(0),(by first | rfl | (simp;done) | (simp [*];done)),H',⟨Nat.le_refl _⟩,⟨by (with_reducible repeat (first | refine blk_drewN ?_ _ | refine blk_drew ?_ | refine blk_alloc ?_ _));exact BK153.out⟩,⟨by repeat (first | (with_reducible first | exact HB.out | apply below_alloc | apply pw_below_drewN | apply below_drew1 | refine below_set ?_ GE153.out) | exact HB.out)⟩⟩
      case round =>
       clear H'
       try clear c1
       try clear p1
       try clear q1
       try clear hx1
       try clear p2
       try clear c4
       try clear c4b0
       try clear c5
       try clear c5b0
       try clear c6
       try clear c6b0
       try clear hcz3_0
       try clear hfz3_0
       try clear hx155_0
       try clear p155
       try clear p2
       try clear q155
       obtain ⟨x20_2,rfl,HA,HK2,BK153,HB⟩:=hrel
       cases gk with
       | zero => exact absurd HA.out (by simp [spec_GoodGraph.l1])
       | succ k2 =>
        have H:=HA.out
        clear HA
        simp only [spec_GoodGraph.l1] at H
        by_cases c7 : x20_2 < ((rd_L1 l0_0 x14_1).length : Int)
        ·rw [if_pos c7] at H
         have c7b0 : decide (x20_2 < ((rd_L1 l0_0 x14_1).length : Int)) = true:=decide_eq_true c7
         clear c7
         by_cases c8 : 0 ≤ x20_2
         ·rw [if_pos c8] at H
          have c8b0 : decide (0 ≤ x20_2) = true:=decide_eq_true c8
          clear c8
          by_cases c9 : x20_2 < ((rd_L1 l0_0 x14_1).length : Int)
          ·rw [if_pos c9] at H
           have c9b0 : decide (x20_2 < ((rd_L1 l0_0 x14_1).length : Int)) = true:=decide_eq_true c9
           clear c9
           by_cases c10 : (rd (rd_L1 l0_0 x14_1) x20_2) < 0
           ·rw [if_pos c10] at H
            have c10b0 : decide ((rd (rd_L1 l0_0 x14_1) x20_2) < 0) = true:=decide_eq_true c10
            clear c10
            obtain rfl:=Option.some.inj H
            have p156 : 0 ≤ (x20_2 : Int):=of_decide_eq_true (by first | (with_reducible assumption) | assumption)
            have q156 : x20_2 < ((rd_L1 l0_0 x14_1).length : Int):=of_decide_eq_true (by first | (with_reducible assumption) | assumption)
            obtain ⟨ad156,e156,hx156_0⟩:=Kd.at_int HR155_0.out x20_2 p156 q156
            cases e156
            replace hx156_0:=(HB.out.cell (World.block_lt_of_cell? w _ hx156_0)).trans hx156_0
            replace p156:=eq_true p156
            replace q156:=eq_true q156
            go_wp2
            go_ret
            exact ⟨by first | rfl | (simp [errW_none,errW_some] <;> rfl) | (simp [*,errW_none,errW_some] <;> rfl),by repeat (first | (with_reducible first | exact HB.out | apply below_alloc | apply pw_below_drewN | apply below_drew1 | refine below_set ?_ GE153.out) | exact HB.out)⟩
           ·rw [if_neg c10] at H
            have c10b0 : decide ((rd (rd_L1 l0_0 x14_1) x20_2) < 0) = false:=decide_eq_false c10
            clear c10
            by_cases c11 : (rd (rd_L1 l0_0 x14_1) x20_2) ≥ (l0_0.length : Int)
            ·rw [if_pos c11] at H
             have c11b0 : decide ((l0_0.length : Int) ≤ (rd (rd_L1 l0_0 x14_1) x20_2)) = true:=decide_eq_true c11
             clear c11
             obtain rfl:=Option.some.inj H
             have p156 : 0 ≤ (x20_2 : Int):=of_decide_eq_true (by first | (with_reducible assumption) | assumption)
             have q156 : x20_2 < ((rd_L1 l0_0 x14_1).length : Int):=of_decide_eq_true (by first | (with_reducible assumption) | assumption)
             obtain ⟨ad156,e156,hx156_0⟩:=Kd.at_int HR155_0.out x20_2 p156 q156
             cases e156
             replace hx156_0:=(HB.out.cell (World.block_lt_of_cell? w _ hx156_0)).trans hx156_0
             replace p156:=eq_true p156
             replace q156:=eq_true q156
             go_wp2
             go_ret
             exact ⟨by first | rfl | (simp [errW_none,errW_some] <;> rfl) | (simp [*,errW_none,errW_some] <;> rfl),by repeat (first | (with_reducible first | exact HB.out | apply below_alloc | apply pw_below_drewN | apply below_drew1 | refine below_set ?_ GE153.out) | exact HB.out)⟩
            ·rw [if_neg c11] at H
             have c11b0 : decide ((l0_0.length : Int) ≤ (rd (rd_L1 l0_0 x14_1) x20_2)) = false:=decide_eq_false c11
             clear c11
             by_cases c12 : x20_2 > 0
             ·rw [if_pos c12] at H
              have c12b0 : decide (0 < x20_2) = true:=decide_eq_true c12
              clear c12
              obtain ⟨ji13,hji13⟩ : ∃ j_ : Int,(wrap64 (x20_2 - 1)) = j_:=⟨_,rfl⟩
              replace H : (if 0 ≤ (ji13) then (if (ji13) < ((rd_L1 l0_0 x14_1).length : Int) then (if (rd (rd_L1 l0_0 x14_1) (ji13)) ≥ (rd (rd_L1 l0_0 x14_1) x20_2) then (some false) else (spec_GoodGraph.l1 k2 (l0_0.length : Int) (rd_L1 l0_0 x14_1) l0_0 (l0_0.length : Int) x14_1 (rd_L1 l0_0 x14_1) ((rd_L1 l0_0 x14_1).length : Int) (wrap64 (x20_2 + 1)))) else (none)) else (none)) = some r:=by first | (rw [hji13] at H;exact H) | (simp only [hji13] at H ⊢;exact H)
              have hji13w : (IntKind.i64.wrap (x20_2 - 1)) = ji13:=(i64_w _).trans hji13
              by_cases c14 : 0 ≤ (ji13)
              ·rw [if_pos c14] at H
               have c14b0 : decide (0 ≤ (ji13)) = true:=decide_eq_true c14
               clear c14
               by_cases c15 : (ji13) < ((rd_L1 l0_0 x14_1).length : Int)
               ·rw [if_pos c15] at H
                have c15b0 : decide ((ji13) < ((rd_L1 l0_0 x14_1).length : Int)) = true:=decide_eq_true c15
                clear c15
                by_cases c16 : (rd (rd_L1 l0_0 x14_1) (ji13)) ≥ (rd (rd_L1 l0_0 x14_1) x20_2)
                ·rw [if_pos c16] at H
                 have c16b0 : decide ((rd (rd_L1 l0_0 x14_1) x20_2) ≤ (rd (rd_L1 l0_0 x14_1) (ji13))) = true:=decide_eq_true c16
                 clear c16
                 obtain rfl:=Option.some.inj H
                 have p156 : 0 ≤ (x20_2 : Int):=of_decide_eq_true (by first | (with_reducible assumption) | assumption)
                 have q156 : x20_2 < ((rd_L1 l0_0 x14_1).length : Int):=of_decide_eq_true (by first | (with_reducible assumption) | assumption)
                 obtain ⟨ad156,e156,hx156_0⟩:=Kd.at_int HR155_0.out x20_2 p156 q156
                 cases e156
                 replace hx156_0:=(HB.out.cell (World.block_lt_of_cell? w _ hx156_0)).trans hx156_0
                 replace p156:=eq_true p156
                 replace q156:=eq_true q156
                 have p157 : 0 ≤ ((ji13) : Int):=of_decide_eq_true (by first | (with_reducible assumption) | assumption)
                 have q157 : (ji13) < ((rd_L1 l0_0 x14_1).length : Int):=of_decide_eq_true (by first | (with_reducible assumption) | assumption)
                 obtain ⟨ad157,e157,hx157_0⟩:=Kd.at_int HR155_0.out (ji13) p157 q157
                 obtain rfl : ad156 = ad157:=(by injection e157)
                 replace hx157_0:=(HB.out.cell (World.block_lt_of_cell? w _ hx157_0)).trans hx157_0
                 replace p157:=eq_true p157
                 replace q157:=eq_true q157
                 go_wp2
                 go_ret
                 exact ⟨by first | rfl | (simp [errW_none,errW_some] <;> rfl) | (simp only [← hji13];first | rfl | (simp [errW_none,errW_some] <;> rfl)) | (simp [*,errW_none,errW_some] <;> rfl),by repeat (first | (with_reducible first | exact HB.out | apply below_alloc | apply pw_below_drewN | apply below_drew1 | refine below_set ?_ GE153.out) | exact HB.out)⟩
                ·rw [if_neg c16] at H
                 have c16b0 : decide ((rd (rd_L1 l0_0 x14_1) x20_2) ≤ (rd (rd_L1 l0_0 x14_1) (ji13))) = false:=decide_eq_false c16
                 clear c16
                 have H':=Aside0.mk H
                 clear H
                 have p156 : 0 ≤ (x20_2 : Int):=of_decide_eq_true (by first | (with_reducible assumption) | assumption)
                 have q156 : x20_2 < ((rd_L1 l0_0 x14_1).length : Int):=of_decide_eq_true (by first | (with_reducible assumption) | assumption)
                 obtain ⟨ad156,e156,hx156_0⟩:=Kd.at_int HR155_0.out x20_2 p156 q156
                 cases e156
                 replace hx156_0:=(HB.out.cell (World.block_lt_of_cell? w _ hx156_0)).trans hx156_0
                 replace p156:=eq_true p156
                 replace q156:=eq_true q156
                 have p157 : 0 ≤ ((ji13) : Int):=of_decide_eq_true (by first | (with_reducible assumption) | assumption)
                 have q157 : (ji13) < ((rd_L1 l0_0 x14_1).length : Int):=of_decide_eq_true (by first | (with_reducible assumption) | assumption)
                 obtain ⟨ad157,e157,hx157_0⟩:=Kd.at_int HR155_0.out (ji13) p157 q157
                 obtain rfl : ad156 = ad157:=(by injection e157)
                 replace hx157_0:=(HB.out.cell (World.block_lt_of_cell? w _ hx157_0)).trans hx157_0
                 replace p157:=eq_true p157
                 replace q157:=eq_true q157
                 go_wp2
                 go_roundg k2
                 case measure => have:=HK1.out;have:=HK2.out;omega
                 case rel => exact ⟨(wrap64 (x20_2 + 1)),(by first | rfl | (simp;done) | (simp [*];done)),H',⟨by have:=HK1.out;have:=HK2.out;omega⟩,⟨by (with_reducible repeat (first | refine blk_drewN ?_ _ | refine blk_drew ?_ | refine blk_alloc ?_ _));exact BK153.out⟩,⟨by repeat (first | (with_reducible first | exact HB.out | apply below_alloc | apply pw_below_drewN | apply below_drew1 | refine below_set ?_ GE153.out) | exact HB.out)⟩⟩
               ·rw [if_neg c15] at H
                exact absurd H (by simp)
              ·rw [if_neg c14] at H
               exact absurd H (by simp)
             ·rw [if_neg c12] at H
              have c12b0 : decide (0 < x20_2) = false:=decide_eq_false c12
              clear c12
              have H':=Aside0.mk H
              clear H
              have p156 : 0 ≤ (x20_2 : Int):=of_decide_eq_true (by first | (with_reducible assumption) | assumption)
              have q156 : x20_2 < ((rd_L1 l0_0 x14_1).length : Int):=of_decide_eq_true (by first | (with_reducible assumption) | assumption)
              obtain ⟨ad156,e156,hx156_0⟩:=Kd.at_int HR155_0.out x20_2 p156 q156
              cases e156
              replace hx156_0:=(HB.out.cell (World.block_lt_of_cell? w _ hx156_0)).trans hx156_0
              replace p156:=eq_true p156
              replace q156:=eq_true q156
              go_wp2
              go_roundg k2
              case measure => have:=HK1.out;have:=HK2.out;omega
              case rel => exact ⟨(wrap64 (x20_2 + 1)),(by first | rfl | (simp;done) | (simp [*];done)),H',⟨by have:=HK1.out;have:=HK2.out;omega⟩,⟨by (with_reducible repeat (first | refine blk_drewN ?_ _ | refine blk_drew ?_ | refine blk_alloc ?_ _));exact BK153.out⟩,⟨by repeat (first | (with_reducible first | exact HB.out | apply below_alloc | apply pw_below_drewN | apply below_drew1 | refine below_set ?_ GE153.out) | exact HB.out)⟩⟩
          ·rw [if_neg c9] at H
           exact absurd H (by simp)
         ·rw [if_neg c8] at H
          exact absurd H (by simp)
        ·rw [if_neg c7] at H
         have c7b0 : decide (x20_2 < ((rd_L1 l0_0 x14_1).length : Int)) = false:=decide_eq_false c7
         clear c7
         have H':=Aside0.mk H
         clear H
         go_wp2
         go_roundg k2
         case measure => have:=HK1.out;have:=HK2.out;omega
         case rel => exact ⟨(wrap64 (x14_1 + 1)),(by first | rfl | (simp;done) | (simp [*];done)),H',⟨by have:=HK1.out;have:=HK2.out;omega⟩,⟨by (with_reducible repeat (first | refine blk_drewN ?_ _ | refine blk_drew ?_ | refine blk_alloc ?_ _));exact BK153.out⟩,⟨by repeat (first | (with_reducible first | exact HB.out | apply below_alloc | apply pw_below_drewN | apply below_drew1 | refine below_set ?_ GE153.out) | exact HB.out)⟩⟩
     ·rw [if_neg c6] at H
      exact absurd H (by simp)
    ·rw [if_neg c5] at H
     exact absurd H (by simp)
   ·rw [if_neg c4] at H
    have c4b0 : decide (x14_1 < (l0_0.length : Int)) = false:=decide_eq_false c4
    clear c4
    replace H:=Option.bind_eq_some_iff.mp H
    obtain ⟨t154,A170,H⟩:=H
    replace H : (some t154) = some r:=H
    have A17:=Aside0.mk A170
    clear A170
    obtain rfl:=Option.some.inj H
    go_wp2_with (first | ((with_reducible refine gate_callee (f:=92) rfl ?_);refine goesL_ (some 48) rfl rfl Try.func92 (by kernel_rfl) rfl #[.int .i64 (l0_0.length : Int),.int .i64 1,.int .i64 12] rfl (by (try simp only [List.map_toArray,List.map_cons,List.map_nil]);first | done | rfl | (simp only [List.length_drop,List.length_take];rfl)) ?_;(with_reducible refine (spec_l1In.calls (l0_0.length : Int) 1 12 t154 _ A17.out).mono ?_);rintro e w' ⟨rfl,⟨nd,rfl⟩⟩;refine ⟨_,rfl,?_⟩))
    go_ret
    exact ⟨by first | rfl | (simp [errW_none,errW_some] <;> rfl) | (simp [*,errW_none,errW_some] <;> rfl),by repeat (first | (with_reducible first | exact HB.out | apply below_alloc | apply pw_below_drewN | apply below_drew1 | refine below_set ?_ GE153.out) | exact HB.out)⟩

end Go.Proofs.Ytbmnoenbhlfjaaa.Q
