-- WRITTEN BY A PROGRAM OF THIS SESSION
import Derived.Test.YtbmnoenbhlfjaaaQ0
import Derived.Test.YtbmnoenbhlfjaaaQ1
import Derived.Test.YtbmnoenbhlfjaaaQ5
import Derived.Test.YtbmnoenbhlfjaaaQ6
import Derived.Test.YtbmnoenbhlfjaaaQ9
import Derived.Test.YtbmnoenbhlfjaaaQ12
namespace Go.Proofs.Ytbmnoenbhlfjaaa.Q
open Go.RowKit Go.Proofs.YtbmnoenbhlfjaaaW.PrintWords Go.Proofs.YtbmnoenbhlfjaaaW.PrintLast Go.Proofs.YtbmnoenbhlfjaaaW.PrintMore
attribute [local go_sem] max2_int min2_int max_two min_two max_three min_three max_four min_four   -- for this text's walks alone
set_option linter.unusedVariables false
set_option linter.unusedSimpArgs false

/-! ### spec_ExitsOf: function 17 -/
mutual
def spec_ExitsOf.j0 : Nat → Int → List (S58) → Bool → List (List Int) → Option ((List (List Int)) × Bool)
 | 0,_,_,_,_ => none
 | k + 1,x1,x6,x29,x271000 => if x29 = true then (some (([] : List (List Int)),false)) else (if 0 ≤ x1 then (if x1 < (x6.length : Int) then (spec_ExitsOf.l0 k x1 x6 ([] : List (List Int)) ((rd_T58 x6 x1).f1) (((rd_T58 x6 x1).f1).length : Int) 0 x271000) else (none)) else (none))
def spec_ExitsOf.l0 : Nat → Int → List (S58) → List (List Int) → List Int → Int → Int → List (List Int) → Option ((List (List Int)) × Bool)
 | 0,_,_,_,_,_,_,_ => none
 | k + 1,x1,x6,x8,x34,x35,x36,x271000 => if x36 < x35 then (if 0 ≤ x36 then (if x36 < (x34.length : Int) then (if 0 ≤ (rd x34 x36) then (if (rd x34 x36) < (x271000.length : Int) then (spec_ExitsOf.l1 k x1 x6 x8 (rd x34 x36) x34 x35 x36 (rd_L1 x271000 (rd x34 x36)) ((rd_L1 x271000 (rd x34 x36)).length : Int) 0 x271000) else (none)) else (none)) else (none)) else (none)) else (some (x8,true))
def spec_ExitsOf.l1 : Nat → Int → List (S58) → List (List Int) → Int → List Int → Int → Int → List Int → Int → Int → List (List Int) → Option ((List (List Int)) × Bool)
 | 0,_,_,_,_,_,_,_,_,_,_,_ => none
 | k + 1,x1,x6,x8,x10,x34,x35,x36,x44,x45,x46,x271000 => if x46 < x45 then (if 0 ≤ x46 then (if x46 < (x44.length : Int) then (if 0 ≤ x1 then (if x1 < (x6.length : Int) then ((spec_l1Has.f k ((rd_T58 x6 x1).f1) (rd x44 x46)).bind fun t280 => (if t280 = true then (spec_ExitsOf.l1 k x1 x6 x8 x10 x34 x35 x36 x44 x45 (wrap64 (x46 + 1)) x271000) else (if x8.length < 5864062014805 then (spec_ExitsOf.l1 k x1 x6 (x8 ++ [(([x10,rd x44 x46] : List Int))]) x10 x34 x35 x36 x44 x45 (wrap64 (x46 + 1)) x271000) else (none)))) else (none)) else (none)) else (none)) else (none)) else (spec_ExitsOf.l0 k x1 x6 x8 x34 x35 (wrap64 (x36 + 1)) x271000)
end
def spec_ExitsOf.f (k : Nat) (l0_0 : List (List Int)) (a1 : Int) : Option ((List (List Int)) × Bool):=(spec_l8Loops.f k l0_0).bind fun bt271 => (if bt271.2 = true then (if a1 < 0 then (spec_ExitsOf.j0 k a1 bt271.1 true l0_0) else (spec_ExitsOf.j0 k a1 bt271.1 (decide (a1 ≥ (bt271.1.length : Int))) l0_0)) else (spec_ExitsOf.j0 k a1 bt271.1 true l0_0))
theorem spec_ExitsOf.mono_l : ∀ k,(∀ y0 y1 y2 y3,LeO (spec_ExitsOf.j0 k y0 y1 y2 y3) (spec_ExitsOf.j0 (k + 1) y0 y1 y2 y3)) ∧ (∀ y0 y1 y2 y3 y4 y5 y6,LeO (spec_ExitsOf.l0 k y0 y1 y2 y3 y4 y5 y6) (spec_ExitsOf.l0 (k + 1) y0 y1 y2 y3 y4 y5 y6)) ∧ (∀ y0 y1 y2 y3 y4 y5 y6 y7 y8 y9 y10,LeO (spec_ExitsOf.l1 k y0 y1 y2 y3 y4 y5 y6 y7 y8 y9 y10) (spec_ExitsOf.l1 (k + 1) y0 y1 y2 y3 y4 y5 y6 y7 y8 y9 y10))
 | 0 => ⟨fun _ _ _ _ r h => by simp [spec_ExitsOf.j0] at h,fun _ _ _ _ _ _ _ r h => by simp [spec_ExitsOf.l0] at h,fun _ _ _ _ _ _ _ _ _ _ _ r h => by simp [spec_ExitsOf.l1] at h⟩
 | k + 1 => by
  obtain ⟨ih0,ih1,ih2⟩:=spec_ExitsOf.mono_l k
  refine ⟨?_,?_,?_⟩
  ·intro y0 y1 y2 y3
   unfold spec_ExitsOf.j0
   repeat' first
   | (with_reducible exact ih0 _ _ _ _)
   | (with_reducible exact ih1 _ _ _ _ _ _ _)
   | (with_reducible exact ih2 _ _ _ _ _ _ _ _ _ _ _)
   | (with_reducible exact spec_l1Has.mono _ _ _)
   | (with_reducible exact spec_l8Loops.mono _ _)
   | (with_reducible exact LeO.refl _)
   | (with_reducible exact LeO.none _)
   | (with_reducible refine LeO.ite ?_ ?_)
   | (with_reducible refine LeO.bind ?_ (fun _ => ?_))
   | exact ih0 _ _ _ _
   | exact ih1 _ _ _ _ _ _ _
   | exact ih2 _ _ _ _ _ _ _ _ _ _ _
   | exact spec_l1Has.mono _ _ _
   | exact spec_l8Loops.mono _ _
   | exact LeO.none _
   | refine LeO.ite ?_ ?_
   | refine LeO.bind ?_ (fun _ => ?_)
  ·intro y0 y1 y2 y3 y4 y5 y6
   unfold spec_ExitsOf.l0
   repeat' first
   | (with_reducible exact ih0 _ _ _ _)
   | (with_reducible exact ih1 _ _ _ _ _ _ _)
   | (with_reducible exact ih2 _ _ _ _ _ _ _ _ _ _ _)
   | (with_reducible exact spec_l1Has.mono _ _ _)
   | (with_reducible exact spec_l8Loops.mono _ _)
   | (with_reducible exact LeO.refl _)
   | (with_reducible exact LeO.none _)
   | (with_reducible refine LeO.ite ?_ ?_)
   | (with_reducible refine LeO.bind ?_ (fun _ => ?_))
   | exact ih0 _ _ _ _
   | exact ih1 _ _ _ _ _ _ _
   | exact ih2 _ _ _ _ _ _ _ _ _ _ _
   | exact spec_l1Has.mono _ _ _
   | exact spec_l8Loops.mono _ _
   | exact LeO.none _
   | refine LeO.ite ?_ ?_
   | refine LeO.bind ?_ (fun _ => ?_)
  ·intro y0 y1 y2 y3 y4 y5 y6 y7 y8 y9 y10
   unfold spec_ExitsOf.l1
   repeat' first
   | (with_reducible exact ih0 _ _ _ _)
   | (with_reducible exact ih1 _ _ _ _ _ _ _)
   | (with_reducible exact ih2 _ _ _ _ _ _ _ _ _ _ _)
   | (with_reducible exact spec_l1Has.mono _ _ _)
   | (with_reducible exact spec_l8Loops.mono _ _)
   | (with_reducible exact LeO.refl _)
   | (with_reducible exact LeO.none _)
   | (with_reducible refine LeO.ite ?_ ?_)
   | (with_reducible refine LeO.bind ?_ (fun _ => ?_))
   | exact ih0 _ _ _ _
   | exact ih1 _ _ _ _ _ _ _
   | exact ih2 _ _ _ _ _ _ _ _ _ _ _
   | exact spec_l1Has.mono _ _ _
   | exact spec_l8Loops.mono _ _
   | exact LeO.none _
   | refine LeO.ite ?_ ?_
   | refine LeO.bind ?_ (fun _ => ?_)
theorem spec_ExitsOf.mono : ∀ a0 a1 k,LeO (spec_ExitsOf.f k a0 a1) (spec_ExitsOf.f (k + 1) a0 a1):=by
 intro a0 a1 k
 obtain ⟨ih0,ih1,ih2⟩:=spec_ExitsOf.mono_l k
 unfold spec_ExitsOf.f
 repeat' first
   | (with_reducible exact ih0 _ _ _ _)
   | (with_reducible exact ih1 _ _ _ _ _ _ _)
   | (with_reducible exact ih2 _ _ _ _ _ _ _ _ _ _ _)
   | (with_reducible exact spec_l1Has.mono _ _ _)
   | (with_reducible exact spec_l8Loops.mono _ _)
   | (with_reducible exact LeO.refl _)
   | (with_reducible exact LeO.none _)
   | (with_reducible refine LeO.ite ?_ ?_)
   | (with_reducible refine LeO.bind ?_ (fun _ => ?_))
   | exact ih0 _ _ _ _
   | exact ih1 _ _ _ _ _ _ _
   | exact ih2 _ _ _ _ _ _ _ _ _ _ _
   | exact spec_l1Has.mono _ _ _
   | exact spec_l8Loops.mono _ _
   | exact LeO.none _
   | refine LeO.ite ?_ ?_
   | refine LeO.bind ?_ (fun _ => ?_)
set_option maxHeartbeats 8000000 in
set_option maxRecDepth 100000 in
theorem spec_ExitsOf.calls (k : Nat) (A0_0 : Option Addr) (c0_0 : Nat) (l0_0 : List (List Int)) (a1 : Int) (r1 : List (List Int)) (r2 : Bool) (w : World) (hr0_0 : Kd.C (Kd.slice 3 (Kd.int .i64)) w A0_0 l0_0.length l0_0) (hc0_0 : l0_0.length ≤ c0_0) (h : spec_ExitsOf.f k l0_0 a1 = some (r1,r2)) :
  Calls Try.prog 17 #[.agg #[.slice A0_0 l0_0.length c0_0],.int .i64 a1] w fun e w' => ∃ v0_ : Value,e = .returned (.tuple #[v0_,.bool r2]) ∧ Kd.S (Kd.slice 3 (Kd.int .i64)) 43 w' w.heap.size (fun _ => True) v0_ r1 ∧ Below w.heap.size w w':=by
 have hu28:=Try.underlying28
 have HR0_0:=Aside0.mk hr0_0
 have HC0_0:=Aside0.mk hc0_0
 clear hr0_0 hc0_0
 have HB:=Aside0.mk (Below.refl w.heap.size w)
 have H : ((spec_l8Loops.f k l0_0).bind fun bt271 => (if bt271.2 = true then (if a1 < 0 then (spec_ExitsOf.j0 k a1 bt271.1 true l0_0) else (spec_ExitsOf.j0 k a1 bt271.1 (decide (a1 ≥ (bt271.1.length : Int))) l0_0)) else (spec_ExitsOf.j0 k a1 bt271.1 true l0_0))) = some (r1,r2):=h
 clear h
 replace H:=Option.bind_eq_some_iff.mp H
 obtain ⟨⟨t271,t274⟩,A30,H⟩:=H
 replace H : (if t274 = true then (if a1 < 0 then (spec_ExitsOf.j0 k a1 t271 true l0_0) else (spec_ExitsOf.j0 k a1 t271 (decide (a1 ≥ (t271.length : Int))) l0_0)) else (spec_ExitsOf.j0 k a1 t271 true l0_0)) = some (r1,r2):=H
 have A3:=Aside0.mk A30
 clear A30
 have HC4:=Aside0.mk H
 clear H
 go_enter Try.func17,Try.ntmps17
 go_upto_region 2 with (first | ((with_reducible refine gate_dst (N:=2) rfl ?_);(try (refine gate_guard (by rfl) ?_;dsimp only));refine box_event ?hg (N:=2) ?hd (cs:=#[.slice A0_0 l0_0.length c0_0]) (t:=28) ?hr ?_;(case hd => rfl);(case hg => rfl);(case hr => first | (go_simp;done) | (go_simp;rfl));intro gb270 hg w5 hbox hb;have n0_:=Aside0.mk (below_step (by repeat (first | (with_reducible first | exact HB.out | apply below_alloc | apply pw_below_drewN | apply below_drew1) | exact HB.out)) hb);have n1_:=Aside0.mk (hbox);have n2_:=Aside0.mk ((by rw [hg];exact (below_size (by repeat (first | (with_reducible first | exact HB.out | apply below_alloc | apply pw_below_drewN | apply below_drew1) | exact HB.out))) : w.heap.size ≤ gb270));have n3_:=Aside0.mk ((by rw [hg];exact (below_size (by repeat (first | (with_reducible first | exact HB.out | apply below_alloc | apply pw_below_drewN | apply below_drew1) | exact HB.out))) : w.heap.size ≤ gb270));clear HB;have HB:=n0_;have BK270:=n1_;have GW270:=n2_;have GE270:=n3_;clear n0_ n1_ n2_ n3_;clear hb hbox hg;have hcz6_0 : w5.cell? ⟨gb270,0,none⟩ = some (.slice A0_0 l0_0.length c0_0):=(blk_cell BK270.out 0).trans rfl;have hfz6_0:=blk_frozen BK270.out 0) | ((with_reducible refine gate_callee (f:=43) rfl ?_);refine goesL_ (some 15) rfl rfl Try.func43 (by kernel_rfl) rfl #[.agg #[.slice A0_0 l0_0.length c0_0]] rfl (by (try simp only [List.map_toArray,List.map_cons,List.map_nil]);first | done | rfl | (simp only [List.length_drop,List.length_take];rfl)) ?_;(with_reducible refine (spec_l8Loops.calls k _ _ l0_0 t271 t274 _ ?side1 ?side2 A3.out).mono ?_);(case side1 => repeat (first | exact (Kd.C_below HR0_0.out HB.out) | (with_reducible refine Kd.C_alloc ?_ _) | (with_reducible refine Kd.C_drewN ?_ _) | (with_reducible refine Kd.C_drew ?_)));(case side2 => exact HC0_0.out);rintro e w7 ⟨v272,rfl,ho0,hb⟩;refine ⟨_,rfl,?_⟩;have n0_:=Aside0.mk (Kd.S_lower ho0 (below_size (by repeat (first | (with_reducible first | exact HB.out | apply below_alloc | apply pw_below_drewN | apply below_drew1 | refine below_set ?_ GE270.out) | exact HB.out))));have n1_:=Aside0.mk (blk_below (g:=gb270) (o:=.cells #[.slice A0_0 l0_0.length c0_0] 28 (0,0)) (by (with_reducible repeat (first | refine blk_drewN ?_ _ | refine blk_drew ?_ | refine blk_alloc ?_ _));exact BK270.out) hb);have n2_:=Aside0.mk (below_step (by repeat (first | (with_reducible first | exact HB.out | apply below_alloc | apply pw_below_drewN | apply below_drew1 | refine below_set ?_ GE270.out) | exact HB.out)) hb);clear BK270;clear HB;have HO273:=n0_;have BK270:=n1_;have HB:=n2_;clear n0_ n1_ n2_;(try clear hb);(try clear hb2);(try clear hk);(try clear hi);(try clear ho0)))
 (try simp only [Act.put,List.setIfInBounds_toArray,List.set_cons_zero,List.set_cons_succ])
 go_cut [29] (fun v29 wc => ∃ (kq : Nat) (x29_3 : Bool),v29 = .bool x29_3 ∧ Aside0 (spec_ExitsOf.j0 kq a1 t271 x29_3 l0_0 = some (r1,r2)) ∧ Aside0 (kq ≤ k) ∧ Aside0 (Kd.S k58 58 wc w.heap.size (fun _ => True) v272 t271) ∧ Aside0 (wc.heap[gb270]? = some (.cells #[(.slice A0_0 l0_0.length c0_0)] 28 (0,0))) ∧ Aside0 (Below w.heap.size w wc))
 case first =>
  have H:=HC4.out
  clear HC4
  by_cases c8 : t274 = true
  ·subst c8
   have H1 : (if a1 < 0 then (spec_ExitsOf.j0 k a1 t271 true l0_0) else (spec_ExitsOf.j0 k a1 t271 (decide (a1 ≥ (t271.length : Int))) l0_0)) = some (r1,r2):=by rw [if_pos rfl] at H;exact H
   clear H
   have H:=H1
   clear H1
   by_cases c9 : a1 < 0
   ·rw [if_pos c9] at H
    have c9b0 : decide (a1 < 0) = true:=decide_eq_true c9
    clear c9
    (first | rw [c9b0] | (simp only [i64_w,i32_w];rw [c9b0]) | skip)
    have H':=Aside0.mk H
    clear H
    go_wp2
    go_meet
    case rel => exact ⟨_,(true),(by first | rfl | (simp;done) | (simp [*];done)),H',⟨by first | omega | exact Nat.le_refl _⟩,⟨by (with_reducible repeat (first | apply Kd.S_alloc | apply Kd.S_drewN | apply Kd.S_drew));exact HO273.out⟩,⟨by (with_reducible repeat (first | refine blk_drewN ?_ _ | refine blk_drew ?_ | refine blk_alloc ?_ _));exact BK270.out⟩,⟨by repeat (first | (with_reducible first | exact HB.out | apply below_alloc | apply pw_below_drewN | apply below_drew1 | refine below_set ?_ GE270.out) | exact HB.out)⟩⟩
   ·rw [if_neg c9] at H
    have c9b0 : decide (a1 < 0) = false:=decide_eq_false c9
    clear c9
    (first | rw [c9b0] | (simp only [i64_w,i32_w];rw [c9b0]) | skip)
    have H':=Aside0.mk H
    clear H
    obtain ⟨Ao10,co10,eo10⟩:=Kd.S_slice HO273.out
    subst eo10
    go_wp2
    go_meet
    case rel => exact ⟨_,(decide (a1 ≥ (t271.length : Int))),(by first | rfl | (simp;done) | (simp [*];done)),H',⟨by first | omega | exact Nat.le_refl _⟩,⟨by (with_reducible repeat (first | apply Kd.S_alloc | apply Kd.S_drewN | apply Kd.S_drew));exact HO273.out⟩,⟨by (with_reducible repeat (first | refine blk_drewN ?_ _ | refine blk_drew ?_ | refine blk_alloc ?_ _));exact BK270.out⟩,⟨by repeat (first | (with_reducible first | exact HB.out | apply below_alloc | apply pw_below_drewN | apply below_drew1 | refine below_set ?_ GE270.out) | exact HB.out)⟩⟩
  ·replace c8:=Bool.eq_false_iff.mpr c8
   subst c8
   have H1 : (spec_ExitsOf.j0 k a1 t271 true l0_0) = some (r1,r2):=by rw [if_neg (show ¬ (false = true) by decide)] at H;exact H
   clear H
   have H:=H1
   clear H1
   have H':=Aside0.mk H
   clear H
   go_wp2
   go_meet
   case rel => exact ⟨_,(true),(by first | rfl | (simp;done) | (simp [*];done)),H',⟨by first | omega | exact Nat.le_refl _⟩,⟨by (with_reducible repeat (first | apply Kd.S_alloc | apply Kd.S_drewN | apply Kd.S_drew));exact HO273.out⟩,⟨by (with_reducible repeat (first | refine blk_drewN ?_ _ | refine blk_drew ?_ | refine blk_alloc ?_ _));exact BK270.out⟩,⟨by repeat (first | (with_reducible first | exact HB.out | apply below_alloc | apply pw_below_drewN | apply below_drew1 | refine below_set ?_ GE270.out) | exact HB.out)⟩⟩
 case rest =>
  clear HC4
  try clear c1
  try clear p2
  try clear c4
  try clear c8
  try clear c9
  try clear c9b0
  try clear hcz6_0
  try clear hfz6_0
  obtain ⟨kq,x29_3,rfl,HA,HJ3,HO_6,BK270,HB⟩:=hcut
  cases kq with
  | zero => exact absurd HA.out (by simp [spec_ExitsOf.j0])
  | succ kj3 =>
   have H:=HA.out
   clear HA
   simp only [spec_ExitsOf.j0] at H
   by_cases c11 : x29_3 = true
   ·subst c11
    have H1 : (some (([] : List (List Int)),false)) = some (r1,r2):=by rw [if_pos rfl] at H;exact H
    clear H
    have H:=H1
    clear H1
    simp only [Option.some.injEq,Prod.mk.injEq] at H
    obtain ⟨rfl,rfl⟩:=H
    go_wp2
    go_ret2
    exact ⟨_,by first | rfl | (simp [errW_none,errW_some] <;> rfl) | (simp [*,errW_none,errW_some] <;> rfl),by first | exact Kd.S_nil _ _ _ _ _ | exact Kd.N_nil _ _ _ _ _ | exact Kd.V_nil _ _ _ _ _ | exact Kd.Q_nil _ _ _ _ _ | exact Kd.R_nil _ _ _ _ _,by repeat (first | (with_reducible first | exact HB.out | apply below_alloc | apply pw_below_drewN | apply below_drew1 | refine below_set ?_ GE270.out) | exact HB.out)⟩
   ·replace c11:=Bool.eq_false_iff.mpr c11
    subst c11
    have H1 : (if 0 ≤ a1 then (if a1 < (t271.length : Int) then (spec_ExitsOf.l0 kj3 a1 t271 ([] : List (List Int)) ((rd_T58 t271 a1).f1) (((rd_T58 t271 a1).f1).length : Int) 0 l0_0) else (none)) else (none)) = some (r1,r2):=by rw [if_neg (show ¬ (false = true) by decide)] at H;exact H
    clear H
    have H:=H1
    clear H1
    by_cases c12 : 0 ≤ a1
    ·rw [if_pos c12] at H
     have c12b0 : decide (0 ≤ a1) = true:=decide_eq_true c12
     clear c12
     by_cases c13 : a1 < (t271.length : Int)
     ·rw [if_pos c13] at H
      have c13b0 : decide (a1 < (t271.length : Int)) = true:=decide_eq_true c13
      clear c13
      have H':=Aside0.mk H
      clear H
      obtain ⟨Ao14,co14,eo14⟩:=Kd.S_slice HO_6.out
      subst eo14
      have p275 : 0 ≤ (a1 : Int):=of_decide_eq_true (by first | (with_reducible assumption) | assumption)
      have q275 : a1 < (t271.length : Int):=of_decide_eq_true (by first | (with_reducible assumption) | assumption)
      obtain ⟨ad275,A275_1,c275_1,e275,hx275_0,hx275_1,hx275_2,hl275_1,hi275_1⟩:=at_T58 (Kd.S_reads' HO_6.out).2.2 a1 p275 q275
      cases e275
      obtain ⟨ce275,hce275,hMe275,hcc275⟩:=Kd.S_get HO_6.out z58 a1 p275 (by first | exact q275 | exact of_decide_eq_true (by first | (with_reducible assumption) | assumption) | (have e_:=(Kd.S_reads' HO_6.out).1;omega))
      obtain ⟨ve275_1,rfl,ge275_1⟩:=k58_openM hMe275
      have hv275_1:=hcc275 1 _ rfl
      rw [add_field _ _ 1 (by omega)] at hv275_1
      replace hv275_1:=Option.some.inj (hv275_1.symm.trans hx275_1)
      rw [hv275_1] at ge275_1
      have HL275_1:=Aside0.mk (show Kd.R (Kd.int .i64) 3 _ _ _ _ ((rd_T58 t271 a1).f1) from ge275_1)
      clear hv275_1 ge275_1
      clear hcc275 hce275
      have HR275_1:=Aside0.mk hi275_1
      have HC275_1:=Aside0.mk hl275_1
      clear hi275_1 hl275_1
      replace p275:=eq_true p275
      replace q275:=eq_true q275
      go_wp2
      have HLR:=HL275_1
      go_loopg [8,36] kj3 (fun kq v8 v36 w' => ∃ (x8_2 : List (List Int)) (x36_2 : Int),v36 = .int .i64 x36_2 ∧ Aside0 (spec_ExitsOf.l0 kq a1 t271 x8_2 ((rd_T58 t271 a1).f1) (((rd_T58 t271 a1).f1).length : Int) x36_2 l0_0 = some (r1,r2)) ∧ Aside0 (kq ≤ kj3) ∧ Aside0 (Kd.S k58 58 w' w.heap.size (fun _ => True) (.slice (some ad275) t271.length co14) t271) ∧ Aside0 (Kd.R (Kd.int .i64) 3 w' w.heap.size (fun _ => True) (.slice A275_1 ((rd_T58 t271 a1).f1).length c275_1) ((rd_T58 t271 a1).f1)) ∧ Aside0 (Kd.S (Kd.slice 3 (Kd.int .i64)) 43 w' w.heap.size (fun _ => True) v8 x8_2) ∧ Aside0 (w'.heap[gb270]? = some (.cells #[(.slice A0_0 l0_0.length c0_0)] 28 (0,0))) ∧ Aside0 (Below w.heap.size w w'))
      case atStart => exact ⟨(([] : List (List Int))),(0),(by first | rfl | (simp;done) | (simp [*];done)),H',⟨Nat.le_refl _⟩,⟨by (with_reducible repeat (first | apply Kd.S_alloc | apply Kd.S_drewN | apply Kd.S_drew));exact HO_6.out⟩,⟨by (with_reducible repeat (first | apply Kd.R_alloc | apply Kd.R_drewN | apply Kd.R_drew));exact Kd.R_mono HLR.out (fun _ _ => trivial)⟩,⟨by first | exact Kd.S_nil _ _ _ _ _ | exact Kd.N_nil _ _ _ _ _ | exact Kd.V_nil _ _ _ _ _ | exact Kd.Q_nil _ _ _ _ _ | exact Kd.R_nil _ _ _ _ _⟩,⟨by (with_reducible repeat (first | refine blk_drewN ?_ _ | refine blk_drew ?_ | refine blk_alloc ?_ _));exact BK270.out⟩,⟨by repeat (first | (with_reducible first | exact HB.out | apply below_alloc | apply pw_below_drewN | apply below_drew1 | refine below_set ?_ GE270.out) | exact HB.out)⟩⟩
      case round =>
       clear H'
       try clear c1
       try clear c2
       try clear p2
       try clear q2
       try clear hx2
       try clear c4
       try clear c8
       try clear c9
       try clear c9b0
       try clear c11
       try clear c12
       try clear c12b0
       try clear c13
       try clear c13b0
       try clear hcz6_0
       try clear hfz6_0
       try clear hx275_0
       try clear hx275_1
       try clear hx275_2
       try clear p2
       try clear p275
       try clear q275
       obtain ⟨x8_2,x36_2,rfl,HA,HK2,HO_6,HLR,HO_8,BK270,HB⟩:=hrel
       cases gk with
       | zero => exact absurd HA.out (by simp [spec_ExitsOf.l0])
       | succ k2 =>
        have H:=HA.out
        clear HA
        simp only [spec_ExitsOf.l0] at H
        by_cases c15 : x36_2 < (((rd_T58 t271 a1).f1).length : Int)
        ·rw [if_pos c15] at H
         have c15b0 : decide (x36_2 < (((rd_T58 t271 a1).f1).length : Int)) = true:=decide_eq_true c15
         clear c15
         by_cases c16 : 0 ≤ x36_2
         ·rw [if_pos c16] at H
          have c16b0 : decide (0 ≤ x36_2) = true:=decide_eq_true c16
          clear c16
          by_cases c17 : x36_2 < (((rd_T58 t271 a1).f1).length : Int)
          ·rw [if_pos c17] at H
           have c17b0 : decide (x36_2 < (((rd_T58 t271 a1).f1).length : Int)) = true:=decide_eq_true c17
           clear c17
           by_cases c18 : 0 ≤ (rd ((rd_T58 t271 a1).f1) x36_2)
           ·rw [if_pos c18] at H
            have c18b0 : decide (0 ≤ (rd ((rd_T58 t271 a1).f1) x36_2)) = true:=decide_eq_true c18
            clear c18
            by_cases c19 : (rd ((rd_T58 t271 a1).f1) x36_2) < (l0_0.length : Int)
            ·rw [if_pos c19] at H
             have c19b0 : decide ((rd ((rd_T58 t271 a1).f1) x36_2) < (l0_0.length : Int)) = true:=decide_eq_true c19
             clear c19
             have H':=Aside0.mk H
             clear H
             have p276 : 0 ≤ (x36_2 : Int):=of_decide_eq_true (by first | (with_reducible assumption) | assumption)
             have q276 : x36_2 < (((rd_T58 t271 a1).f1).length : Int):=of_decide_eq_true (by first | (with_reducible assumption) | assumption)
             obtain ⟨ad276,e276,hx276_0⟩:=Kd.at_int (Kd.R_reads' HLR.out).2.2 x36_2 p276 q276
             cases e276
             replace p276:=eq_true p276
             replace q276:=eq_true q276
             have hcz20_0 : wr.cell? ⟨gb270,0,none⟩ = some (.slice A0_0 l0_0.length c0_0):=(blk_cell BK270.out 0).trans rfl
             have hfz20_0:=blk_frozen BK270.out 0
             have p277 : 0 ≤ ((rd ((rd_T58 t271 a1).f1) x36_2) : Int):=of_decide_eq_true (by first | (with_reducible assumption) | assumption)
             have q277 : (rd ((rd_T58 t271 a1).f1) x36_2) < (l0_0.length : Int):=of_decide_eq_true (by first | (with_reducible assumption) | assumption)
             obtain ⟨ad277,A277_0,c277_0,e277,hx277_0,hl277_0,hi277_0⟩:=at_L1 HR0_0.out (rd ((rd_T58 t271 a1).f1) x36_2) p277 q277
             cases e277
             replace hx277_0:=(HB.out.cell (World.block_lt_of_cell? w _ hx277_0)).trans hx277_0
             have HR277_0:=Aside0.mk hi277_0
             have HC277_0:=Aside0.mk hl277_0
             clear hi277_0 hl277_0
             replace p277:=eq_true p277
             replace q277:=eq_true q277
             go_wp2
             go_loopg [8,46] k2 (fun kq v8 v46 w' => ∃ (x8_3 : List (List Int)) (x46_3 : Int),v46 = .int .i64 x46_3 ∧ Aside0 (spec_ExitsOf.l1 kq a1 t271 x8_3 (rd ((rd_T58 t271 a1).f1) x36_2) ((rd_T58 t271 a1).f1) (((rd_T58 t271 a1).f1).length : Int) x36_2 (rd_L1 l0_0 (rd ((rd_T58 t271 a1).f1) x36_2)) ((rd_L1 l0_0 (rd ((rd_T58 t271 a1).f1) x36_2)).length : Int) x46_3 l0_0 = some (r1,r2)) ∧ Aside0 (kq ≤ k2) ∧ Aside0 (Kd.S k58 58 w' w.heap.size (fun _ => True) (.slice (some ad275) t271.length co14) t271) ∧ Aside0 (Kd.R (Kd.int .i64) 3 w' w.heap.size (fun _ => True) (.slice (some ad276) ((rd_T58 t271 a1).f1).length c275_1) ((rd_T58 t271 a1).f1)) ∧ Aside0 (Kd.S (Kd.slice 3 (Kd.int .i64)) 43 w' w.heap.size (fun _ => True) v8 x8_3) ∧ Aside0 (w'.heap[gb270]? = some (.cells #[(.slice (some ad277) l0_0.length c0_0)] 28 (0,0))) ∧ Aside0 (Below w.heap.size w w'))
             case atStart => exact ⟨(x8_2),(0),(by first | rfl | (simp;done) | (simp [*];done)),H',⟨Nat.le_refl _⟩,⟨by (with_reducible repeat (first | apply Kd.S_alloc | apply Kd.S_drewN | apply Kd.S_drew));exact HO_6.out⟩,⟨by (with_reducible repeat (first | apply Kd.R_alloc | apply Kd.R_drewN | apply Kd.R_drew));exact Kd.R_mono HLR.out (fun _ _ => trivial)⟩,⟨by (with_reducible repeat (first | apply Kd.S_alloc | apply Kd.S_drewN | apply Kd.S_drew));exact HO_8.out⟩,⟨by (with_reducible repeat (first | refine blk_drewN ?_ _ | refine blk_drew ?_ | refine blk_alloc ?_ _));exact BK270.out⟩,⟨by repeat (first | (with_reducible first | exact HB.out | apply below_alloc | apply pw_below_drewN | apply below_drew1 | refine below_set ?_ GE270.out) | exact HB.out)⟩⟩
             case round =>
              clear H'
              try clear c1
              try clear c2
              try clear p2
              try clear q2
              try clear hx2
              try clear c4
              try clear c8
              try clear c9
              try clear c9b0
              try clear c11
              try clear c12
              try clear c12b0
              try clear c13
              try clear c13b0
              try clear c15
              try clear c15b0
              try clear c16
              try clear c16b0
              try clear c17
              try clear c17b0
              try clear c18
              try clear c18b0
              try clear c19
              try clear c19b0
              try clear hcz20_0
              try clear hcz6_0
              try clear hfz20_0
              try clear hfz6_0
              try clear hx275_0
              try clear hx275_1
              try clear hx275_2
              try clear hx276_0
              try clear hx277_0
              try clear p2
              try clear p275
              try clear p276
              try clear p277
              try clear q2
              try clear q275
              try clear q276
              try clear q277
              obtain ⟨x8_3,x46_3,rfl,HA,HK3,HO_6,HLR,HO_8,BK270,HB⟩:=hrel
              cases gk with
              | zero => exact absurd HA.out (by simp [spec_ExitsOf.l1])
              | succ k3 =>
               have H:=HA.out
               clear HA
               simp only [spec_ExitsOf.l1] at H
               by_cases c21 : x46_3 < ((rd_L1 l0_0 (rd ((rd_T58 t271 a1).f1) x36_2)).length : Int)
               ·rw [if_pos c21] at H
                have c21b0 : decide (x46_3 < ((rd_L1 l0_0 (rd ((rd_T58 t271 a1).f1) x36_2)).length : Int)) = true:=decide_eq_true c21
                clear c21
                by_cases c22 : 0 ≤ x46_3
                ·rw [if_pos c22] at H
                 have c22b0 : decide (0 ≤ x46_3) = true:=decide_eq_true c22
                 clear c22
                 by_cases c23 : x46_3 < ((rd_L1 l0_0 (rd ((rd_T58 t271 a1).f1) x36_2)).length : Int)
                 ·rw [if_pos c23] at H
                  have c23b0 : decide (x46_3 < ((rd_L1 l0_0 (rd ((rd_T58 t271 a1).f1) x36_2)).length : Int)) = true:=decide_eq_true c23
                  clear c23
                  by_cases c24 : 0 ≤ a1
                  ·rw [if_pos c24] at H
                   have c24b0 : decide (0 ≤ a1) = true:=decide_eq_true c24
                   clear c24
                   by_cases c25 : a1 < (t271.length : Int)
                   ·rw [if_pos c25] at H
                    have c25b0 : decide (a1 < (t271.length : Int)) = true:=decide_eq_true c25
                    clear c25
                    replace H:=Option.bind_eq_some_iff.mp H
                    obtain ⟨t280,A260,H⟩:=H
                    replace H : (if t280 = true then (spec_ExitsOf.l1 k3 a1 t271 x8_3 (rd ((rd_T58 t271 a1).f1) x36_2) ((rd_T58 t271 a1).f1) (((rd_T58 t271 a1).f1).length : Int) x36_2 (rd_L1 l0_0 (rd ((rd_T58 t271 a1).f1) x36_2)) ((rd_L1 l0_0 (rd ((rd_T58 t271 a1).f1) x36_2)).length : Int) (wrap64 (x46_3 + 1)) l0_0) else (if x8_3.length < 5864062014805 then (spec_ExitsOf.l1 k3 a1 t271 (x8_3 ++ [(([(rd ((rd_T58 t271 a1).f1) x36_2),rd (rd_L1 l0_0 (rd ((rd_T58 t271 a1).f1) x36_2)) x46_3] : List Int))]) (rd ((rd_T58 t271 a1).f1) x36_2) ((rd_T58 t271 a1).f1) (((rd_T58 t271 a1).f1).length : Int) x36_2 (rd_L1 l0_0 (rd ((rd_T58 t271 a1).f1) x36_2)) ((rd_L1 l0_0 (rd ((rd_T58 t271 a1).f1) x36_2)).length : Int) (wrap64 (x46_3 + 1)) l0_0) else (none))) = some (r1,r2):=H
                    have A26:=Aside0.mk A260
                    clear A260
                    by_cases c27 : t280 = true
                    ·subst c27
                     have H1 : (spec_ExitsOf.l1 k3 a1 t271 x8_3 (rd ((rd_T58 t271 a1).f1) x36_2) ((rd_T58 t271 a1).f1) (((rd_T58 t271 a1).f1).length : Int) x36_2 (rd_L1 l0_0 (rd ((rd_T58 t271 a1).f1) x36_2)) ((rd_L1 l0_0 (rd ((rd_T58 t271 a1).f1) x36_2)).length : Int) (wrap64 (x46_3 + 1)) l0_0) = some (r1,r2):=by rw [if_pos rfl] at H;exact H
                     clear H
                     have H:=H1
                     clear H1
                     have H':=Aside0.mk H
                     clear H
                     have p278 : 0 ≤ (x46_3 : Int):=of_decide_eq_true (by first | (with_reducible assumption) | assumption)
                     have q278 : x46_3 < ((rd_L1 l0_0 (rd ((rd_T58 t271 a1).f1) x36_2)).length : Int):=of_decide_eq_true (by first | (with_reducible assumption) | assumption)
                     obtain ⟨ad278,e278,hx278_0⟩:=Kd.at_int HR277_0.out x46_3 p278 q278
                     cases e278
                     replace hx278_0:=(HB.out.cell (World.block_lt_of_cell? w _ hx278_0)).trans hx278_0
                     replace p278:=eq_true p278
                     replace q278:=eq_true q278
                     have p279 : 0 ≤ (a1 : Int):=of_decide_eq_true (by first | (with_reducible assumption) | assumption)
                     have q279 : a1 < (t271.length : Int):=of_decide_eq_true (by first | (with_reducible assumption) | assumption)
                     obtain ⟨ad279,A279_1,c279_1,e279,hx279_0,hx279_1,hx279_2,hl279_1,hi279_1⟩:=at_T58 (Kd.S_reads' HO_6.out).2.2 a1 p279 q279
                     obtain rfl : ad275 = ad279:=(by injection e279)
                     obtain ⟨ce279,hce279,hMe279,hcc279⟩:=Kd.S_get HO_6.out z58 a1 p279 (by first | exact q279 | exact of_decide_eq_true (by first | (with_reducible assumption) | assumption) | (have e_:=(Kd.S_reads' HO_6.out).1;omega))
                     obtain ⟨ve279_1,rfl,ge279_1⟩:=k58_openM hMe279
                     have hv279_1:=hcc279 1 _ rfl
                     rw [add_field _ _ 1 (by omega)] at hv279_1
                     replace hv279_1:=Option.some.inj (hv279_1.symm.trans hx279_1)
                     rw [hv279_1] at ge279_1
                     have HL279_1:=Aside0.mk (show Kd.R (Kd.int .i64) 3 _ _ _ _ ((rd_T58 t271 a1).f1) from ge279_1)
                     clear hv279_1 ge279_1
                     clear hcc279 hce279
                     have HR279_1:=Aside0.mk hi279_1
                     have HC279_1:=Aside0.mk hl279_1
                     clear hi279_1 hl279_1
                     replace p279:=eq_true p279
                     replace q279:=eq_true q279
                     go_wp2_with (first | ((with_reducible refine gate_callee (f:=45) rfl ?_);refine goesL_ (some 56) rfl rfl Try.func45 (by kernel_rfl) rfl #[.slice A279_1 ((rd_T58 t271 a1).f1).length c279_1,.int .i64 (rd (rd_L1 l0_0 (rd ((rd_T58 t271 a1).f1) x36_2)) x46_3)] rfl (by (try simp only [List.map_toArray,List.map_cons,List.map_nil]);first | done | rfl | (simp only [List.length_drop,List.length_take];rfl)) ?_;(with_reducible refine (spec_l1Has.calls k3 _ _ ((rd_T58 t271 a1).f1) (rd (rd_L1 l0_0 (rd ((rd_T58 t271 a1).f1) x36_2)) x46_3) true _ ?side1 ?side2 A26.out).mono ?_);(case side1 => repeat (first | exact (by repeat (first | (with_reducible exact HR279_1.out) | (with_reducible refine Kd.C_alloc ?_ _) | (with_reducible refine Kd.C_drewN ?_ _) | (with_reducible refine Kd.C_drew ?_) | exact HR279_1.out)) | (with_reducible refine Kd.C_alloc ?_ _) | (with_reducible refine Kd.C_drewN ?_ _) | (with_reducible refine Kd.C_drew ?_)));(case side2 => exact HC279_1.out);rintro e w' ⟨rfl,⟨nd,rfl⟩⟩;refine ⟨_,rfl,?_⟩))
                     go_roundg k3
                     case measure => have:=HJ3.out;have:=HK2.out;have:=HK3.out;omega
                     case rel => exact ⟨(x8_3),(wrap64 (x46_3 + 1)),(by first | rfl | (simp;done) | (simp [*];done)),H',⟨by have:=HJ3.out;have:=HK2.out;have:=HK3.out;omega⟩,⟨by (with_reducible repeat (first | apply Kd.S_alloc | apply Kd.S_drewN | apply Kd.S_drew));exact HO_6.out⟩,⟨by (with_reducible repeat (first | apply Kd.R_alloc | apply Kd.R_drewN | apply Kd.R_drew));exact Kd.R_mono HLR.out (fun _ _ => trivial)⟩,⟨by (with_reducible repeat (first | apply Kd.S_alloc | apply Kd.S_drewN | apply Kd.S_drew));exact HO_8.out⟩,⟨by (with_reducible repeat (first | refine blk_drewN ?_ _ | refine blk_drew ?_ | refine blk_alloc ?_ _));exact BK270.out⟩,⟨by repeat (first | (with_reducible first | exact HB.out | apply below_alloc | apply pw_below_drewN | apply below_drew1 | refine below_set ?_ GE270.out) | exact HB.out)⟩⟩
                    ·replace c27:=Bool.eq_false_iff.mpr c27
                     subst c27
                     have H1 : (if x8_3.length < 5864062014805 then (spec_ExitsOf.l1 k3 a1 t271 (x8_3 ++ [(([(rd ((rd_T58 t271 a1).f1) x36_2),rd (rd_L1 l0_0 (rd ((rd_T58 t271 a1).f1) x36_2)) x46_3] : List Int))]) (rd ((rd_T58 t271 a1).f1) x36_2) ((rd_T58 t271 a1).f1) (((rd_T58 t271 a1).f1).length : Int) x36_2 (rd_L1 l0_0 (rd ((rd_T58 t271 a1).f1) x36_2)) ((rd_L1 l0_0 (rd ((rd_T58 t271 a1).f1) x36_2)).length : Int) (wrap64 (x46_3 + 1)) l0_0) else (none)) = some (r1,r2):=by rw [if_neg (show ¬ (false = true) by decide)] at H;exact H
                     clear H
                     have H:=H1
                     clear H1
                     obtain ⟨y281,hy281⟩ : ∃ y_ : List Int,y_ = (([(rd ((rd_T58 t271 a1).f1) x36_2),rd (rd_L1 l0_0 (rd ((rd_T58 t271 a1).f1) x36_2)) x46_3] : List Int)):=⟨_,rfl⟩
                     replace H : (if x8_3.length < 5864062014805 then (spec_ExitsOf.l1 k3 a1 t271 (x8_3 ++ [y281]) (rd ((rd_T58 t271 a1).f1) x36_2) ((rd_T58 t271 a1).f1) (((rd_T58 t271 a1).f1).length : Int) x36_2 (rd_L1 l0_0 (rd ((rd_T58 t271 a1).f1) x36_2)) ((rd_L1 l0_0 (rd ((rd_T58 t271 a1).f1) x36_2)).length : Int) (wrap64 (x46_3 + 1)) l0_0) else (none)) = some (r1,r2):=by first | (rw [hy281];with_reducible exact H) | (have H2_:=(Option.bind_some _ _).symm.trans H;rw [hy281];with_reducible exact H2_) | (have H2_:=(Option.bind_some _ _).symm.trans H;with_reducible exact H2_) | with_reducible exact H | (rw [hy281];exact H) | exact H
                     have Ny281:=Aside0.mk hy281
                     clear hy281
                     by_cases c28 : x8_3.length < 5864062014805
                     ·rw [if_pos c28] at H
                      have LMc28:=Aside0.mk c28
                      clear c28
                      obtain ⟨y284,hy284⟩ : ∃ y_ : List (List Int),y_ = (x8_3 ++ [y281]):=⟨_,rfl⟩
                      replace H : (spec_ExitsOf.l1 k3 a1 t271 y284 (rd ((rd_T58 t271 a1).f1) x36_2) ((rd_T58 t271 a1).f1) (((rd_T58 t271 a1).f1).length : Int) x36_2 (rd_L1 l0_0 (rd ((rd_T58 t271 a1).f1) x36_2)) ((rd_L1 l0_0 (rd ((rd_T58 t271 a1).f1) x36_2)).length : Int) (wrap64 (x46_3 + 1)) l0_0) = some (r1,r2):=by first | (rw [hy284];with_reducible exact H) | (have H2_:=(Option.bind_some _ _).symm.trans H;rw [hy284];with_reducible exact H2_) | (have H2_:=(Option.bind_some _ _).symm.trans H;with_reducible exact H2_) | with_reducible exact H | (rw [hy284];exact H) | exact H
                      have Ny284:=Aside0.mk hy284
                      clear hy284
                      have H':=Aside0.mk H
                      clear H
                      have p278 : 0 ≤ (x46_3 : Int):=of_decide_eq_true (by first | (with_reducible assumption) | assumption)
                      have q278 : x46_3 < ((rd_L1 l0_0 (rd ((rd_T58 t271 a1).f1) x36_2)).length : Int):=of_decide_eq_true (by first | (with_reducible assumption) | assumption)
                      obtain ⟨ad278,e278,hx278_0⟩:=Kd.at_int HR277_0.out x46_3 p278 q278
                      cases e278
                      replace hx278_0:=(HB.out.cell (World.block_lt_of_cell? w _ hx278_0)).trans hx278_0
                      replace p278:=eq_true p278
                      replace q278:=eq_true q278
                      have p279 : 0 ≤ (a1 : Int):=of_decide_eq_true (by first | (with_reducible assumption) | assumption)
                      have q279 : a1 < (t271.length : Int):=of_decide_eq_true (by first | (with_reducible assumption) | assumption)
                      obtain ⟨ad279,A279_1,c279_1,e279,hx279_0,hx279_1,hx279_2,hl279_1,hi279_1⟩:=at_T58 (Kd.S_reads' HO_6.out).2.2 a1 p279 q279
                      obtain rfl : ad275 = ad279:=(by injection e279)
                      obtain ⟨ce279,hce279,hMe279,hcc279⟩:=Kd.S_get HO_6.out z58 a1 p279 (by first | exact q279 | exact of_decide_eq_true (by first | (with_reducible assumption) | assumption) | (have e_:=(Kd.S_reads' HO_6.out).1;omega))
                      obtain ⟨ve279_1,rfl,ge279_1⟩:=k58_openM hMe279
                      have hv279_1:=hcc279 1 _ rfl
                      rw [add_field _ _ 1 (by omega)] at hv279_1
                      replace hv279_1:=Option.some.inj (hv279_1.symm.trans hx279_1)
                      rw [hv279_1] at ge279_1
                      have HL279_1:=Aside0.mk (show Kd.R (Kd.int .i64) 3 _ _ _ _ ((rd_T58 t271 a1).f1) from ge279_1)
                      clear hv279_1 ge279_1
                      clear hcc279 hce279
                      have HR279_1:=Aside0.mk hi279_1
                      have HC279_1:=Aside0.mk hl279_1
                      clear hi279_1 hl279_1
                      replace p279:=eq_true p279
                      replace q279:=eq_true q279
                      go_wp2_with (first | ((with_reducible refine gate_callee (f:=45) rfl ?_);refine goesL_ (some 56) rfl rfl Try.func45 (by kernel_rfl) rfl #[.slice A279_1 ((rd_T58 t271 a1).f1).length c279_1,.int .i64 (rd (rd_L1 l0_0 (rd ((rd_T58 t271 a1).f1) x36_2)) x46_3)] rfl (by (try simp only [List.map_toArray,List.map_cons,List.map_nil]);first | done | rfl | (simp only [List.length_drop,List.length_take];rfl)) ?_;(with_reducible refine (spec_l1Has.calls k3 _ _ ((rd_T58 t271 a1).f1) (rd (rd_L1 l0_0 (rd ((rd_T58 t271 a1).f1) x36_2)) x46_3) false _ ?side1 ?side2 A26.out).mono ?_);(case side1 => repeat (first | exact (by repeat (first | (with_reducible exact HR279_1.out) | (with_reducible refine Kd.C_alloc ?_ _) | (with_reducible refine Kd.C_drewN ?_ _) | (with_reducible refine Kd.C_drew ?_) | exact HR279_1.out)) | (with_reducible refine Kd.C_alloc ?_ _) | (with_reducible refine Kd.C_drewN ?_ _) | (with_reducible refine Kd.C_drew ?_)));(case side2 => exact HC279_1.out);rintro e w' ⟨rfl,⟨nd,rfl⟩⟩;refine ⟨_,rfl,?_⟩) | ((with_reducible refine gate_dst (N:=61) rfl ?_);(try (refine gate_guard (by rfl) ?_;dsimp only));refine Kd.R_lit (Kd.int .i64) _ 3 ?hg (N:=61) ?hd (xs:=([(rd ((rd_T58 t271 a1).f1) x36_2),rd (rd_L1 l0_0 (rd ((rd_T58 t271 a1).f1) x36_2)) x46_3] : List Int)) (inner:=[.int .i64 (rd ((rd_T58 t271 a1).f1) x36_2),.int .i64 (rd (rd_L1 l0_0 (rd ((rd_T58 t271 a1).f1) x36_2)) x46_3)]) (ok:=fun _ => True) (okp:=fun _ => True) ?hr ?hp (fun _ hk => hk) trivial (Below.refl _ _) (Nat.le_refl _) (by simp) ?_;(case hd => rfl);(case hg => rfl);(case hr => first | (go_simp;done) | (go_simp;rfl));(case hp => exact (Reps.one (show Kd.M (Kd.int .i64) _ _ _ (rd ((rd_T58 t271 a1).f1) x36_2) [.int .i64 (rd ((rd_T58 t271 a1).f1) x36_2)] from rfl) (Reps.one (show Kd.M (Kd.int .i64) _ _ _ (rd (rd_L1 l0_0 (rd ((rd_T58 t271 a1).f1) x36_2)) x46_3) [.int .i64 (rd (rd_L1 l0_0 (rd ((rd_T58 t271 a1).f1) x36_2)) x46_3)] from rfl) (Reps.none _ _))));intro v282 w29 ho30 hb hg_ hnew_;clear hg_ hnew_;(first | rw [← Ny281.out] at ho30 | (simp only [Int.reduceToNat] at ho30;rw [← Ny281.out] at ho30));have n0_:=Aside0.mk (Kd.S_elder' (by (with_reducible repeat (first | apply Kd.S_alloc | apply Kd.S_drewN | apply Kd.S_drew));exact HO_6.out) (Kd.R_base ho30) hb);have nR_:=Aside0.mk (Kd.R_elder' (by (with_reducible repeat (first | apply Kd.R_alloc | apply Kd.R_drewN | apply Kd.R_drew));exact HLR.out) (Kd.R_base ho30) hb);have n1_:=Aside0.mk (Kd.S_elder' (by (with_reducible repeat (first | apply Kd.S_alloc | apply Kd.S_drewN | apply Kd.S_drew));exact HO_8.out) (Kd.R_base ho30) hb);have n2_:=Aside0.mk (Kd.R_elder' (by (with_reducible repeat (first | apply Kd.R_alloc | apply Kd.R_drewN | apply Kd.R_drew));exact HL279_1.out) (Kd.R_base ho30) hb);have n3_:=Aside0.mk (Kd.R_lower (Kd.R_new' ho30 (Kd.R_lt (by (with_reducible repeat (first | apply Kd.R_alloc | apply Kd.R_drewN | apply Kd.R_drew));exact HL279_1.out))) (below_size (by repeat (first | (with_reducible first | exact HB.out | apply below_alloc | apply pw_below_drewN | apply below_drew1 | refine below_set ?_ GE270.out) | exact HB.out))));have n4_:=Aside0.mk (blk_below (g:=gb270) (o:=.cells #[.slice (some ad277) l0_0.length c0_0] 28 (0,0)) (by (with_reducible repeat (first | refine blk_drewN ?_ _ | refine blk_drew ?_ | refine blk_alloc ?_ _));exact BK270.out) hb);have n5_:=Aside0.mk (Kd.C_below (by repeat (first | (with_reducible exact HR279_1.out) | (with_reducible refine Kd.C_alloc ?_ _) | (with_reducible refine Kd.C_drewN ?_ _) | (with_reducible refine Kd.C_drew ?_) | exact HR279_1.out)) hb);have n6_:=Aside0.mk (below_step (by repeat (first | (with_reducible first | exact HB.out | apply below_alloc | apply pw_below_drewN | apply below_drew1 | refine below_set ?_ GE270.out) | exact HB.out)) hb);clear HO_6;clear HLR;clear HO_8;clear HL279_1;clear BK270;clear HR279_1;clear HB;have HO_6:=n0_;have HLR:=nR_;clear nR_;have HO_8:=n1_;have HL279_1:=n2_;have HO283:=n3_;have BK270:=n4_;have HR279_1:=n5_;have HB:=n6_;clear n0_ n1_ n2_ n3_ n4_ n5_ n6_;clear hb ho30;obtain ⟨Ao32,co32,eo32⟩:=Kd.R_slice HO283.out;subst eo32) | ((with_reducible refine gate_builtin (b:=.append) (xs:=#[.tmp 58,.tmp 62]) rfl ?_);(try (refine gate_guard (by rfl) ?_;dsimp only));at_builtin;refine Kd.S_append (Kd.slice 3 (Kd.int .i64)) (w0:=w) w.heap.size rfl (.tmp 58) (.tmp 62) 22 43 (.slice none 0 0) 24 rfl Try.underlying22 info43 rfl (by decide) (by omega) u8 x8_3 y281 [.slice Ao32 y281.length co32] (fun _ => True) (fun k_ => some k_ = (.slice Ao32 y281.length co32 : Value).ownBlock) rfl rfl ?aP (fun k_ hk_ => ((Kd.R_mono (ok':=fun k_ => ((fun _ => True)) k_ ∧ some k_ ≠ (u8 : Value).ownBlock) (Kd.R_apart' (HO283.out) (Kd.S_typed HO_8.out) (by decide)) (fun k_ hk => ⟨trivial,hk.2⟩))).1 k_ hk_.symm) ?aF ?aO ?aB ?aS ?aL ?_;(case aP => exact Kd.M_row (Kd.R_mono (Kd.R_tight rfl (Kd.R_mono (ok':=fun k_ => ((fun _ => True)) k_ ∧ some k_ ≠ (u8 : Value).ownBlock) (Kd.R_apart' (HO283.out) (Kd.S_typed HO_8.out) (by decide)) (fun k_ hk => ⟨trivial,hk.2⟩))) (fun _ h_ => h_)));(case aB => exact (by repeat (first | (with_reducible first | exact HB.out | apply below_alloc | apply pw_below_drewN | apply below_drew1 | refine below_set ?_ GE270.out) | exact HB.out)));(case aF => exact (fun _ _ => trivial));(case aO => exact (by (with_reducible repeat (first | apply Kd.S_alloc | apply Kd.S_drewN | apply Kd.S_drew));exact Kd.S_mono HO_8.out (fun k_ hk => ⟨trivial,fun e_ => hk.2 e_⟩)));(case aS => exact (below_size (by repeat (first | (with_reducible first | exact HB.out | apply below_alloc | apply pw_below_drewN | apply below_drew1 | refine below_set ?_ GE270.out) | exact HB.out))));(case aL => have:=LMc28.out;omega);intro v285 w31 ho hb hg hat;rw [← Ny284.out] at ho;have n0_:=Aside0.mk (Kd.S_over' (by (with_reducible repeat (first | apply Kd.S_alloc | apply Kd.S_drewN | apply Kd.S_drew));exact HO_6.out) (Kd.S_typed (by (with_reducible repeat (first | apply Kd.S_alloc | apply Kd.S_drewN | apply Kd.S_drew));exact HO_8.out)) (by decide) hg);have nR_:=Aside0.mk (Kd.R_over' (by (with_reducible repeat (first | apply Kd.R_alloc | apply Kd.R_drewN | apply Kd.R_drew));exact HLR.out) (Kd.S_typed (by (with_reducible repeat (first | apply Kd.S_alloc | apply Kd.S_drewN | apply Kd.S_drew));exact HO_8.out)) (by decide) hg);have n1_:=Aside0.mk (blk_grown (g:=gb270) (o:=.cells #[.slice (some ad277) l0_0.length c0_0] 28 (0,0)) (by (with_reducible repeat (first | refine blk_drewN ?_ _ | refine blk_drew ?_ | refine blk_alloc ?_ _));exact BK270.out) hg (Kd.S_ne HO_8.out BK270.out (by decide)));have n2_:=Aside0.mk (Kd.R_over' (by (with_reducible repeat (first | apply Kd.R_alloc | apply Kd.R_drewN | apply Kd.R_drew));exact HL279_1.out) (Kd.S_typed (by (with_reducible repeat (first | apply Kd.S_alloc | apply Kd.S_drewN | apply Kd.S_drew));exact HO_8.out)) (by decide) hg);have n3_:=Aside0.mk (hb);have n4_:=Aside0.mk (ho);clear HO_6;clear HLR;clear BK270;clear HL279_1;clear HB;clear HO_8;clear HO283;have HO_6:=n0_;have HLR:=nR_;clear nR_;have BK270:=n1_;have HL279_1:=n2_;have HB:=n3_;have HO286:=n4_;clear n0_ n1_ n2_ n3_ n4_;clear ho hb hg hat))
                      go_roundg k3
                      case measure => have:=HJ3.out;have:=HK2.out;have:=HK3.out;omega
                      case rel => exact ⟨(y284),(wrap64 (x46_3 + 1)),(by first | rfl | (simp;done) | (simp [*];done)),H',⟨by have:=HJ3.out;have:=HK2.out;have:=HK3.out;omega⟩,⟨by (with_reducible repeat (first | apply Kd.S_alloc | apply Kd.S_drewN | apply Kd.S_drew));exact Kd.S_mono HO_6.out (fun _ hk => trivial)⟩,⟨by (with_reducible repeat (first | apply Kd.R_alloc | apply Kd.R_drewN | apply Kd.R_drew));exact Kd.R_mono HLR.out (fun _ _ => trivial)⟩,⟨by (with_reducible repeat (first | apply Kd.S_alloc | apply Kd.S_drewN | apply Kd.S_drew));exact HO286.out⟩,⟨by (with_reducible repeat (first | refine blk_drewN ?_ _ | refine blk_drew ?_ | refine blk_alloc ?_ _));exact BK270.out⟩,⟨by repeat (first | (with_reducible first | exact HB.out | apply below_alloc | apply pw_below_drewN | apply below_drew1 | refine below_set ?_ GE270.out) | exact HB.out)⟩⟩
                     ·rw [if_neg c28] at H
                      exact absurd H (by simp)
                   ·rw [if_neg c25] at H
                    exact absurd H (by simp)
                  ·rw [if_neg c24] at H
                   exact absurd H (by simp)
                 ·rw [if_neg c23] at H
                  exact absurd H (by simp)
                ·rw [if_neg c22] at H
                 exact absurd H (by simp)
               ·rw [if_neg c21] at H
                have c21b0 : decide (x46_3 < ((rd_L1 l0_0 (rd ((rd_T58 t271 a1).f1) x36_2)).length : Int)) = false:=decide_eq_false c21
                clear c21
                have H':=Aside0.mk H
                clear H
                go_wp2
                go_roundg k3
                case measure => have:=HJ3.out;have:=HK2.out;have:=HK3.out;omega
                case rel => exact ⟨(x8_3),(wrap64 (x36_2 + 1)),(by first | rfl | (simp;done) | (simp [*];done)),H',⟨by have:=HJ3.out;have:=HK2.out;have:=HK3.out;omega⟩,⟨by (with_reducible repeat (first | apply Kd.S_alloc | apply Kd.S_drewN | apply Kd.S_drew));exact HO_6.out⟩,⟨by (with_reducible repeat (first | apply Kd.R_alloc | apply Kd.R_drewN | apply Kd.R_drew));exact Kd.R_mono HLR.out (fun _ _ => trivial)⟩,⟨by (with_reducible repeat (first | apply Kd.S_alloc | apply Kd.S_drewN | apply Kd.S_drew));exact HO_8.out⟩,⟨by (with_reducible repeat (first | refine blk_drewN ?_ _ | refine blk_drew ?_ | refine blk_alloc ?_ _));exact BK270.out⟩,⟨by repeat (first | (with_reducible first | exact HB.out | apply below_alloc | apply pw_below_drewN | apply below_drew1 | refine below_set ?_ GE270.out) | exact HB.out)⟩⟩
            ·rw [if_neg c19] at H
             exact absurd H (by simp)
           ·rw [if_neg c18] at H
            exact absurd H (by simp)
          ·rw [if_neg c17] at H
           exact absurd H (by simp)
         ·rw [if_neg c16] at H
          exact absurd H (by simp)
        ·rw [if_neg c15] at H
         have c15b0 : decide (x36_2 < (((rd_T58 t271 a1).f1).length : Int)) = false:=decide_eq_false c15
         clear c15
         simp only [Option.some.injEq,Prod.mk.injEq] at H
         obtain ⟨rfl,rfl⟩:=H
         go_wp2
         go_ret2
         exact ⟨_,by first | rfl | (simp [errW_none,errW_some] <;> rfl) | (simp [*,errW_none,errW_some] <;> rfl),by (with_reducible repeat (first | apply Kd.S_alloc | apply Kd.S_drewN | apply Kd.S_drew));exact HO_8.out,by repeat (first | (with_reducible first | exact HB.out | apply below_alloc | apply pw_below_drewN | apply below_drew1 | refine below_set ?_ GE270.out) | exact HB.out)⟩
     ·rw [if_neg c13] at H
      exact absurd H (by simp)
    ·rw [if_neg c12] at H
     exact absurd H (by simp)

/-! ### impl_loopAt: function 52 (by hand: a variable whose row a pointer's method hands on) -/
def impl_loopAt.f (k : Nat) (g : List (List Int)) (a1 : Int) : Option (Int × List Int × Int × Bool):=(impl_reducibleGraph.f k g).bind fun b => (if b = true then ((impl_Graph_loops.f k g).bind fun x => ((impl_within.f a1 0 (wrap64 ((x.length : Int) - 1))).bind fun t => (if t = true then (if 0 ≤ a1 then (if a1 < (x.length : Int) then some ((rd_T58 x a1).f0,(rd_T58 x a1).f1,(rd_T58 x a1).f2,true) else none) else none) else (some (0,[],0,false))))) else (some (0,[],0,false)))
theorem impl_loopAt.mono : ∀ a0 a1 k,LeO (impl_loopAt.f k a0 a1) (impl_loopAt.f (k + 1) a0 a1):=by
 intro a0 a1 k
 unfold impl_loopAt.f
 repeat' first
   | (with_reducible exact impl_reducibleGraph.mono _ _)
   | (with_reducible exact impl_Graph_loops.mono _ _)
   | (with_reducible exact LeO.refl _)
   | (with_reducible exact LeO.none _)
   | (with_reducible refine LeO.ite ?_ ?_)
   | (with_reducible refine LeO.bind ?_ (fun _ => ?_))
theorem loopAt_ct {P : Program} {fn : Func} {p u : Tmp} {ty : TypeId} (h : fn.results = #[.cell p ty,.tmp u]) (tmps : Array Value) (w : World) (g : Nat) (t : TypeId) (cs : Array Value) (fr : Nat × Nat) (d : TypeDesc)
  (hp : tmps.getD p undef = .pointer (some ⟨g,0,none⟩)) (hg : w.heap[g]? = some (.cells cs t fr))
  (hu : P.underlying ty = some d) (hd : (match d with | .struct _ | .array _ _ => true | _ => false) = true) (hi : (P.info? ty).map (·.size) = some cs.size) :
  (results fn tmps).run P w = .ok (.tuple #[.agg cs,tmps.getD u undef]) w:=by
 have hp' : tmps[p]?.getD undef = .pointer (some ⟨g,0,none⟩):=by simpa using hp
 simp [results,h,hp',asAddr,run_loadVar_row w g t ty cs fr d hg hu hd hi]
theorem loopAt_box {W : World} {g t : Nat} {a b c : Value} (h : W.heap[g]? = some (.cells #[a,b,c] t (0,0))) (x y z : Value) : (((W.setCell ⟨g,0,none⟩ x).setCell ⟨g,1,none⟩ y).setCell ⟨g,2,none⟩ z).heap[g]? = some (.cells #[x,y,z] t (0,0)):=blk_put (blk_put (blk_put h 0 x rfl) 1 y rfl) 2 z rfl
theorem loopAt_new1 (w : World) (o1 o2 : Obj) : ((w.alloc o1).alloc o2).heap[w.heap.size + 1]? = some o2:=by
 have h:=heap_alloc_new (w.alloc o1) o2
 rwa [show (w.alloc o1).heap.size = w.heap.size + 1 by simp] at h
set_option maxHeartbeats 8000000 in
set_option maxRecDepth 100000 in
theorem impl_loopAt.calls (k : Nat) (A0_0 : Option Addr) (c0_0 : Nat) (l0_0 : List (List Int)) (a1 : Int) (r0 : Int) (r1 : List Int) (r2 : Int) (r3 : Bool) (w : World) (hr0_0 : Kd.C (Kd.slice 3 (Kd.int .i64)) w A0_0 l0_0.length l0_0) (hc0_0 : l0_0.length ≤ c0_0) (h : impl_loopAt.f k l0_0 a1 = some (r0,r1,r2,r3)) :
  Calls Try.prog 52 #[.agg #[.slice A0_0 l0_0.length c0_0],.int .i64 a1] w fun e w' => ∃ v0_ : Value,e = .returned (.tuple #[.agg #[.int .i64 r0,v0_,.int .i64 r2],.bool r3]) ∧ Kd.R (Kd.int .i64) 3 w' w.heap.size (fun _ => True) v0_ r1 ∧ Below w.heap.size w w':=by
 have hu27:=Try.underlying28
 have hu58:=Try.underlying58
 have HR0:=Aside0.mk hr0_0
 have HC0:=Aside0.mk hc0_0
 clear hr0_0 hc0_0
 unfold impl_loopAt.f at h
 obtain ⟨b,A1,H⟩:=Option.bind_eq_some_iff.mp h
 have A:=Aside0.mk A1
 have HBX:=Aside0.mk (blk_alloc (heap_alloc_new w (.cells #[.slice A0_0 l0_0.length c0_0] 28)) (.cells #[.int .i64 0,.slice none 0 0,.int .i64 0] 58))
 have HBZ:=Aside0.mk (loopAt_new1 w (.cells #[.slice A0_0 l0_0.length c0_0] 28) (.cells #[.int .i64 0,.slice none 0 0,.int .i64 0] 58))
 have HB:=Aside0.mk (below_alloc (below_alloc (Below.refl w.heap.size w) (.cells #[.slice A0_0 l0_0.length c0_0] 28)) (.cells #[.int .i64 0,.slice none 0 0,.int .i64 0] 58))
 clear h A1
 cases b with
 | false =>
  rw [if_neg (by decide)] at H
  simp only [Option.some.injEq,Prod.mk.injEq] at H
  obtain ⟨rfl,rfl,rfl,rfl⟩:=H
  go_enter Try.func52,Try.ntmps52
  go_wp2_with (first | (go_at_call 47;(refine (impl_reducibleGraph.calls k _ _ l0_0 false _ (Kd.C_below HR0.out HB.out) HC0.out A.out).mono ?_);rintro e w2 ⟨rfl,hb⟩;have HB2:=Aside0.mk (below_step HB.out hb);have HBX2:=Aside0.mk (blk_below HBX.out hb);have HBZ2:=Aside0.mk (blk_below HBZ.out hb);have hb0:=(blk_cell HBZ2.out 0).trans rfl;have hb1:=(blk_cell HBZ2.out 1).trans rfl;have hb2:=(blk_cell HBZ2.out 2).trans rfl;have hz0:=blk_frozen HBZ2.out 0;have hz1:=blk_frozen HBZ2.out 1;have hz2:=blk_frozen HBZ2.out 2;clear hb))
  refine bodyPost_ret (loopAt_ct rfl _ _ (w.heap.size + 1) 58 #[.int .i64 0,.slice none 0 0,.int .i64 0] (0,0) _ rfl (loopAt_box HBZ2.out _ _ _) Try.underlying58 rfl (by kernel_rfl)) rfl ?_
  exact ⟨_,rfl,Kd.R_nil _ _ _ _ _,(((HB2.out.setCell (show w.heap.size ≤ (⟨w.heap.size + 1,0,none⟩ : Addr).block from Nat.le_succ _) _).setCell (show w.heap.size ≤ (⟨w.heap.size + 1,1,none⟩ : Addr).block from Nat.le_succ _) _).setCell (show w.heap.size ≤ (⟨w.heap.size + 1,2,none⟩ : Addr).block from Nat.le_succ _) _)⟩
 | true =>
  rw [if_pos rfl] at H
  obtain ⟨x,B1,H⟩:=Option.bind_eq_some_iff.mp H
  have B:=Aside0.mk B1
  obtain ⟨t,C1,H⟩:=Option.bind_eq_some_iff.mp H
  have C:=Aside0.mk C1
  clear B1 C1
  cases t with
  | false =>
   rw [if_neg (by decide)] at H
   simp only [Option.some.injEq,Prod.mk.injEq] at H
   obtain ⟨rfl,rfl,rfl,rfl⟩:=H
   go_enter Try.func52,Try.ntmps52
   go_wp2_with (first | (go_at_call 47;(refine (impl_reducibleGraph.calls k _ _ l0_0 true _ (Kd.C_below HR0.out HB.out) HC0.out A.out).mono ?_);rintro e w2 ⟨rfl,hb⟩;have HB2:=Aside0.mk (below_step HB.out hb);have HBX2:=Aside0.mk (blk_below HBX.out hb);have HBZ2:=Aside0.mk (blk_below HBZ.out hb);clear hb) | (go_at_call 49;(refine (impl_Graph_loops.calls k _ _ _ l0_0 x _ HBX2.out (Kd.C_below HR0.out HB2.out) HC0.out B.out).mono ?_);rintro e w3 ⟨v0,rfl,ho,hb⟩;have HO:=Aside0.mk (Kd.S_lower (Kd.S_bound ho) HB2.out.size);have HB3:=Aside0.mk (below_step HB2.out hb);have HBZ3:=Aside0.mk (blk_below HBZ2.out hb);have HZL:=Aside0.mk (blk_lt HBZ2.out);clear ho hb;obtain ⟨Av,cv,ev⟩:=Kd.S_slice HO.out;subst ev) | (go_at_call 48;(refine (impl_within.calls a1 0 (wrap64 ((x.length : Int) - 1)) false _ C.out).mono ?_);rintro e w4 ⟨rfl,⟨nd,hw4⟩⟩;have HB4:=Aside0.mk (show Below w.heap.size w w4 by rw [hw4];exact pw_below_drewN HB3.out nd);have HBZ4:=Aside0.mk (show w4.heap[w.heap.size + 1]? = some (.cells #[.int .i64 0,.slice none 0 0,.int .i64 0] 58 (0,0)) by rw [hw4];exact blk_drewN HBZ3.out nd);have HO4:=Aside0.mk (Kd.S_below HO.out (show Below w3.heap.size w3 w4 by rw [hw4];exact pw_below_drewN (Below.refl _ _) nd));clear hw4;have hb0:=(blk_cell HBZ4.out 0).trans rfl;have hb1:=(blk_cell HBZ4.out 1).trans rfl;have hb2:=(blk_cell HBZ4.out 2).trans rfl;have hz0:=blk_frozen HBZ4.out 0;have hz1:=blk_frozen HBZ4.out 1;have hz2:=blk_frozen HBZ4.out 2))
   refine bodyPost_ret (loopAt_ct rfl _ _ (w.heap.size + 1) 58 #[.int .i64 0,.slice none 0 0,.int .i64 0] (0,0) _ rfl (loopAt_box HBZ4.out _ _ _) Try.underlying58 rfl (by kernel_rfl)) rfl ?_
   exact ⟨_,rfl,Kd.R_nil _ _ _ _ _,(((HB4.out.setCell (show w.heap.size ≤ (⟨w.heap.size + 1,0,none⟩ : Addr).block from Nat.le_succ _) _).setCell (show w.heap.size ≤ (⟨w.heap.size + 1,1,none⟩ : Addr).block from Nat.le_succ _) _).setCell (show w.heap.size ≤ (⟨w.heap.size + 1,2,none⟩ : Addr).block from Nat.le_succ _) _)⟩
  | true =>
   rw [if_pos rfl] at H
   by_cases c1 : 0 ≤ a1
   rotate_left
   ·rw [if_neg c1] at H;exact absurd H (by simp)
   rw [if_pos c1] at H
   by_cases c2 : a1 < (x.length : Int)
   rotate_left
   ·rw [if_neg c2] at H;exact absurd H (by simp)
   rw [if_pos c2] at H
   simp only [Option.some.injEq,Prod.mk.injEq] at H
   obtain ⟨rfl,rfl,rfl,rfl⟩:=H
   obtain ⟨xi,hxi⟩ : ∃ xi,xi = rd_T58 x a1:=⟨_,rfl⟩
   rw [← hxi]
   have HXI:=Aside0.mk hxi
   have q1 : decide (0 ≤ a1) = true:=decide_eq_true c1
   have q2 : decide (a1 < (x.length : Int)) = true:=decide_eq_true c2
   have p1:=eq_true c1
   have p2:=eq_true c2
   clear hxi c1 c2
   go_enter Try.func52,Try.ntmps52
   go_wp2_with (first | (go_at_call 47;(refine (impl_reducibleGraph.calls k _ _ l0_0 true _ (Kd.C_below HR0.out HB.out) HC0.out A.out).mono ?_);rintro e w2 ⟨rfl,hb⟩;have HB2:=Aside0.mk (below_step HB.out hb);have HBX2:=Aside0.mk (blk_below HBX.out hb);have HBZ2:=Aside0.mk (blk_below HBZ.out hb);clear hb) | (go_at_call 49;(refine (impl_Graph_loops.calls k _ _ _ l0_0 x _ HBX2.out (Kd.C_below HR0.out HB2.out) HC0.out B.out).mono ?_);rintro e w3 ⟨v0,rfl,ho,hb⟩;have HO:=Aside0.mk (Kd.S_lower (Kd.S_bound ho) HB2.out.size);have HB3:=Aside0.mk (below_step HB2.out hb);have HBZ3:=Aside0.mk (blk_below HBZ2.out hb);have HZL:=Aside0.mk (blk_lt HBZ2.out);clear ho hb;obtain ⟨Av,cv,ev⟩:=Kd.S_slice HO.out;subst ev) | (go_at_call 48;(refine (impl_within.calls a1 0 (wrap64 ((x.length : Int) - 1)) true _ C.out).mono ?_);rintro e w4 ⟨rfl,⟨nd,hw4⟩⟩;have HB4:=Aside0.mk (show Below w.heap.size w w4 by rw [hw4];exact pw_below_drewN HB3.out nd);have HBZ4:=Aside0.mk (show w4.heap[w.heap.size + 1]? = some (.cells #[.int .i64 0,.slice none 0 0,.int .i64 0] 58 (0,0)) by rw [hw4];exact blk_drewN HBZ3.out nd);have HO4:=Aside0.mk (Kd.S_below HO.out (show Below w3.heap.size w3 w4 by rw [hw4];exact pw_below_drewN (Below.refl _ _) nd));clear hw4;obtain ⟨ad,A5,c5,e5,hx0,hx1,hx2,hl5,hi5⟩:=at_T58 (Kd.S_reads' HO4.out).2.2 a1 (of_eq_true p1) (of_eq_true p2);cases e5;obtain ⟨ce,hce,hMe,hcc⟩:=Kd.S_get HO4.out z58 a1 (of_eq_true p1) (of_eq_true p2);obtain ⟨ve,rfl,ge⟩:=k58_openM hMe;have hv:=hcc 1 _ rfl;rw [add_field _ _ 1 (by omega)] at hv;replace hv:=Option.some.inj (hv.symm.trans hx1);rw [hv] at ge;have HG:=Aside0.mk (show Kd.R (Kd.int .i64) 3 w4 w.heap.size _ _ (rd_T58 x a1).f1 from ge);rw [← HXI.out] at HG hx0 hx1 hx2;clear hv ge hcc hce hl5 hi5;have hb0:=(blk_cell HBZ4.out 0).trans rfl;have hb1:=(blk_cell HBZ4.out 1).trans rfl;have hb2:=(blk_cell HBZ4.out 2).trans rfl;have hz0:=blk_frozen HBZ4.out 0;have hz1:=blk_frozen HBZ4.out 1;have hz2:=blk_frozen HBZ4.out 2))
   refine bodyPost_ret (loopAt_ct rfl _ _ (w.heap.size + 1) 58 #[.int .i64 xi.f0,.slice A5 xi.f1.length c5,.int .i64 xi.f2] (0,0) _ rfl (loopAt_box HBZ4.out _ _ _) Try.underlying58 rfl (by kernel_rfl)) rfl ?_
   have HG2:=Kd.R_mono (ok':=fun k => k ≠ w.heap.size + 1) HG.out (fun k hk => by have h1:=hk.1.2.1;have h2:=HZL.out;omega)
   exact ⟨_,rfl,Kd.R_mono (Kd.R_far (p:=⟨w.heap.size + 1,2,none⟩) (Kd.R_far (p:=⟨w.heap.size + 1,1,none⟩) (Kd.R_far (p:=⟨w.heap.size + 1,0,none⟩) HG2 (fun k hk => hk) _) (fun k hk => hk) _) (fun k hk => hk) _) (fun _ _ => trivial),(((HB4.out.setCell (show w.heap.size ≤ (⟨w.heap.size + 1,0,none⟩ : Addr).block from Nat.le_succ _) _).setCell (show w.heap.size ≤ (⟨w.heap.size + 1,1,none⟩ : Addr).block from Nat.le_succ _) _).setCell (show w.heap.size ≤ (⟨w.heap.size + 1,2,none⟩ : Addr).block from Nat.le_succ _) _)⟩

end Go.Proofs.Ytbmnoenbhlfjaaa.Q
