-- WRITTEN BY A PROGRAM OF THIS SESSION
import Derived.Test.YtbmnoenbhlfjaaaQ0
import Derived.Test.YtbmnoenbhlfjaaaQ1
import Derived.Test.YtbmnoenbhlfjaaaQ2
import Derived.Test.YtbmnoenbhlfjaaaQ3
import Derived.Test.YtbmnoenbhlfjaaaQ4
namespace Go.Proofs.Ytbmnoenbhlfjaaa.Q
open Go.RowKit Go.Proofs.YtbmnoenbhlfjaaaW.PrintWords Go.Proofs.YtbmnoenbhlfjaaaW.PrintLast Go.Proofs.YtbmnoenbhlfjaaaW.PrintMore
attribute [local go_sem] max2_int min2_int max_two min_two max_three min_three max_four min_four   -- for this text's walks alone
set_option linter.unusedVariables false
set_option linter.unusedSimpArgs false

/-! ### spec_l8Loops: function 43 (by hand: the printed walk has 300 kB) -/
mutual
def spec_l8Loops.l0 : Nat → List Int → List (List Int) → List (S58) → Int → Int → List (List Int) → Option ((List (S58)) × Bool)
 | 0,_,_,_,_,_,_ => none
 | k + 1,x5,x6,x7,x38,x39,x185000 => if x39 < x38 then (spec_l8Loops.l1 k x5 x6 x7 x39 (([x39] : List Int)) x38 x39 x6 (x6.length : Int) 0 x185000) else (spec_l8Loops.l6 k x7 (x7.length : Int) 0)
def spec_l8Loops.l1 : Nat → List Int → List (List Int) → List (S58) → Int → List Int → Int → Int → List (List Int) → Int → Int → List (List Int) → Option ((List (S58)) × Bool)
 | 0,_,_,_,_,_,_,_,_,_,_,_ => none
 | k + 1,x5,x6,x7,x8,x9,x38,x39,x44,x45,x46,x185000 => if x46 < x45 then (if 0 ≤ x46 then (if x46 < (x44.length : Int) then (if 1 < ((rd_L1 x44 x46).length : Int) then (if (rd (rd_L1 x44 x46) 1) = x8 then (if 0 < ((rd_L1 x44 x46).length : Int) then ((spec_l1Put.f k x9 (rd (rd_L1 x44 x46) 0)).bind fun t202 => (spec_l8Loops.l1 k x5 x6 x7 x8 t202 x38 x39 x44 x45 (wrap64 (x46 + 1)) x185000)) else (none)) else (spec_l8Loops.l1 k x5 x6 x7 x8 x9 x38 x39 x44 x45 (wrap64 (x46 + 1)) x185000)) else (none)) else (none)) else (none)) else (spec_l8Loops.l2 k x5 x6 x7 x8 x9 false x38 x39 x6 (x6.length : Int) 0 x185000)
def spec_l8Loops.l2 : Nat → List Int → List (List Int) → List (S58) → Int → List Int → Bool → Int → Int → List (List Int) → Int → Int → List (List Int) → Option ((List (S58)) × Bool)
 | 0,_,_,_,_,_,_,_,_,_,_,_,_ => none
 | k + 1,x5,x6,x7,x8,x9,x12,x38,x39,x61,x62,x63,x185000 => if x63 < x62 then (if 0 ≤ x63 then (if x63 < (x61.length : Int) then (if x12 = true then (spec_l8Loops.l2 k x5 x6 x7 x8 x9 true x38 x39 x61 x62 (wrap64 (x63 + 1)) x185000) else (if 1 < ((rd_L1 x61 x63).length : Int) then (spec_l8Loops.l2 k x5 x6 x7 x8 x9 ((rd (rd_L1 x61 x63) 1) == x8) x38 x39 x61 x62 (wrap64 (x63 + 1)) x185000) else (none))) else (none)) else (none)) else (if x12 = true then (spec_l8Loops.l3 k x5 x6 x7 x8 x9 true x38 x39 x185000) else (spec_l8Loops.l0 k x5 x6 x7 x38 (wrap64 (x39 + 1)) x185000))
def spec_l8Loops.l3 : Nat → List Int → List (List Int) → List (S58) → Int → List Int → Bool → Int → Int → List (List Int) → Option ((List (S58)) × Bool)
 | 0,_,_,_,_,_,_,_,_,_ => none
 | k + 1,x5,x6,x7,x8,x9,x15,x38,x39,x185000 => if x15 = true then (spec_l8Loops.l4 k x5 x6 x7 x8 x9 false x38 x39 x5 (x5.length : Int) 0 x185000) else (if x7.length < 3518437208883 then (spec_l8Loops.l0 k x5 x6 (x7 ++ [(⟨x8,x9,(-1)⟩ : S58)]) x38 (wrap64 (x39 + 1)) x185000) else (none))
def spec_l8Loops.l4 : Nat → List Int → List (List Int) → List (S58) → Int → List Int → Bool → Int → Int → List Int → Int → Int → List (List Int) → Option ((List (S58)) × Bool)
 | 0,_,_,_,_,_,_,_,_,_,_,_,_ => none
 | k + 1,x5,x6,x7,x8,x9,x15,x38,x39,x79,x80,x81,x185000 => if x81 < x80 then (if 0 ≤ x81 then (if x81 < (x79.length : Int) then ((spec_l1Has.f k x9 (rd x79 x81)).bind fun t211 => (if t211 = true then (spec_l8Loops.l4 k x5 x6 x7 x8 x9 x15 x38 x39 x79 x80 (wrap64 (x81 + 1)) x185000) else (if 0 ≤ (rd x79 x81) then (if (rd x79 x81) < (x185000.length : Int) then (spec_l8Loops.l5 k x5 x6 x7 x8 x9 x15 (rd x79 x81) x38 x39 x79 x80 x81 (rd_L1 x185000 (rd x79 x81)) ((rd_L1 x185000 (rd x79 x81)).length : Int) 0 x185000) else (none)) else (none)))) else (none)) else (none)) else (spec_l8Loops.l3 k x5 x6 x7 x8 x9 x15 x38 x39 x185000)
def spec_l8Loops.l5 : Nat → List Int → List (List Int) → List (S58) → Int → List Int → Bool → Int → Int → Int → List Int → Int → Int → List Int → Int → Int → List (List Int) → Option ((List (S58)) × Bool)
 | 0,_,_,_,_,_,_,_,_,_,_,_,_,_,_,_,_ => none
 | k + 1,x5,x6,x7,x8,x9,x15,x17,x38,x39,x79,x80,x81,x92,x93,x94,x185000 => if x94 < x93 then (if 0 ≤ x94 then (if x94 < (x92.length : Int) then (if (rd x92 x94) = x8 then (spec_l8Loops.l5 k x5 x6 x7 x8 x9 x15 x17 x38 x39 x79 x80 x81 x92 x93 (wrap64 (x94 + 1)) x185000) else ((spec_l1Has.f k x9 (rd x92 x94)).bind fun t214 => (if t214 = true then ((spec_l1Put.f k x9 x17).bind fun t215 => (spec_l8Loops.l5 k x5 x6 x7 x8 t215 true x17 x38 x39 x79 x80 x81 x92 x93 (wrap64 (x94 + 1)) x185000)) else (spec_l8Loops.l5 k x5 x6 x7 x8 x9 x15 x17 x38 x39 x79 x80 x81 x92 x93 (wrap64 (x94 + 1)) x185000)))) else (none)) else (none)) else (spec_l8Loops.l4 k x5 x6 x7 x8 x9 x15 x38 x39 x79 x80 (wrap64 (x81 + 1)) x185000)
def spec_l8Loops.l6 : Nat → List (S58) → Int → Int → Option ((List (S58)) × Bool)
 | 0,_,_,_ => none
 | k + 1,x7,x119,x120 => if x120 < x119 then (spec_l8Loops.l7 k x7 x120 x119 x120 (x7.length : Int) 0) else (some (x7,true))
def spec_l8Loops.l7 : Nat → List (S58) → Int → Int → Int → Int → Int → Option ((List (S58)) × Bool)
 | 0,_,_,_,_,_,_ => none
 | k + 1,x7,x20,x119,x120,x124,x125 => if x125 < x124 then (if x20 = x125 then (spec_l8Loops.j8 k x7 x20 x125 x119 x120 x124 x125 true) else (if 0 ≤ x125 then (if x125 < (x7.length : Int) then (if 0 ≤ x20 then (if x20 < (x7.length : Int) then ((spec_l8Has.f k ((rd_T58 x7 x125).f1) ((rd_T58 x7 x20).f1)).bind fun t220 => (spec_l8Loops.j8 k x7 x20 x125 x119 x120 x124 x125 (!t220))) else (none)) else (none)) else (none)) else (none))) else (spec_l8Loops.l6 k x7 x119 (wrap64 (x120 + 1)))
def spec_l8Loops.j8 : Nat → List (S58) → Int → Int → Int → Int → Int → Int → Bool → Option ((List (S58)) × Bool)
 | 0,_,_,_,_,_,_,_,_ => none
 | k + 1,x7,x20,x21,x119,x120,x124,x125,x144 => if x144 = true then (spec_l8Loops.l7 k x7 x20 x119 x120 x124 (wrap64 (x125 + 1))) else (if 0 ≤ x20 then (if x20 < (x7.length : Int) then (if ((rd_T58 x7 x20).f2) < 0 then (spec_l8Loops.l7 k (x7.set (x20 : Int).toNat (⟨(rd_T58 x7 x20).f0,(rd_T58 x7 x20).f1,x21⟩ : S58)) x20 x119 x120 x124 (wrap64 (x125 + 1))) else (if 0 ≤ x21 then (if x21 < (x7.length : Int) then (if 0 ≤ ((rd_T58 x7 x20).f2) then (if ((rd_T58 x7 x20).f2) < (x7.length : Int) then (if (((rd_T58 x7 x21).f1).length : Int) < (((rd_T58 x7 ((rd_T58 x7 x20).f2)).f1).length : Int) then (spec_l8Loops.l7 k (x7.set (x20 : Int).toNat (⟨(rd_T58 x7 x20).f0,(rd_T58 x7 x20).f1,x21⟩ : S58)) x20 x119 x120 x124 (wrap64 (x125 + 1))) else (spec_l8Loops.l7 k x7 x20 x119 x120 x124 (wrap64 (x125 + 1)))) else (none)) else (none)) else (none)) else (none))) else (none)) else (none))
end
def spec_l8Loops.f (k : Nat) (l0_0 : List (List Int)) : Option ((List (S58)) × Bool):=(spec_GoodGraph.f k l0_0).bind fun t185 => (if t185 = true then ((spec_l7Dominators.f k l0_0).bind fun t186 => ((spec_l7Cyclic.f k l0_0 t186).bind fun t189 => (if t189 = true then (some (([] : List (S58)),false)) else ((spec_l7Without.f k l0_0 (-1)).bind fun t190 => ((spec_l7Back.f k l0_0 t186).bind fun t193 => (spec_l8Loops.l0 k t190 t193 ([] : List (S58)) (l0_0.length : Int) 0 l0_0)))))) else (some (([] : List (S58)),false)))
theorem spec_l8Loops.mono_l : ∀ k,(∀ y0 y1 y2 y3 y4 y5,LeO (spec_l8Loops.l0 k y0 y1 y2 y3 y4 y5) (spec_l8Loops.l0 (k + 1) y0 y1 y2 y3 y4 y5)) ∧ (∀ y0 y1 y2 y3 y4 y5 y6 y7 y8 y9 y10,LeO (spec_l8Loops.l1 k y0 y1 y2 y3 y4 y5 y6 y7 y8 y9 y10) (spec_l8Loops.l1 (k + 1) y0 y1 y2 y3 y4 y5 y6 y7 y8 y9 y10)) ∧ (∀ y0 y1 y2 y3 y4 y5 y6 y7 y8 y9 y10 y11,LeO (spec_l8Loops.l2 k y0 y1 y2 y3 y4 y5 y6 y7 y8 y9 y10 y11) (spec_l8Loops.l2 (k + 1) y0 y1 y2 y3 y4 y5 y6 y7 y8 y9 y10 y11)) ∧ (∀ y0 y1 y2 y3 y4 y5 y6 y7 y8,LeO (spec_l8Loops.l3 k y0 y1 y2 y3 y4 y5 y6 y7 y8) (spec_l8Loops.l3 (k + 1) y0 y1 y2 y3 y4 y5 y6 y7 y8)) ∧ (∀ y0 y1 y2 y3 y4 y5 y6 y7 y8 y9 y10 y11,LeO (spec_l8Loops.l4 k y0 y1 y2 y3 y4 y5 y6 y7 y8 y9 y10 y11) (spec_l8Loops.l4 (k + 1) y0 y1 y2 y3 y4 y5 y6 y7 y8 y9 y10 y11)) ∧ (∀ y0 y1 y2 y3 y4 y5 y6 y7 y8 y9 y10 y11 y12 y13 y14 y15,LeO (spec_l8Loops.l5 k y0 y1 y2 y3 y4 y5 y6 y7 y8 y9 y10 y11 y12 y13 y14 y15) (spec_l8Loops.l5 (k + 1) y0 y1 y2 y3 y4 y5 y6 y7 y8 y9 y10 y11 y12 y13 y14 y15)) ∧ (∀ y0 y1 y2,LeO (spec_l8Loops.l6 k y0 y1 y2) (spec_l8Loops.l6 (k + 1) y0 y1 y2)) ∧ (∀ y0 y1 y2 y3 y4 y5,LeO (spec_l8Loops.l7 k y0 y1 y2 y3 y4 y5) (spec_l8Loops.l7 (k + 1) y0 y1 y2 y3 y4 y5)) ∧ (∀ y0 y1 y2 y3 y4 y5 y6 y7,LeO (spec_l8Loops.j8 k y0 y1 y2 y3 y4 y5 y6 y7) (spec_l8Loops.j8 (k + 1) y0 y1 y2 y3 y4 y5 y6 y7))
 | 0 => ⟨fun _ _ _ _ _ _ r h => by simp [spec_l8Loops.l0] at h,fun _ _ _ _ _ _ _ _ _ _ _ r h => by simp [spec_l8Loops.l1] at h,fun _ _ _ _ _ _ _ _ _ _ _ _ r h => by simp [spec_l8Loops.l2] at h,fun _ _ _ _ _ _ _ _ _ r h => by simp [spec_l8Loops.l3] at h,fun _ _ _ _ _ _ _ _ _ _ _ _ r h => by simp [spec_l8Loops.l4] at h,fun _ _ _ _ _ _ _ _ _ _ _ _ _ _ _ _ r h => by simp [spec_l8Loops.l5] at h,fun _ _ _ r h => by simp [spec_l8Loops.l6] at h,fun _ _ _ _ _ _ r h => by simp [spec_l8Loops.l7] at h,fun _ _ _ _ _ _ _ _ r h => by simp [spec_l8Loops.j8] at h⟩
 | k + 1 => by
  obtain ⟨ih0,ih1,ih2,ih3,ih4,ih5,ih6,ih7,ih8⟩:=spec_l8Loops.mono_l k
  refine ⟨?_,?_,?_,?_,?_,?_,?_,?_,?_⟩
  ·intro y0 y1 y2 y3 y4 y5
   unfold spec_l8Loops.l0
   repeat' first
   | (with_reducible exact ih0 _ _ _ _ _ _)
   | (with_reducible exact ih1 _ _ _ _ _ _ _ _ _ _ _)
   | (with_reducible exact ih2 _ _ _ _ _ _ _ _ _ _ _ _)
   | (with_reducible exact ih3 _ _ _ _ _ _ _ _ _)
   | (with_reducible exact ih4 _ _ _ _ _ _ _ _ _ _ _ _)
   | (with_reducible exact ih5 _ _ _ _ _ _ _ _ _ _ _ _ _ _ _ _)
   | (with_reducible exact ih6 _ _ _)
   | (with_reducible exact ih7 _ _ _ _ _ _)
   | (with_reducible exact ih8 _ _ _ _ _ _ _ _)
   | (with_reducible exact spec_GoodGraph.mono _ _)
   | (with_reducible exact spec_l7Dominators.mono _ _)
   | (with_reducible exact spec_l7Cyclic.mono _ _ _)
   | (with_reducible exact spec_l7Without.mono _ _ _)
   | (with_reducible exact spec_l7Back.mono _ _ _)
   | (with_reducible exact spec_l1Put.mono _ _ _)
   | (with_reducible exact spec_l1Has.mono _ _ _)
   | (with_reducible exact spec_l8Has.mono _ _ _)
   | (with_reducible exact LeO.refl _)
   | (with_reducible exact LeO.none _)
   | (with_reducible refine LeO.ite ?_ ?_)
   | (with_reducible refine LeO.bind ?_ (fun _ => ?_))
  ·intro y0 y1 y2 y3 y4 y5 y6 y7 y8 y9 y10
   unfold spec_l8Loops.l1
   repeat' first
   | (with_reducible exact ih0 _ _ _ _ _ _)
   | (with_reducible exact ih1 _ _ _ _ _ _ _ _ _ _ _)
   | (with_reducible exact ih2 _ _ _ _ _ _ _ _ _ _ _ _)
   | (with_reducible exact ih3 _ _ _ _ _ _ _ _ _)
   | (with_reducible exact ih4 _ _ _ _ _ _ _ _ _ _ _ _)
   | (with_reducible exact ih5 _ _ _ _ _ _ _ _ _ _ _ _ _ _ _ _)
   | (with_reducible exact ih6 _ _ _)
   | (with_reducible exact ih7 _ _ _ _ _ _)
   | (with_reducible exact ih8 _ _ _ _ _ _ _ _)
   | (with_reducible exact spec_GoodGraph.mono _ _)
   | (with_reducible exact spec_l7Dominators.mono _ _)
   | (with_reducible exact spec_l7Cyclic.mono _ _ _)
   | (with_reducible exact spec_l7Without.mono _ _ _)
   | (with_reducible exact spec_l7Back.mono _ _ _)
   | (with_reducible exact spec_l1Put.mono _ _ _)
   | (with_reducible exact spec_l1Has.mono _ _ _)
   | (with_reducible exact spec_l8Has.mono _ _ _)
   | (with_reducible exact LeO.refl _)
   | (with_reducible exact LeO.none _)
   | (with_reducible refine LeO.ite ?_ ?_)
   | (with_reducible refine LeO.bind ?_ (fun _ => ?_))
  ·intro y0 y1 y2 y3 y4 y5 y6 y7 y8 y9 y10 y11
   unfold spec_l8Loops.l2
   repeat' first
   | (with_reducible exact ih0 _ _ _ _ _ _)
   | (with_reducible exact ih1 _ _ _ _ _ _ _ _ _ _ _)
   | (with_reducible exact ih2 _ _ _ _ _ _ _ _ _ _ _ _)
   | (with_reducible exact ih3 _ _ _ _ _ _ _ _ _)
   | (with_reducible exact ih4 _ _ _ _ _ _ _ _ _ _ _ _)
   | (with_reducible exact ih5 _ _ _ _ _ _ _ _ _ _ _ _ _ _ _ _)
   | (with_reducible exact ih6 _ _ _)
   | (with_reducible exact ih7 _ _ _ _ _ _)
   | (with_reducible exact ih8 _ _ _ _ _ _ _ _)
   | (with_reducible exact spec_GoodGraph.mono _ _)
   | (with_reducible exact spec_l7Dominators.mono _ _)
   | (with_reducible exact spec_l7Cyclic.mono _ _ _)
   | (with_reducible exact spec_l7Without.mono _ _ _)
   | (with_reducible exact spec_l7Back.mono _ _ _)
   | (with_reducible exact spec_l1Put.mono _ _ _)
   | (with_reducible exact spec_l1Has.mono _ _ _)
   | (with_reducible exact spec_l8Has.mono _ _ _)
   | (with_reducible exact LeO.refl _)
   | (with_reducible exact LeO.none _)
   | (with_reducible refine LeO.ite ?_ ?_)
   | (with_reducible refine LeO.bind ?_ (fun _ => ?_))
  ·intro y0 y1 y2 y3 y4 y5 y6 y7 y8
   unfold spec_l8Loops.l3
   repeat' first
   | (with_reducible exact ih0 _ _ _ _ _ _)
   | (with_reducible exact ih1 _ _ _ _ _ _ _ _ _ _ _)
   | (with_reducible exact ih2 _ _ _ _ _ _ _ _ _ _ _ _)
   | (with_reducible exact ih3 _ _ _ _ _ _ _ _ _)
   | (with_reducible exact ih4 _ _ _ _ _ _ _ _ _ _ _ _)
   | (with_reducible exact ih5 _ _ _ _ _ _ _ _ _ _ _ _ _ _ _ _)
   | (with_reducible exact ih6 _ _ _)
   | (with_reducible exact ih7 _ _ _ _ _ _)
   | (with_reducible exact ih8 _ _ _ _ _ _ _ _)
   | (with_reducible exact spec_GoodGraph.mono _ _)
   | (with_reducible exact spec_l7Dominators.mono _ _)
   | (with_reducible exact spec_l7Cyclic.mono _ _ _)
   | (with_reducible exact spec_l7Without.mono _ _ _)
   | (with_reducible exact spec_l7Back.mono _ _ _)
   | (with_reducible exact spec_l1Put.mono _ _ _)
   | (with_reducible exact spec_l1Has.mono _ _ _)
   | (with_reducible exact spec_l8Has.mono _ _ _)
   | (with_reducible exact LeO.refl _)
   | (with_reducible exact LeO.none _)
   | (with_reducible refine LeO.ite ?_ ?_)
   | (with_reducible refine LeO.bind ?_ (fun _ => ?_))
  ·intro y0 y1 y2 y3 y4 y5 y6 y7 y8 y9 y10 y11
   unfold spec_l8Loops.l4
   repeat' first
   | (with_reducible exact ih0 _ _ _ _ _ _)
   | (with_reducible exact ih1 _ _ _ _ _ _ _ _ _ _ _)
   | (with_reducible exact ih2 _ _ _ _ _ _ _ _ _ _ _ _)
   | (with_reducible exact ih3 _ _ _ _ _ _ _ _ _)
   | (with_reducible exact ih4 _ _ _ _ _ _ _ _ _ _ _ _)
   | (with_reducible exact ih5 _ _ _ _ _ _ _ _ _ _ _ _ _ _ _ _)
   | (with_reducible exact ih6 _ _ _)
   | (with_reducible exact ih7 _ _ _ _ _ _)
   | (with_reducible exact ih8 _ _ _ _ _ _ _ _)
   | (with_reducible exact spec_GoodGraph.mono _ _)
   | (with_reducible exact spec_l7Dominators.mono _ _)
   | (with_reducible exact spec_l7Cyclic.mono _ _ _)
   | (with_reducible exact spec_l7Without.mono _ _ _)
   | (with_reducible exact spec_l7Back.mono _ _ _)
   | (with_reducible exact spec_l1Put.mono _ _ _)
   | (with_reducible exact spec_l1Has.mono _ _ _)
   | (with_reducible exact spec_l8Has.mono _ _ _)
   | (with_reducible exact LeO.refl _)
   | (with_reducible exact LeO.none _)
   | (with_reducible refine LeO.ite ?_ ?_)
   | (with_reducible refine LeO.bind ?_ (fun _ => ?_))
  ·intro y0 y1 y2 y3 y4 y5 y6 y7 y8 y9 y10 y11 y12 y13 y14 y15
   unfold spec_l8Loops.l5
   repeat' first
   | (with_reducible exact ih0 _ _ _ _ _ _)
   | (with_reducible exact ih1 _ _ _ _ _ _ _ _ _ _ _)
   | (with_reducible exact ih2 _ _ _ _ _ _ _ _ _ _ _ _)
   | (with_reducible exact ih3 _ _ _ _ _ _ _ _ _)
   | (with_reducible exact ih4 _ _ _ _ _ _ _ _ _ _ _ _)
   | (with_reducible exact ih5 _ _ _ _ _ _ _ _ _ _ _ _ _ _ _ _)
   | (with_reducible exact ih6 _ _ _)
   | (with_reducible exact ih7 _ _ _ _ _ _)
   | (with_reducible exact ih8 _ _ _ _ _ _ _ _)
   | (with_reducible exact spec_GoodGraph.mono _ _)
   | (with_reducible exact spec_l7Dominators.mono _ _)
   | (with_reducible exact spec_l7Cyclic.mono _ _ _)
   | (with_reducible exact spec_l7Without.mono _ _ _)
   | (with_reducible exact spec_l7Back.mono _ _ _)
   | (with_reducible exact spec_l1Put.mono _ _ _)
   | (with_reducible exact spec_l1Has.mono _ _ _)
   | (with_reducible exact spec_l8Has.mono _ _ _)
   | (with_reducible exact LeO.refl _)
   | (with_reducible exact LeO.none _)
   | (with_reducible refine LeO.ite ?_ ?_)
   | (with_reducible refine LeO.bind ?_ (fun _ => ?_))
  ·intro y0 y1 y2
   unfold spec_l8Loops.l6
   repeat' first
   | (with_reducible exact ih0 _ _ _ _ _ _)
   | (with_reducible exact ih1 _ _ _ _ _ _ _ _ _ _ _)
   | (with_reducible exact ih2 _ _ _ _ _ _ _ _ _ _ _ _)
   | (with_reducible exact ih3 _ _ _ _ _ _ _ _ _)
   | (with_reducible exact ih4 _ _ _ _ _ _ _ _ _ _ _ _)
   | (with_reducible exact ih5 _ _ _ _ _ _ _ _ _ _ _ _ _ _ _ _)
   | (with_reducible exact ih6 _ _ _)
   | (with_reducible exact ih7 _ _ _ _ _ _)
   | (with_reducible exact ih8 _ _ _ _ _ _ _ _)
   | (with_reducible exact spec_GoodGraph.mono _ _)
   | (with_reducible exact spec_l7Dominators.mono _ _)
   | (with_reducible exact spec_l7Cyclic.mono _ _ _)
   | (with_reducible exact spec_l7Without.mono _ _ _)
   | (with_reducible exact spec_l7Back.mono _ _ _)
   | (with_reducible exact spec_l1Put.mono _ _ _)
   | (with_reducible exact spec_l1Has.mono _ _ _)
   | (with_reducible exact spec_l8Has.mono _ _ _)
   | (with_reducible exact LeO.refl _)
   | (with_reducible exact LeO.none _)
   | (with_reducible refine LeO.ite ?_ ?_)
   | (with_reducible refine LeO.bind ?_ (fun _ => ?_))
  ·intro y0 y1 y2 y3 y4 y5
   unfold spec_l8Loops.l7
   repeat' first
   | (with_reducible exact ih0 _ _ _ _ _ _)
   | (with_reducible exact ih1 _ _ _ _ _ _ _ _ _ _ _)
   | (with_reducible exact ih2 _ _ _ _ _ _ _ _ _ _ _ _)
   | (with_reducible exact ih3 _ _ _ _ _ _ _ _ _)
   | (with_reducible exact ih4 _ _ _ _ _ _ _ _ _ _ _ _)
   | (with_reducible exact ih5 _ _ _ _ _ _ _ _ _ _ _ _ _ _ _ _)
   | (with_reducible exact ih6 _ _ _)
   | (with_reducible exact ih7 _ _ _ _ _ _)
   | (with_reducible exact ih8 _ _ _ _ _ _ _ _)
   | (with_reducible exact spec_GoodGraph.mono _ _)
   | (with_reducible exact spec_l7Dominators.mono _ _)
   | (with_reducible exact spec_l7Cyclic.mono _ _ _)
   | (with_reducible exact spec_l7Without.mono _ _ _)
   | (with_reducible exact spec_l7Back.mono _ _ _)
   | (with_reducible exact spec_l1Put.mono _ _ _)
   | (with_reducible exact spec_l1Has.mono _ _ _)
   | (with_reducible exact spec_l8Has.mono _ _ _)
   | (with_reducible exact LeO.refl _)
   | (with_reducible exact LeO.none _)
   | (with_reducible refine LeO.ite ?_ ?_)
   | (with_reducible refine LeO.bind ?_ (fun _ => ?_))
  ·intro y0 y1 y2 y3 y4 y5 y6 y7
   unfold spec_l8Loops.j8
   repeat' first
   | (with_reducible exact ih0 _ _ _ _ _ _)
   | (with_reducible exact ih1 _ _ _ _ _ _ _ _ _ _ _)
   | (with_reducible exact ih2 _ _ _ _ _ _ _ _ _ _ _ _)
   | (with_reducible exact ih3 _ _ _ _ _ _ _ _ _)
   | (with_reducible exact ih4 _ _ _ _ _ _ _ _ _ _ _ _)
   | (with_reducible exact ih5 _ _ _ _ _ _ _ _ _ _ _ _ _ _ _ _)
   | (with_reducible exact ih6 _ _ _)
   | (with_reducible exact ih7 _ _ _ _ _ _)
   | (with_reducible exact ih8 _ _ _ _ _ _ _ _)
   | (with_reducible exact spec_GoodGraph.mono _ _)
   | (with_reducible exact spec_l7Dominators.mono _ _)
   | (with_reducible exact spec_l7Cyclic.mono _ _ _)
   | (with_reducible exact spec_l7Without.mono _ _ _)
   | (with_reducible exact spec_l7Back.mono _ _ _)
   | (with_reducible exact spec_l1Put.mono _ _ _)
   | (with_reducible exact spec_l1Has.mono _ _ _)
   | (with_reducible exact spec_l8Has.mono _ _ _)
   | (with_reducible exact LeO.refl _)
   | (with_reducible exact LeO.none _)
   | (with_reducible refine LeO.ite ?_ ?_)
   | (with_reducible refine LeO.bind ?_ (fun _ => ?_))
theorem spec_l8Loops.mono : ∀ a0 k,LeO (spec_l8Loops.f k a0) (spec_l8Loops.f (k + 1) a0):=by
 intro a0 k
 obtain ⟨ih0,ih1,ih2,ih3,ih4,ih5,ih6,ih7,ih8⟩:=spec_l8Loops.mono_l k
 unfold spec_l8Loops.f
 repeat' first
   | (with_reducible exact ih0 _ _ _ _ _ _)
   | (with_reducible exact ih1 _ _ _ _ _ _ _ _ _ _ _)
   | (with_reducible exact ih2 _ _ _ _ _ _ _ _ _ _ _ _)
   | (with_reducible exact ih3 _ _ _ _ _ _ _ _ _)
   | (with_reducible exact ih4 _ _ _ _ _ _ _ _ _ _ _ _)
   | (with_reducible exact ih5 _ _ _ _ _ _ _ _ _ _ _ _ _ _ _ _)
   | (with_reducible exact ih6 _ _ _)
   | (with_reducible exact ih7 _ _ _ _ _ _)
   | (with_reducible exact ih8 _ _ _ _ _ _ _ _)
   | (with_reducible exact spec_GoodGraph.mono _ _)
   | (with_reducible exact spec_l7Dominators.mono _ _)
   | (with_reducible exact spec_l7Cyclic.mono _ _ _)
   | (with_reducible exact spec_l7Without.mono _ _ _)
   | (with_reducible exact spec_l7Back.mono _ _ _)
   | (with_reducible exact spec_l1Put.mono _ _ _)
   | (with_reducible exact spec_l1Has.mono _ _ _)
   | (with_reducible exact spec_l8Has.mono _ _ _)
   | (with_reducible exact LeO.refl _)
   | (with_reducible exact LeO.none _)
   | (with_reducible refine LeO.ite ?_ ?_)
   | (with_reducible refine LeO.bind ?_ (fun _ => ?_))
/-- What holds while a body grows: what is only read lies in the blocks below b0, the body above. -/
structure L8I (w W : World) (b0 : Nat) (A0 : Option Addr) (n0 c0 : Nat) (vr ve vo vb : Value) (R : List Int) (es : List (List Int)) (out : List S58) (bd : List Int) : Prop where
 below : Below w.heap.size w W
 gbx : W.heap[w.heap.size]? = some (.cells #[.slice A0 n0 c0] 28 (0,0))
 gb0 : w.heap.size < b0
 flt : b0 ≤ W.heap.size
 rch : Kd.R (Kd.int .i64) 3 W w.heap.size (fun k => k < b0) vr R
 es : Kd.S (Kd.slice 3 (Kd.int .i64)) 43 W w.heap.size (fun k => k < b0) ve es
 out : Kd.S k58 58 W w.heap.size (fun k => k < b0) vo out
 bd : Kd.R (Kd.int .i64) 3 W w.heap.size (fun k => b0 ≤ k) vb bd
section
variable {w W W' : World} {b0 : Nat} {A0 : Option Addr} {n0 c0 : Nat} {vr ve vo vb v : Value} {R : List Int} {es : List (List Int)} {out : List S58} {bd y : List Int}
theorem L8I.step (h : L8I w W b0 A0 n0 c0 vr ve vo vb R es out bd) (hb : Below W.heap.size W W') : L8I w W' b0 A0 n0 c0 vr ve vo vb R es out bd :=
 ⟨below_step h.below hb,blk_below h.gbx hb,h.gb0,Nat.le_trans h.flt hb.size,Kd.R_below h.rch hb,Kd.S_below h.es hb,Kd.S_below h.out hb,Kd.R_below h.bd hb⟩
theorem L8I.put (h : L8I w W b0 A0 n0 c0 vr ve vo vb R es out bd) (hk : Kept W W' (fun k => b0 ≤ k)) (hb : Below w.heap.size w W') (hr : Kd.R (Kd.int .i64) 3 W' w.heap.size (fun k => b0 ≤ k ∨ W.heap.size ≤ k) v y) : L8I w W' b0 A0 n0 c0 vr ve vo v R es out y :=
 ⟨hb,(hk.2 _ (blk_lt h.gbx) (by have:=h.gb0;omega)).trans h.gbx,h.gb0,Nat.le_trans h.flt hk.1,Kd.R_kept h.rch hk (fun k h1 h2 => by omega),Kd.S_kept h.es hk (fun k h1 h2 => by omega),Kd.S_kept h.out hk (fun k h1 h2 => by omega),Kd.R_mono hr (fun k h1 => h1.elim id (Nat.le_trans h.flt))⟩
end
/-- Between the heads. -/
structure L8O (w W : World) (A0 : Option Addr) (n0 c0 : Nat) (vr ve vo : Value) (R : List Int) (es : List (List Int)) (out : List S58) : Prop where
 below : Below w.heap.size w W
 gbx : W.heap[w.heap.size]? = some (.cells #[.slice A0 n0 c0] 28 (0,0))
 rch : Kd.R (Kd.int .i64) 3 W w.heap.size (fun _ => True) vr R
 es : Kd.S (Kd.slice 3 (Kd.int .i64)) 43 W w.heap.size (fun _ => True) ve es
 out : Kd.S k58 58 W w.heap.size (fun _ => True) vo out
theorem l8_lit1 (W : World) (i : Int) : Kd.R (Kd.int .i64) 3 (W.alloc (.cells #[.int .i64 i] 3)) W.heap.size (fun _ => True) (.slice (some ⟨W.heap.size,0,none⟩) 1 1) [i]:=by
 have h2:=World.ownsRow_lit (base:=W.heap.size) (e:=3) (size:=1) W #[.int .i64 i] 1 (Nat.le_refl _) (by simp [maxLen]) (by simp)
 exact ⟨fun _ _ => trivial,[.int .i64 i],h2,Reps.one rfl (Reps.none _ _)⟩
theorem l8_types_ne {α β : Type} {d1 : Kd α} {d2 : Kd β} {e1 e2 b1 b2 : Nat} {W : World} {o1 o2 : Nat → Prop} {v1 v2 : Value} {x1 : List α} {x2 : List β} (h1 : d1.R e1 W b1 o1 v1 x1) (h2 : d2.R e2 W b2 o2 v2 x2) (he : e1 ≠ e2) : ∀ k,some k = v1.ownBlock → some k ≠ v2.ownBlock:=fun k a b => by
 obtain ⟨c1,a1⟩:=Kd.R_typed h1 k a.symm
 obtain ⟨c2,a2⟩:=Kd.R_typed h2 k b.symm
 rw [a1] at a2
 injection a2 with a2
 injection a2 with _ a2 _
 exact he a2
theorem L8O.head {w W : World} {A0 : Option Addr} {n0 c0 : Nat} {vr ve vo : Value} {R : List Int} {es : List (List Int)} {out : List S58} (h : L8O w W A0 n0 c0 vr ve vo R es out) (i : Int) : L8I w (W.alloc (.cells #[.int .i64 i] 3)) W.heap.size A0 n0 c0 vr ve vo (.slice (some ⟨W.heap.size,0,none⟩) 1 1) R es out [i] :=
 ⟨below_alloc h.below _,blk_alloc h.gbx _,blk_lt h.gbx,by simp,Kd.R_alloc (Kd.R_mono (Kd.R_bound h.rch) (fun k hk => hk.2.2.1)) _,Kd.S_alloc (Kd.S_mono (Kd.S_bound h.es) (fun k hk => hk.2.2.1)) _,Kd.S_alloc (Kd.S_mono (Kd.S_bound h.out) (fun k hk => hk.2.2.1)) _,Kd.R_mono (Kd.R_lower (Kd.R_bound (l8_lit1 W i)) h.below.size) (fun k hk => hk.2.1)⟩
/-- The loops alone. -/
structure L8C (w W : World) (vo : Value) (out : List S58) : Prop where
 below : Below w.heap.size w W
 out : Kd.S k58 58 W w.heap.size (fun _ => True) vo out
theorem L8C.step {w W W' : World} {vo : Value} {out : List S58} (h : L8C w W vo out) (hb : Below W.heap.size W W') : L8C w W' vo out:=⟨below_step h.below hb,Kd.S_below h.out hb⟩
theorem L8C.at {w W : World} {A : Option Addr} {n c : Nat} {out : List S58} (h : L8C w W (.slice A n c) out) (i : Int) (h0 : 0 ≤ i) (h1 : i < n) :
  ∃ go A1 c1,A = some ⟨go,0,none⟩ ∧ w.heap.size ≤ go ∧ W.cell? ⟨go,i.toNat * 3,none⟩ = some (.int .i64 (rd_T58 out i).f0) ∧ W.cell? ⟨go,i.toNat * 3 + 1,none⟩ = some (.slice A1 (rd_T58 out i).f1.length c1) ∧ W.cell? ⟨go,i.toNat * 3 + 2,none⟩ = some (.int .i64 (rd_T58 out i).f2) ∧ (rd_T58 out i).f1.length ≤ c1 ∧ Kd.C (Kd.int .i64) W A1 (rd_T58 out i).f1.length (rd_T58 out i).f1:=by
 have hn:=(Kd.S_reads' h.out).1
 obtain ⟨go,cap,hv,hb,_⟩:=Kd.S_form h.out (by omega)
 injection hv with ha _ _
 subst ha
 obtain ⟨ad,A1,c1,eA,hx0,hx1,hx2,hl,hi⟩:=at_T58 (Kd.S_reads' h.out).2.2 i h0 (by omega)
 cases eA
 rw [add_plain] at hx0
 rw [add_plain] at hx1
 rw [add_plain] at hx2
 exact ⟨go,A1,c1,rfl,hb,hx0,hx1,hx2,hl,hi⟩
theorem L8C.put {w W : World} {go n c : Nat} {out : List S58} (h : L8C w W (.slice (some ⟨go,0,none⟩) n c) out) (i z : Int) (h0 : 0 ≤ i) (h1 : i < n) (hg : w.heap.size ≤ go) :
  L8C w (W.setCell ⟨go,i.toNat * 3 + 2,none⟩ (.int .i64 z)) (.slice (some ⟨go,0,none⟩) n c) (out.set i.toNat ⟨(rd_T58 out i).f0,(rd_T58 out i).f1,z⟩) ∧ W.frozen? ⟨go,i.toNat * 3 + 2,none⟩ = false:=by
 obtain ⟨oki,ce,hcl,hM,hcc,hfr,hoki,hH⟩:=Kd.S_elem h.out z58 i h0 h1
 obtain ⟨ve,rfl,ge⟩:=k58_openM hM
 have HP:=Kd.S_seg0 hH h0 h1 (seg:=[.int .i64 z]) (j:=2) (show 3 ≤ 3 from by decide) (x':=(⟨(rd_T58 out i).f0,(rd_T58 out i).f1,z⟩ : S58)) (k58_mkM _ _ _ (⟨(rd_T58 out i).f0,(rd_T58 out i).f1,z⟩ : S58) ge) (fun _ hk => hk)
 exact ⟨⟨h.below.setCell (show w.heap.size ≤ (⟨go,i.toNat * 3 + 2,none⟩ : Addr).block from hg) _,HP.1⟩,hfr 2⟩
set_option maxHeartbeats 8000000 in
set_option maxRecDepth 100000 in
theorem spec_l8Loops.calls (k : Nat) (A0_0 : Option Addr) (c0_0 : Nat) (l0_0 : List (List Int)) (r1 : List S58) (r2 : Bool) (w : World) (hr0_0 : Kd.C (Kd.slice 3 (Kd.int .i64)) w A0_0 l0_0.length l0_0) (hc0_0 : l0_0.length ≤ c0_0) (h : spec_l8Loops.f k l0_0 = some (r1,r2)) :
  Calls Try.prog 43 #[.agg #[.slice A0_0 l0_0.length c0_0]] w fun e w' => ∃ v0_ : Value,e = .returned (.tuple #[v0_,.bool r2]) ∧ Kd.S k58 58 w' w.heap.size (fun _ => True) v0_ r1 ∧ Below w.heap.size w w':=by
 have hu28:=Try.underlying28
 have hu58:=Try.underlying58
 have HR0:=Aside0.mk hr0_0
 have HC0:=Aside0.mk hc0_0
 have HBX:=Aside0.mk (heap_alloc_new w (.cells #[.slice A0_0 l0_0.length c0_0] 28))
 have HB:=Aside0.mk (below_alloc (Below.refl w.heap.size w) (.cells #[.slice A0_0 l0_0.length c0_0] 28))
 unfold spec_l8Loops.f at h
 obtain ⟨tg,A1,H⟩:=Option.bind_eq_some_iff.mp h
 have A:=Aside0.mk A1
 clear hr0_0 hc0_0 h A1
 cases tg with
 | false =>
  rw [if_neg (by decide)] at H
  simp only [Option.some.injEq,Prod.mk.injEq] at H
  obtain ⟨rfl,rfl⟩:=H
  go_enter Try.func43,Try.ntmps43
  go_wp2_with (go_at_call 71;(refine (spec_GoodGraph.calls k _ _ l0_0 false _ (Kd.C_below HR0.out HB.out) HC0.out A.out).mono ?_);rintro e w2 ⟨rfl,hb⟩;have HB2:=Aside0.mk (below_step HB.out hb);clear hb)
  go_ret2
  exact ⟨_,rfl,Kd.S_nil _ _ _ _ _,HB2.out⟩
 | true =>
 rw [if_pos rfl] at H
 obtain ⟨dm,A1,H⟩:=Option.bind_eq_some_iff.mp H
 obtain ⟨tc,A2,H⟩:=Option.bind_eq_some_iff.mp H
 have A3:=Aside0.mk A1
 have A4:=Aside0.mk A2
 clear A1 A2
 cases tc with
 | true =>
  rw [if_pos rfl] at H
  simp only [Option.some.injEq,Prod.mk.injEq] at H
  obtain ⟨rfl,rfl⟩:=H
  go_enter Try.func43,Try.ntmps43
  go_wp2_with (first | (go_at_call 71;(refine (spec_GoodGraph.calls k _ _ l0_0 true _ (Kd.C_below HR0.out HB.out) HC0.out A.out).mono ?_);rintro e w2 ⟨rfl,hb⟩;have HB2:=Aside0.mk (below_step HB.out hb);have HBX2:=Aside0.mk (blk_below HBX.out hb);have hcz2 : w2.cell? ⟨w.heap.size,0,none⟩ = some (.slice A0_0 l0_0.length c0_0):=(blk_cell HBX2.out 0).trans rfl;clear hb) | (go_at_call 72;(refine (spec_l7Dominators.calls k A0_0 c0_0 l0_0 dm _ (Kd.C_below HR0.out HB2.out) HC0.out A3.out).mono ?_);rintro e w3 ⟨vD,rfl,hoD,hb⟩;obtain ⟨Ad,cd,ed⟩:=Kd.S_slice hoD;subst ed;have HD3:=Aside0.mk (Kd.S_lower hoD HB2.out.size);have HB3:=Aside0.mk (below_step HB2.out hb);have HBX3:=Aside0.mk (blk_below HBX2.out hb);have hcz3 : w3.cell? ⟨w.heap.size,0,none⟩ = some (.slice A0_0 l0_0.length c0_0):=(blk_cell HBX3.out 0).trans rfl;clear hoD hb hcz2) | (go_at_call 73;(refine (spec_l7Cyclic.calls k A0_0 c0_0 l0_0 Ad cd dm true _ (Kd.C_below HR0.out HB3.out) HC0.out (Kd.S_reads' HD3.out).2.2 (Kd.S_reads' HD3.out).2.1 A4.out).mono ?_);rintro e w4 ⟨rfl,hb⟩;have HB4:=Aside0.mk (below_step HB3.out hb);have HD4:=Aside0.mk (Kd.S_below HD3.out hb);have HBX4:=Aside0.mk (blk_below HBX3.out hb);have hcz4 : w4.cell? ⟨w.heap.size,0,none⟩ = some (.slice A0_0 l0_0.length c0_0):=(blk_cell HBX4.out 0).trans rfl;clear hb hcz3))
  go_ret2
  exact ⟨_,rfl,Kd.S_nil _ _ _ _ _,HB4.out⟩
 | false =>
 rw [if_neg (by decide)] at H
 obtain ⟨R,A1,H⟩:=Option.bind_eq_some_iff.mp H
 obtain ⟨es,A2,H⟩:=Option.bind_eq_some_iff.mp H
 have A5:=Aside0.mk A1
 have A6:=Aside0.mk A2
 have H':=Aside0.mk H
 clear A1 A2 H
 go_enter Try.func43,Try.ntmps43
 go_wp2_with (first | (go_at_call 71;(refine (spec_GoodGraph.calls k _ _ l0_0 true _ (Kd.C_below HR0.out HB.out) HC0.out A.out).mono ?_);rintro e w2 ⟨rfl,hb⟩;have HB2:=Aside0.mk (below_step HB.out hb);have HBX2:=Aside0.mk (blk_below HBX.out hb);have hcz2 : w2.cell? ⟨w.heap.size,0,none⟩ = some (.slice A0_0 l0_0.length c0_0):=(blk_cell HBX2.out 0).trans rfl;clear hb) | (go_at_call 72;(refine (spec_l7Dominators.calls k A0_0 c0_0 l0_0 dm _ (Kd.C_below HR0.out HB2.out) HC0.out A3.out).mono ?_);rintro e w3 ⟨vD,rfl,hoD,hb⟩;obtain ⟨Ad,cd,ed⟩:=Kd.S_slice hoD;subst ed;have HD3:=Aside0.mk (Kd.S_lower hoD HB2.out.size);have HB3:=Aside0.mk (below_step HB2.out hb);have HBX3:=Aside0.mk (blk_below HBX2.out hb);have hcz3 : w3.cell? ⟨w.heap.size,0,none⟩ = some (.slice A0_0 l0_0.length c0_0):=(blk_cell HBX3.out 0).trans rfl;clear hoD hb hcz2) | (go_at_call 73;(refine (spec_l7Cyclic.calls k A0_0 c0_0 l0_0 Ad cd dm false _ (Kd.C_below HR0.out HB3.out) HC0.out (Kd.S_reads' HD3.out).2.2 (Kd.S_reads' HD3.out).2.1 A4.out).mono ?_);rintro e w4 ⟨rfl,hb⟩;have HB4:=Aside0.mk (below_step HB3.out hb);have HD4:=Aside0.mk (Kd.S_below HD3.out hb);have HBX4:=Aside0.mk (blk_below HBX3.out hb);have hcz4 : w4.cell? ⟨w.heap.size,0,none⟩ = some (.slice A0_0 l0_0.length c0_0):=(blk_cell HBX4.out 0).trans rfl;clear hb hcz3) | (go_at_call 54;(refine (spec_l7Without.calls k A0_0 c0_0 l0_0 (-1) R _ (Kd.C_below HR0.out HB4.out) HC0.out A5.out).mono ?_);rintro e w5 ⟨vR,rfl,hoR,hb⟩;obtain ⟨Ar,cr,er⟩:=Kd.R_slice hoR;subst er;have HR5:=Aside0.mk (Kd.R_lower hoR HB4.out.size);have HD5:=Aside0.mk (Kd.S_below HD4.out hb);have HB5:=Aside0.mk (below_step HB4.out hb);have HBX5:=Aside0.mk (blk_below HBX4.out hb);have hcz5 : w5.cell? ⟨w.heap.size,0,none⟩ = some (.slice A0_0 l0_0.length c0_0):=(blk_cell HBX5.out 0).trans rfl;clear hoR hb hcz4) | (go_at_call 74;(refine (spec_l7Back.calls k A0_0 c0_0 l0_0 Ad cd dm es _ (Kd.C_below HR0.out HB5.out) HC0.out (Kd.S_reads' HD5.out).2.2 (Kd.S_reads' HD5.out).2.1 A6.out).mono ?_);rintro e w6 ⟨vE,rfl,hoE,hb⟩;obtain ⟨Ae,ce,ee⟩:=Kd.S_slice hoE;subst ee;have HO:=Aside0.mk (show L8O w w6 A0_0 l0_0.length c0_0 (.slice Ar R.length cr) (.slice Ae es.length ce) (.slice none 0 0) R es [] from ⟨below_step HB5.out hb,blk_below HBX5.out hb,Kd.R_below HR5.out hb,Kd.S_lower hoE HB5.out.size,Kd.S_nil _ _ _ _ _⟩);have hcz6 : w6.cell? ⟨w.heap.size,0,none⟩ = some (.slice A0_0 l0_0.length c0_0):=(blk_cell HO.out.gbx 0).trans rfl;clear hoE hb hcz5))
 clear hcz6
 go_loopg [7,39] k (fun kq v7 v39 w' => ∃ (out : List S58) (i : Int),v39 = .int .i64 i ∧ Aside0 (spec_l8Loops.l0 kq R es out (l0_0.length : Int) i l0_0 = some (r1,r2)) ∧ Aside0 (kq ≤ k) ∧ Aside0 (L8O w w' A0_0 l0_0.length c0_0 (.slice Ar R.length cr) (.slice Ae es.length ce) v7 R es out))
 case atStart => exact ⟨[],0,rfl,H',⟨Nat.le_refl _⟩,HO⟩
 case round =>
  clear H' HO
  obtain ⟨out,i,rfl,HA,HK1,HO⟩:=hrel
  obtain ⟨Ao,co,eo⟩:=Kd.S_slice HO.out.out
  subst eo
  cases gk with
  | zero => exact absurd HA.out (by simp [spec_l8Loops.l0])
  | succ k1 =>
  have H:=HA.out
  clear HA
  simp only [spec_l8Loops.l0] at H
  by_cases c1 : i < (l0_0.length : Int)
  ·rw [if_pos c1] at H
   have H':=Aside0.mk H
   have q1 : decide (i < (l0_0.length : Int)) = true:=decide_eq_true c1
   have HOL:=Aside0.mk HO.out.out
   have HI:=Aside0.mk (HO.out.head i)
   obtain ⟨b0,hb0⟩ : ∃ b0,b0 = wr.heap.size:=⟨_,rfl⟩
   rw [← hb0] at HI
   clear H c1 HO
   go_upto_region 13 with (fail)
   rw [← hb0]
   obtain ⟨w7,hw7⟩ : ∃ w7,w7 = wr.alloc (.cells #[.int .i64 i] 3):=⟨_,rfl⟩
   rw [← hw7] at HI ⊢
   clear hw7 hb0 HOL
   go_wp2
   go_loopg [9,46] k1 (fun kq v9 v46 w' => ∃ (bd : List Int) (j : Int),v46 = .int .i64 j ∧ Aside0 (spec_l8Loops.l1 kq R es out i bd (l0_0.length : Int) i es (es.length : Int) j l0_0 = some (r1,r2)) ∧ Aside0 (kq ≤ k1) ∧ Aside0 (L8I w w' b0 A0_0 l0_0.length c0_0 (.slice Ar R.length cr) (.slice Ae es.length ce) (.slice Ao out.length co) v9 R es out bd))
   case atStart => exact ⟨_,0,rfl,H',⟨Nat.le_refl _⟩,HI⟩
   case round =>
    clear H' HI q1
    obtain ⟨bd,j,rfl,HA,HK2,HI⟩:=hrel
    obtain ⟨Ab,cb,eb⟩:=Kd.R_slice HI.out.bd
    subst eb
    cases gk with
    | zero => exact absurd HA.out (by simp [spec_l8Loops.l1])
    | succ k2 =>
    have H:=HA.out
    clear HA
    simp only [spec_l8Loops.l1] at H
    by_cases c1 : j < (es.length : Int)
    ·rw [if_pos c1] at H
     by_cases c2 : 0 ≤ j
     ·rw [if_pos c2] at H
      obtain ⟨gd,okd,ved,hgd,hxd,hfd,hRd,hokd,hPd,hbd2,hHd⟩:=S_row HI.out.es j c2 c1
      subst hgd
      replace hRd : Kd.R (Kd.int .i64) 3 wr w.heap.size okd ved (rd_L1 es j):=hRd
      obtain ⟨y,hy⟩ : ∃ y,y = rd_L1 es j:=⟨_,rfl⟩
      rw [← hy] at H hRd
      rw [if_pos (by simpa using c1)] at H
      by_cases c3 : 1 < (y.length : Int)
      ·rw [if_pos c3] at H
       obtain ⟨ge,cE,eE,hbe,_⟩:=Kd.R_form hRd (by omega)
       subst eE
       obtain ⟨m,hm⟩ : ∃ m,m = rd y 1:=⟨_,rfl⟩
       obtain ⟨z,hz⟩ : ∃ z,z = rd y 0:=⟨_,rfl⟩
       rw [← hm,← hz] at H
       obtain ⟨a5,e5,hy1⟩:=Kd.at_int (Kd.R_reads' hRd).2.2 1 (by omega) c3
       cases e5
       obtain ⟨a6,e6,hy0⟩:=Kd.at_int (Kd.R_reads' hRd).2.2 0 (by omega) (by omega)
       cases e6
       rw [← hm,add_plain] at hy1
       rw [← hz,add_plain] at hy0
       replace hy1 : wr.cell? ⟨ge,1,none⟩ = some (.int .i64 m):=hy1
       replace hy0 : wr.cell? ⟨ge,0,none⟩ = some (.int .i64 z):=hy0
       have q1 : decide (j < (es.length : Int)) = true:=decide_eq_true c1
       have q2 : decide (0 ≤ j) = true:=decide_eq_true c2
       have p1:=eq_true c1
       have p2:=eq_true c2
       have p50 : 0 < y.length:=by omega
       have p51 : 1 < y.length:=by omega
       have q3 : decide (1 < y.length) = true:=decide_eq_true p51
       have q4 : decide (0 < y.length) = true:=decide_eq_true p50
       by_cases c4 : m = i
       ·rw [if_pos c4,if_pos (by omega)] at H
        obtain ⟨t,B1,H⟩:=Option.bind_eq_some_iff.mp H
        have B:=Aside0.mk B1
        have H':=Aside0.mk H
        have q5 : (m == i) = true:=by rw [c4];exact beq_self_eq_true i
        have q6 : decide (m = i) = true:=decide_eq_true c4
        clear H B1 c1 c2 c3 c4 hfd hRd hokd hPd hbd2 hHd hbe hy hm hz
        go_wp2_with (go_at_call 55;(refine (spec_l1Put.calls k2 (fun k_ => b0 ≤ k_) (.slice Ab bd.length cb) bd z t w _ HI.out.below HI.out.bd B.out).mono ?_);rintro e w8 ⟨v8,rfl,hr,hb,hk⟩;have HI2:=Aside0.mk (HI.out.put hk hb hr);clear hr hb hk HI)
        go_roundg k2
        case measure => have:=HK2.out;omega
        case rel => exact ⟨_,_,rfl,H',⟨by have:=HK2.out;omega⟩,HI2⟩
       ·rw [if_neg c4] at H
        have H':=Aside0.mk H
        have q5 : (m == i) = false:=by simpa using c4
        have q6 : decide (m = i) = false:=decide_eq_false c4
        clear H c1 c2 c3 c4 hfd hRd hokd hPd hbd2 hHd hbe hy hm hz
        go_wp2
        go_roundg k2
        case measure => have:=HK2.out;omega
        case rel => exact ⟨_,_,rfl,H',⟨by have:=HK2.out;omega⟩,HI⟩
      ·rw [if_neg c3] at H;exact absurd H (by simp)
     ·rw [if_neg c2] at H;exact absurd H (by simp)
    ·rw [if_neg c1] at H
     have H':=Aside0.mk H
     have q1 : decide (j < (es.length : Int)) = false:=decide_eq_false c1
     clear H c1
     go_wp2
     go_loopg [12,63] k2 (fun kq v12 v63 w' => ∃ (is : Bool) (j : Int),v12 = .bool is ∧ v63 = .int .i64 j ∧ Aside0 (spec_l8Loops.l2 kq R es out i bd is (l0_0.length : Int) i es (es.length : Int) j l0_0 = some (r1,r2)) ∧ Aside0 (kq ≤ k2) ∧ Aside0 (L8I w w' b0 A0_0 l0_0.length c0_0 (.slice Ar R.length cr) (.slice Ae es.length ce) (.slice Ao out.length co) (.slice Ab bd.length cb) R es out bd))
     case atStart => exact ⟨_,0,rfl,rfl,H',⟨Nat.le_refl _⟩,HI⟩
     case round =>
      clear H' HI q1
      obtain ⟨is,j,rfl,rfl,HA,HK3,HI⟩:=hrel
      cases gk with
      | zero => exact absurd HA.out (by simp [spec_l8Loops.l2])
      | succ k3 =>
      have H:=HA.out
      clear HA
      simp only [spec_l8Loops.l2] at H
      by_cases c1 : j < (es.length : Int)
      ·rw [if_pos c1] at H
       by_cases c2 : 0 ≤ j
       ·rw [if_pos c2,if_pos (by simpa using c1)] at H
        obtain ⟨gd,okd,ved,hgd,hxd,hfd,hRd,hokd,hPd,hbd2,hHd⟩:=S_row HI.out.es j c2 c1
        subst hgd
        replace hRd : Kd.R (Kd.int .i64) 3 wr w.heap.size okd ved (rd_L1 es j):=hRd
        obtain ⟨y,hy⟩ : ∃ y,y = rd_L1 es j:=⟨_,rfl⟩
        rw [← hy] at H hRd
        have q1 : decide (j < (es.length : Int)) = true:=decide_eq_true c1
        have q2 : decide (0 ≤ j) = true:=decide_eq_true c2
        have p1:=eq_true c1
        have p2:=eq_true c2
        cases is with
        | true =>
         rw [if_pos rfl] at H
         have H':=Aside0.mk H
         obtain ⟨AE,cE,eE⟩:=Kd.R_slice hRd
         subst eE
         clear H c1 c2 hfd hRd hokd hPd hbd2 hHd hy
         go_wp2
         go_roundg k3
         case measure => have:=HK3.out;omega
         case rel => exact ⟨_,_,rfl,rfl,H',⟨by have:=HK3.out;omega⟩,HI⟩
        | false =>
         rw [if_neg (by decide)] at H
         by_cases c3 : 1 < (y.length : Int)
         ·rw [if_pos c3] at H
          obtain ⟨ge,cE,eE,hbe,_⟩:=Kd.R_form hRd (by omega)
          subst eE
          obtain ⟨a5,e5,hy1⟩:=Kd.at_int (Kd.R_reads' hRd).2.2 1 (by omega) c3
          cases e5
          obtain ⟨m,hm⟩ : ∃ m,m = rd y 1:=⟨_,rfl⟩
          rw [← hm] at H hy1
          rw [add_plain] at hy1
          replace hy1 : wr.cell? ⟨ge,1,none⟩ = some (.int .i64 m):=hy1
          have H':=Aside0.mk H
          have p51 : 1 < y.length:=by omega
          have q3 : decide (1 < y.length) = true:=decide_eq_true p51
          clear H c1 c2 c3 hfd hRd hokd hPd hbd2 hHd hbe hy hm
          go_wp2
          go_roundg k3
          case measure => have:=HK3.out;omega
          case rel => exact ⟨_,_,rfl,rfl,H',⟨by have:=HK3.out;omega⟩,HI⟩
         ·rw [if_neg c3] at H;exact absurd H (by simp)
       ·rw [if_neg c2] at H;exact absurd H (by simp)
      ·rw [if_neg c1] at H
       have q1 : decide (j < (es.length : Int)) = false:=decide_eq_false c1
       cases is with
       | false =>
        rw [if_neg (by decide)] at H
        have H':=Aside0.mk H
        clear H c1
        go_wp2
        go_roundg k3
        case measure => have:=HK3.out;have:=HK2.out;have:=HK1.out;omega
        case rel => exact ⟨_,_,rfl,H',⟨by have:=HK3.out;have:=HK2.out;have:=HK1.out;omega⟩,⟨⟨HI.out.below,HI.out.gbx,Kd.R_mono HI.out.rch (fun _ _ => trivial),Kd.S_mono HI.out.es (fun _ _ => trivial),Kd.S_mono HI.out.out (fun _ _ => trivial)⟩⟩⟩
       | true =>
        rw [if_pos rfl] at H
        have H':=Aside0.mk H
        clear H c1
        go_wp2
        go_loopg [9,15] k3 (fun kq v9 v15 w' => ∃ (bd : List Int) (ag : Bool),v15 = .bool ag ∧ Aside0 (spec_l8Loops.l3 kq R es out i bd ag (l0_0.length : Int) i l0_0 = some (r1,r2)) ∧ Aside0 (kq ≤ k3) ∧ Aside0 (L8I w w' b0 A0_0 l0_0.length c0_0 (.slice Ar R.length cr) (.slice Ae es.length ce) (.slice Ao out.length co) v9 R es out bd))
        case atStart => exact ⟨_,_,rfl,H',⟨Nat.le_refl _⟩,HI⟩
        case round =>
         clear H' HI q1
         obtain ⟨bd,ag,rfl,HA,HK4,HI⟩:=hrel
         obtain ⟨Ab,cb,eb⟩:=Kd.R_slice HI.out.bd
         subst eb
         cases gk with
         | zero => exact absurd HA.out (by simp [spec_l8Loops.l3])
         | succ k4 =>
         have H:=HA.out
         clear HA
         simp only [spec_l8Loops.l3] at H
         cases ag with
         | false =>
          rw [if_neg (by decide)] at H
          by_cases c6 : out.length < 3518437208883
          ·rw [if_pos c6] at H
           have H':=Aside0.mk H
           have HLM:=Aside0.mk c6
           clear H c6
           go_wp2_with (first | ((with_reducible refine gate_builtin (b:=.append) (xs:=#[.tmp 111,.tmp 115]) rfl ?_);at_builtin;refine Kd.S_append k58 (w0:=w) w.heap.size rfl (.tmp 111) (.tmp 115) 37 58 (.agg #[.int .i64 0,.slice none 0 0,.int .i64 0]) 40 rfl Try.underlying37 (by kernel_rfl) rfl (by decide) (by omega) (.slice Ao out.length co) out ⟨i,bd,-1⟩ [.int .i64 i,.slice Ab bd.length cb,.int .i64 (-1)] (fun _ => True) (fun k_ => some k_ = (Value.slice Ab bd.length cb).ownBlock) rfl rfl ?aP ?aQ ?aF ?aO ?aB ?aS ?aL ?_;(case aP => exact k58_mkM _ _ _ ⟨i,bd,-1⟩ (Kd.R_tight rfl HI.out.bd));(case aQ => exact fun k_ hk_ => ⟨trivial,fun he_ => l8_types_ne HI.out.bd (Kd.S_R HI.out.out) (by decide) k_ hk_ he_⟩);(case aF => exact fun _ _ => trivial);(case aO => exact Kd.S_mono HI.out.out (fun k_ hk_ => ⟨trivial,fun he_ => by have q2:=HI.out.bd.1 k_ he_.symm;omega⟩));(case aB => exact HI.out.below);(case aS => exact HI.out.below.size);(case aL => have:=HLM.out;omega);intro v62 w6 ho6 hb6 hg6 hat6;have HO6:=Aside0.mk (show L8O w w6 A0_0 l0_0.length c0_0 (.slice Ar R.length cr) (.slice Ae es.length ce) v62 R es (out ++ [⟨i,bd,-1⟩]) from ⟨hb6,blk_grown HI.out.gbx hg6 (Kd.S_ne HI.out.out HI.out.gbx (by decide)),Kd.R_mono (Kd.R_over' HI.out.rch (Kd.S_typed HI.out.out) (by decide) hg6) (fun _ _ => trivial),Kd.S_mono (Kd.S_over' HI.out.es (Kd.S_typed HI.out.out) (by decide) hg6) (fun _ _ => trivial),ho6⟩);clear ho6 hb6 hg6 hat6))
           go_roundg k4
           case measure => have:=HK4.out;have:=HK3.out;have:=HK2.out;have:=HK1.out;omega
           case rel => exact ⟨_,_,rfl,H',⟨by have:=HK4.out;have:=HK3.out;have:=HK2.out;have:=HK1.out;omega⟩,HO6⟩
          ·rw [if_neg c6] at H;exact absurd H (by simp)
         | true =>
          rw [if_pos rfl] at H
          have H':=Aside0.mk H
          clear H
          go_wp2
          go_loopg [9,15,81] k4 (fun kq v9 v15 v81 w' => ∃ (bd : List Int) (ag : Bool) (j : Int),v15 = .bool ag ∧ v81 = .int .i64 j ∧ Aside0 (spec_l8Loops.l4 kq R es out i bd ag (l0_0.length : Int) i R (R.length : Int) j l0_0 = some (r1,r2)) ∧ Aside0 (kq ≤ k4) ∧ Aside0 (L8I w w' b0 A0_0 l0_0.length c0_0 (.slice Ar R.length cr) (.slice Ae es.length ce) (.slice Ao out.length co) v9 R es out bd))
          case atStart => exact ⟨_,_,0,rfl,rfl,H',⟨Nat.le_refl _⟩,HI⟩
          case round =>
           clear H' HI
           obtain ⟨bd,ag,j,rfl,rfl,HA,HK5,HI⟩:=hrel
           obtain ⟨Ab,cb,eb⟩:=Kd.R_slice HI.out.bd
           subst eb
           cases gk with
           | zero => exact absurd HA.out (by simp [spec_l8Loops.l4])
           | succ k5 =>
           have H:=HA.out
           clear HA
           simp only [spec_l8Loops.l4] at H
           by_cases c1 : j < (R.length : Int)
           ·rw [if_pos c1] at H
            by_cases c2 : 0 ≤ j
            ·rw [if_pos c2,if_pos (by simpa using c1)] at H
             obtain ⟨t,B1,H⟩:=Option.bind_eq_some_iff.mp H
             obtain ⟨adr,e5,hr1⟩:=Kd.at_int (Kd.R_reads' HI.out.rch).2.2 j c2 c1
             cases e5
             obtain ⟨q,hq⟩ : ∃ q,q = rd R j:=⟨_,rfl⟩
             rw [← hq] at hr1 B1 H
             have B:=Aside0.mk B1
             have q1 : decide (j < (R.length : Int)) = true:=decide_eq_true c1
             have q2 : decide (0 ≤ j) = true:=decide_eq_true c2
             have p1:=eq_true c1
             have p2:=eq_true c2
             cases t with
             | true =>
              rw [if_pos rfl] at H
              have H':=Aside0.mk H
              clear H B1 c1 c2 hq
              go_wp2_with (go_at_call 45;(refine (spec_l1Has.calls k5 Ab cb bd q true _ (Kd.R_reads' HI.out.bd).2.2 (Kd.R_reads' HI.out.bd).2.1 B.out).mono ?_);rintro e w8 ⟨rfl,⟨nd,hw8⟩⟩;have HI2:=Aside0.mk (HI.out.step (show Below wr.heap.size wr w8 by rw [hw8];exact pw_below_drewN (Below.refl _ _) nd));clear hw8 HI)
              go_roundg k5
              case measure => have:=HK5.out;omega
              case rel => exact ⟨_,_,_,rfl,rfl,H',⟨by have:=HK5.out;omega⟩,HI2⟩
             | false =>
              rw [if_neg (by decide)] at H
              by_cases c3 : 0 ≤ q
              ·rw [if_pos c3] at H
               by_cases c4 : q < (l0_0.length : Int)
               ·rw [if_pos c4] at H
                obtain ⟨ag0,AL,cL,eA,hx0,hl0,hi0⟩:=at_row (Kd.C_below HR0.out HI.out.below) q c3 c4
                cases eA
                have hxg:=at_row HR0.out q c3 c4
                obtain ⟨ag1,AL1,cL1,eA1,hxw,hlw,hiw⟩:=hxg
                injection eA1 with eA1
                subst eA1
                replace hx0 : wr.cell? (ag0.add q.toNat) = some (.slice AL (rd_L1 l0_0 q).length cL):=hx0
                have hxw2:=pw_cell_below HI.out.below hxw
                have heq:=Option.some.inj (hxw2.symm.trans hx0)
                injection heq with hA1 _ hc1
                subst hA1
                subst hc1
                replace hiw : Kd.C (Kd.int .i64) w AL1 (rd_L1 l0_0 q).length (rd_L1 l0_0 q):=hiw
                obtain ⟨y,hy⟩ : ∃ y,y = rd_L1 l0_0 q:=⟨_,rfl⟩
                rw [← hy] at H hx0 hiw
                have HIW:=Aside0.mk hiw
                have HXW:=Aside0.mk (show w.cell? (ag0.add q.toNat) = some (.slice AL1 y.length cL1) by rw [hy];exact hxw)
                have H':=Aside0.mk H
                have p3:=eq_true c3
                have p4:=eq_true c4
                have q3 : decide (0 ≤ q) = true:=decide_eq_true c3
                have q4 : decide (q < (l0_0.length : Int)) = true:=decide_eq_true c4
                clear H B1 c1 c2 c3 c4 hq hl0 hi0 hlw hiw hxw hxw2 hy hx0
                go_wp2_with (go_at_call 45;(refine (spec_l1Has.calls k5 Ab cb bd q false _ (Kd.R_reads' HI.out.bd).2.2 (Kd.R_reads' HI.out.bd).2.1 B.out).mono ?_);rintro e w8 ⟨rfl,⟨nd,hw8⟩⟩;have HI2:=Aside0.mk (HI.out.step (show Below wr.heap.size wr w8 by rw [hw8];exact pw_below_drewN (Below.refl _ _) nd));clear hw8 HI;have hcz8 : w8.cell? ⟨w.heap.size,0,none⟩ = some (.slice (some ag0) l0_0.length c0_0):=(blk_cell HI2.out.gbx 0).trans rfl;have hx8:=pw_cell_below HI2.out.below HXW.out)
                clear hcz8 hx8 hr1
                go_loopg [9,15,94] k5 (fun kq v9 v15 v94 w' => ∃ (bd : List Int) (ag : Bool) (x : Int),v15 = .bool ag ∧ v94 = .int .i64 x ∧ Aside0 (spec_l8Loops.l5 kq R es out i bd ag q (l0_0.length : Int) i R (R.length : Int) j y (y.length : Int) x l0_0 = some (r1,r2)) ∧ Aside0 (kq ≤ k5) ∧ Aside0 (L8I w w' b0 (some ag0) l0_0.length c0_0 (.slice (some adr) R.length cr) (.slice Ae es.length ce) (.slice Ao out.length co) v9 R es out bd))
                case atStart => exact ⟨_,_,0,rfl,rfl,H',⟨Nat.le_refl _⟩,HI2⟩
                case round =>
                 clear H' HI2 B q1 q2
                 obtain ⟨bd,ag,x,rfl,rfl,HA,HK6,HI⟩:=hrel
                 obtain ⟨Ab,cb,eb⟩:=Kd.R_slice HI.out.bd
                 subst eb
                 cases gk with
                 | zero => exact absurd HA.out (by simp [spec_l8Loops.l5])
                 | succ k6 =>
                 have H:=HA.out
                 clear HA
                 simp only [spec_l8Loops.l5] at H
                 by_cases d1 : x < (y.length : Int)
                 ·rw [if_pos d1] at H
                  by_cases d2 : 0 ≤ x
                  ·rw [if_pos d2,if_pos (by simpa using d1)] at H
                   obtain ⟨a5,e5,hy0⟩:=Kd.at_int (Kd.C_below HIW.out HI.out.below) x d2 d1
                   subst e5
                   obtain ⟨z,hz⟩ : ∃ z,z = rd y x:=⟨_,rfl⟩
                   rw [← hz] at H hy0
                   have q1 : decide (x < (y.length : Int)) = true:=decide_eq_true d1
                   have q2 : decide (0 ≤ x) = true:=decide_eq_true d2
                   have p5:=eq_true d1
                   have p6:=eq_true d2
                   by_cases d3 : z = i
                   ·rw [if_pos d3] at H
                    have H':=Aside0.mk H
                    have q5 : (z != i) = false:=by rw [d3];simp
                    have q6 : (z == i) = true:=by rw [d3];exact beq_self_eq_true i
                    have q7 : decide (z ≠ i) = false:=decide_eq_false (fun h => h d3)
                    clear H d1 d2 d3 hz
                    go_wp2
                    go_roundg k6
                    case measure => have:=HK6.out;omega
                    case rel => exact ⟨_,_,_,rfl,rfl,H',⟨by have:=HK6.out;omega⟩,HI⟩
                   ·rw [if_neg d3] at H
                    obtain ⟨t,B1,H⟩:=Option.bind_eq_some_iff.mp H
                    have B:=Aside0.mk B1
                    have q5 : (z != i) = true:=by simpa using d3
                    have q6 : (z == i) = false:=by simpa using d3
                    have q7 : decide (z ≠ i) = true:=decide_eq_true d3
                    cases t with
                    | false =>
                     rw [if_neg (by decide)] at H
                     have H':=Aside0.mk H
                     clear H B1 d1 d2 d3 hz
                     go_wp2_with (go_at_call 45;(refine (spec_l1Has.calls k6 Ab cb bd z false _ (Kd.R_reads' HI.out.bd).2.2 (Kd.R_reads' HI.out.bd).2.1 B.out).mono ?_);rintro e w8 ⟨rfl,⟨nd,hw8⟩⟩;have HI2:=Aside0.mk (HI.out.step (show Below wr.heap.size wr w8 by rw [hw8];exact pw_below_drewN (Below.refl _ _) nd));clear hw8 HI)
                     go_roundg k6
                     case measure => have:=HK6.out;omega
                     case rel => exact ⟨_,_,_,rfl,rfl,H',⟨by have:=HK6.out;omega⟩,HI2⟩
                    | true =>
                     rw [if_pos rfl] at H
                     obtain ⟨t2,B2,H⟩:=Option.bind_eq_some_iff.mp H
                     have C:=Aside0.mk B2
                     have H':=Aside0.mk H
                     clear H B1 B2 d1 d2 d3 hz
                     go_wp2_with (first | (go_at_call 45;(refine (spec_l1Has.calls k6 Ab cb bd z true _ (Kd.R_reads' HI.out.bd).2.2 (Kd.R_reads' HI.out.bd).2.1 B.out).mono ?_);rintro e w8 ⟨rfl,⟨nd,hw8⟩⟩;have HI2:=Aside0.mk (HI.out.step (show Below wr.heap.size wr w8 by rw [hw8];exact pw_below_drewN (Below.refl _ _) nd));clear hw8 HI) | (go_at_call 55;(refine (spec_l1Put.calls k6 (fun k_ => b0 ≤ k_) (.slice Ab bd.length cb) bd q t2 w _ HI2.out.below HI2.out.bd C.out).mono ?_);rintro e w9 ⟨v9,rfl,hr,hb,hk⟩;have HI3:=Aside0.mk (HI2.out.put hk hb hr);clear hr hb hk HI2))
                     go_roundg k6
                     case measure => have:=HK6.out;omega
                     case rel => exact ⟨_,_,_,rfl,rfl,H',⟨by have:=HK6.out;omega⟩,HI3⟩
                  ·rw [if_neg d2] at H;exact absurd H (by simp)
                 ·rw [if_neg d1] at H
                  have H':=Aside0.mk H
                  have q1 : decide (x < (y.length : Int)) = false:=decide_eq_false d1
                  clear H d1
                  go_wp2
                  go_roundg k6
                  case measure => have:=HK6.out;have:=HK5.out;omega
                  case rel => exact ⟨_,_,_,rfl,rfl,H',⟨by have:=HK6.out;have:=HK5.out;omega⟩,HI⟩
               ·rw [if_neg c4] at H;exact absurd H (by simp)
              ·rw [if_neg c3] at H;exact absurd H (by simp)
            ·rw [if_neg c2] at H;exact absurd H (by simp)
           ·rw [if_neg c1] at H
            have H':=Aside0.mk H
            have q1 : decide (j < (R.length : Int)) = false:=decide_eq_false c1
            clear H c1
            go_wp2
            go_roundg k5
            case measure => have:=HK5.out;have:=HK4.out;omega
            case rel => exact ⟨_,_,rfl,H',⟨by have:=HK5.out;have:=HK4.out;omega⟩,HI⟩
  ·rw [if_neg c1] at H
   have H':=Aside0.mk H
   have q1 : decide (i < (l0_0.length : Int)) = false:=decide_eq_false c1
   have HC:=Aside0.mk (show L8C w wr (.slice Ao out.length co) out from ⟨HO.out.below,HO.out.out⟩)
   obtain ⟨n,hn⟩ : ∃ n,n = out.length:=⟨_,rfl⟩
   rw [← hn] at HC H' ⊢
   clear H c1 HO hn
   go_wp2
   go_loopg [120] k1 (fun kq v120 w' => ∃ (out : List S58) (i : Int),v120 = .int .i64 i ∧ Aside0 (spec_l8Loops.l6 kq out (n : Int) i = some (r1,r2)) ∧ Aside0 (kq ≤ k1) ∧ Aside0 (L8C w w' (.slice Ao n co) out))
   case atStart => exact ⟨_,0,rfl,H',⟨Nat.le_refl _⟩,HC⟩
   case round =>
    clear H' HC q1 out
    obtain ⟨out,i,rfl,HA,HK3,HC⟩:=hrel
    have hnl : n = out.length:=(Kd.S_reads' HC.out.out).1
    cases gk with
    | zero => exact absurd HA.out (by simp [spec_l8Loops.l6])
    | succ k3 =>
    have H:=HA.out
    clear HA
    simp only [spec_l8Loops.l6] at H
    rw [← hnl] at H
    by_cases c3 : i < (n : Int)
    ·rw [if_pos c3] at H
     have H':=Aside0.mk H
     have q3 : decide (i < (n : Int)) = true:=decide_eq_true c3
     have HI3:=Aside0.mk c3
     clear H c3 hnl
     go_wp2
     go_loopg [125] k3 (fun kq v125 w' => ∃ (out : List S58) (j : Int),v125 = .int .i64 j ∧ Aside0 (spec_l8Loops.l7 kq out i (n : Int) i (n : Int) j = some (r1,r2)) ∧ Aside0 (kq ≤ k3) ∧ Aside0 (L8C w w' (.slice Ao n co) out))
     case atStart => exact ⟨_,0,rfl,H',⟨Nat.le_refl _⟩,HC⟩
     case round =>
      clear H' HC q3 out
      obtain ⟨out,j,rfl,HA,HK4,HC⟩:=hrel
      have hnl : n = out.length:=(Kd.S_reads' HC.out.out).1
      cases gk with
      | zero => exact absurd HA.out (by simp [spec_l8Loops.l7])
      | succ k4 =>
      have H:=HA.out
      clear HA
      simp only [spec_l8Loops.l7] at H
      by_cases d1 : j < (n : Int)
      ·rw [if_pos d1] at H
       by_cases d5 : i = j
       ·rw [if_pos d5] at H
        cases k4 with
        | zero => exact absurd H (by simp [spec_l8Loops.j8])
        | succ k5 =>
        simp only [spec_l8Loops.j8] at H
        rw [if_pos (by trivial)] at H
        have H':=Aside0.mk H
        have q9 : (i == j) = true:=by rw [d5];exact beq_self_eq_true j
        have q5 : decide (j < (n : Int)) = true:=decide_eq_true d1
        clear H d5 d1 hnl
        go_upto_region 49 with (fail)
        have HC6:=Aside0.mk (HC.out.step (below_drew (Below.refl _ _)))
        clear HC
        refine start_ (n:=17) (S:=fun w' => True) (ds:=[]) #[false,false,false,false,false,false,false,false,false,false,false,false,false,false,false,false,false] (by kernel_rfl) rfl rfl ?_ (fun hHeld => ?_)
        ·exact trivial
        generalize hw6 : World.drew wr = w6 at HC6 hHeld ⊢
        clear hw6
        refine pure_ (i:=0) (N:=some 128) (v:=?_) (a':=?_) #[true,false,false,false,false,false,false,false,false,false,false,false,false,false,false,false,false] rfl rfl (by kernel_rfl) (fun _ _ _ h => h) (Or.inl ⟨by rfl,?_⟩) ?_ ?_
        rotate_left
        ·intro w'
         go_simp
         with_reducible rfl
        rotate_left
        ·simp only [Act.put,List.setIfInBounds_toArray,List.set_cons_zero,List.set_cons_succ,i64_w,i32_w]
         rfl
        refine pure_ (i:=1) (N:=some 129) (v:=?_) (a':=?_) #[true,true,false,false,false,false,false,false,false,false,false,false,false,false,false,false,false] rfl rfl (by kernel_rfl) (fun _ _ _ h => h) (Or.inl ⟨by rfl,?_⟩) ?_ ?_
        rotate_left
        ·intro w'
         go_simp
         with_reducible rfl
        rotate_left
        ·simp only [Act.put,List.setIfInBounds_toArray,List.set_cons_zero,List.set_cons_succ,i64_w,i32_w]
         rfl
        refine pure_ (i:=2) (N:=some 130) (v:=?_) (a':=?_) #[true,true,true,false,false,false,false,false,false,false,false,false,false,false,false,false,false] rfl rfl (by kernel_rfl) (fun _ _ _ h => h) (Or.inl ⟨by rfl,?_⟩) ?_ ?_
        rotate_left
        ·intro w'
         go_simp
         with_reducible rfl
        rotate_left
        ·simp only [Act.put,List.setIfInBounds_toArray,List.set_cons_zero,List.set_cons_succ,i64_w,i32_w]
         rfl
        refine pure_ (i:=3) (N:=some 131) (v:=?_) (a':=?_) #[true,true,true,true,false,false,false,false,false,false,false,false,false,false,false,false,false] rfl rfl (by kernel_rfl) (fun _ _ _ h => h) (Or.inl ⟨by rfl,?_⟩) ?_ ?_
        rotate_left
        ·intro w'
         go_simp
         with_reducible rfl
        rotate_left
        ·simp only [Act.put,List.setIfInBounds_toArray,List.set_cons_zero,List.set_cons_succ,i64_w,i32_w]
         rfl
        refine pure_ (i:=4) (N:=some 132) (v:=undef) (a':=?_) #[true,true,true,true,true,false,false,false,false,false,false,false,false,false,false,false,false] rfl rfl (by kernel_rfl) (fun _ _ _ h => h) (Or.inr ⟨by rfl,rfl⟩) ?_ ?_
        rotate_left
        ·simp only [Act.put,List.setIfInBounds_toArray,List.set_cons_zero,List.set_cons_succ,i64_w,i32_w]
         rfl
        refine pure_ (i:=5) (N:=some 133) (v:=undef) (a':=?_) #[true,true,true,true,true,true,false,false,false,false,false,false,false,false,false,false,false] rfl rfl (by kernel_rfl) (fun _ _ _ h => h) (Or.inr ⟨by rfl,rfl⟩) ?_ ?_
        rotate_left
        ·simp only [Act.put,List.setIfInBounds_toArray,List.set_cons_zero,List.set_cons_succ,i64_w,i32_w]
         rfl
        refine pure_ (i:=6) (N:=some 134) (v:=undef) (a':=?_) #[true,true,true,true,true,true,true,false,false,false,false,false,false,false,false,false,false] rfl rfl (by kernel_rfl) (fun _ _ _ h => h) (Or.inr ⟨by rfl,rfl⟩) ?_ ?_
        rotate_left
        ·simp only [Act.put,List.setIfInBounds_toArray,List.set_cons_zero,List.set_cons_succ,i64_w,i32_w]
         rfl
        refine pure_ (i:=7) (N:=some 135) (v:=undef) (a':=?_) #[true,true,true,true,true,true,true,true,false,false,false,false,false,false,false,false,false] rfl rfl (by kernel_rfl) (fun _ _ _ h => h) (Or.inr ⟨by rfl,rfl⟩) ?_ ?_
        rotate_left
        ·simp only [Act.put,List.setIfInBounds_toArray,List.set_cons_zero,List.set_cons_succ,i64_w,i32_w]
         rfl
        refine pure_ (i:=8) (N:=some 136) (v:=undef) (a':=?_) #[true,true,true,true,true,true,true,true,true,false,false,false,false,false,false,false,false] rfl rfl (by kernel_rfl) (fun _ _ _ h => h) (Or.inr ⟨by rfl,rfl⟩) ?_ ?_
        rotate_left
        ·simp only [Act.put,List.setIfInBounds_toArray,List.set_cons_zero,List.set_cons_succ,i64_w,i32_w]
         rfl
        refine pure_ (i:=9) (N:=some 137) (v:=undef) (a':=?_) #[true,true,true,true,true,true,true,true,true,true,false,false,false,false,false,false,false] rfl rfl (by kernel_rfl) (fun _ _ _ h => h) (Or.inr ⟨by rfl,rfl⟩) ?_ ?_
        rotate_left
        ·simp only [Act.put,List.setIfInBounds_toArray,List.set_cons_zero,List.set_cons_succ,i64_w,i32_w]
         rfl
        refine pure_ (i:=10) (N:=some 138) (v:=undef) (a':=?_) #[true,true,true,true,true,true,true,true,true,true,true,false,false,false,false,false,false] rfl rfl (by kernel_rfl) (fun _ _ _ h => h) (Or.inr ⟨by rfl,rfl⟩) ?_ ?_
        rotate_left
        ·simp only [Act.put,List.setIfInBounds_toArray,List.set_cons_zero,List.set_cons_succ,i64_w,i32_w]
         rfl
        refine pure_ (i:=11) (N:=some 139) (v:=undef) (a':=?_) #[true,true,true,true,true,true,true,true,true,true,true,true,false,false,false,false,false] rfl rfl (by kernel_rfl) (fun _ _ _ h => h) (Or.inr ⟨by rfl,rfl⟩) ?_ ?_
        rotate_left
        ·simp only [Act.put,List.setIfInBounds_toArray,List.set_cons_zero,List.set_cons_succ,i64_w,i32_w]
         rfl
        refine pure_ (i:=12) (N:=some 140) (v:=undef) (a':=?_) #[true,true,true,true,true,true,true,true,true,true,true,true,true,false,false,false,false] rfl rfl (by kernel_rfl) (fun _ _ _ h => h) (Or.inr ⟨by rfl,rfl⟩) ?_ ?_
        rotate_left
        ·simp only [Act.put,List.setIfInBounds_toArray,List.set_cons_zero,List.set_cons_succ,i64_w,i32_w]
         rfl
        refine pure_ (i:=13) (N:=some 141) (v:=undef) (a':=?_) #[true,true,true,true,true,true,true,true,true,true,true,true,true,true,false,false,false] rfl rfl (by kernel_rfl) (fun _ _ _ h => h) (Or.inr ⟨by rfl,rfl⟩) ?_ ?_
        rotate_left
        ·simp only [Act.put,List.setIfInBounds_toArray,List.set_cons_zero,List.set_cons_succ,i64_w,i32_w]
         rfl
        refine pure_ (i:=14) (N:=some 142) (v:=undef) (a':=?_) #[true,true,true,true,true,true,true,true,true,true,true,true,true,true,true,false,false] rfl rfl (by kernel_rfl) (fun _ _ _ h => h) (Or.inr ⟨by rfl,rfl⟩) ?_ ?_
        rotate_left
        ·simp only [Act.put,List.setIfInBounds_toArray,List.set_cons_zero,List.set_cons_succ,i64_w,i32_w]
         rfl
        refine pure_ (i:=15) (N:=some 143) (v:=undef) (a':=?_) #[true,true,true,true,true,true,true,true,true,true,true,true,true,true,true,true,false] rfl rfl (by kernel_rfl) (fun _ _ _ h => h) (Or.inr ⟨by rfl,rfl⟩) ?_ ?_
        rotate_left
        ·simp only [Act.put,List.setIfInBounds_toArray,List.set_cons_zero,List.set_cons_succ,i64_w,i32_w]
         rfl
        refine pure_ (i:=16) (N:=some 144) (v:=?_) (a':=?_) #[true,true,true,true,true,true,true,true,true,true,true,true,true,true,true,true,true] rfl rfl (by kernel_rfl) (fun _ _ _ h => h) (Or.inl ⟨by rfl,?_⟩) ?_ ?_
        rotate_left
        ·intro w'
         go_simp
         with_reducible rfl
        rotate_left
        ·simp only [Act.put,List.setIfInBounds_toArray,List.set_cons_zero,List.set_cons_succ,i64_w,i32_w]
         rfl
        refine done_ (by kernel_rfl) ?_
        go_wp2
        go_roundg k5
        case measure => have:=HK4.out;have:=HK3.out;omega
        case rel => exact ⟨_,_,rfl,H',⟨by have:=HK4.out;have:=HK3.out;omega⟩,HC6⟩
       ·rw [if_neg d5] at H
        by_cases d2 : 0 ≤ j
        rotate_left
        ·rw [if_neg d2] at H;exact absurd H (by simp)
        rw [if_pos d2,← hnl,if_pos d1] at H
        by_cases d4 : 0 ≤ i
        rotate_left
        ·rw [if_neg d4] at H;exact absurd H (by simp)
        have d3:=HI3.out
        rw [if_pos d4,if_pos d3] at H
        obtain ⟨t,B1,H⟩:=Option.bind_eq_some_iff.mp H
        obtain ⟨xj,hxj⟩ : ∃ xj,xj = rd_T58 out j:=⟨_,rfl⟩
        obtain ⟨xi,hxi⟩ : ∃ xi,xi = rd_T58 out i:=⟨_,rfl⟩
        rw [← hxj,← hxi] at B1
        have B:=Aside0.mk B1
        have HXI:=Aside0.mk hxi
        have HXJ:=Aside0.mk hxj
        have HH:=Aside0.mk H
        have HNL:=Aside0.mk hnl
        have HD3:=Aside0.mk d3
        have q9 : (i == j) = false:=by simpa using d5
        have q5 : decide (j < (n : Int)) = true:=decide_eq_true d1
        have q6 : decide (0 ≤ j) = true:=decide_eq_true d2
        have q7 : decide (i < (n : Int)) = true:=decide_eq_true d3
        have q8 : decide (0 ≤ i) = true:=decide_eq_true d4
        have p5:=eq_true d1
        have p6:=eq_true d2
        have p7:=eq_true d3
        have p8:=eq_true d4
        clear H B1 d1 d2 d3 d4 d5 hnl hxj hxi
        go_upto_region 49 with (fail)
        have HC6:=Aside0.mk (HC.out.step (below_drew (Below.refl _ _)))
        clear HC
        obtain ⟨go,AJ,cJ,eA,hbg,_,hj1,_,hlJ,hiJ⟩:=HC6.out.at j (of_eq_true p6) (of_eq_true p5)
        subst eA
        rw [← HXJ.out] at hj1 hlJ hiJ
        obtain ⟨go',AI,cI,eA,_,_,hi1,hi2,hlI,hiI⟩:=HC6.out.at i (of_eq_true p8) (of_eq_true p7)
        injection eA with eA
        injection eA with eA _ _
        subst eA
        rw [← HXI.out] at hi1 hi2 hlI hiI
        have HBG:=Aside0.mk hbg
        have HJ1:=Aside0.mk hj1
        have HLJ:=Aside0.mk hlJ
        have HCJ:=Aside0.mk hiJ
        have HI1:=Aside0.mk hi1
        have HI2:=Aside0.mk hi2
        have HLI:=Aside0.mk hlI
        have HCI:=Aside0.mk hiI
        clear hbg hj1 hlJ hiJ hi1 hi2 hlI hiI
        cases t with
        | false =>
         refine start_ (n:=17) (S:=fun w' => w'.cell? ⟨go,j.toNat * 3 + 1,none⟩ = some (.slice AJ xj.f1.length cJ) ∧ w'.cell? ⟨go,i.toNat * 3 + 1,none⟩ = some (.slice AI xi.f1.length cI)) (ds:=[]) #[false,false,false,false,false,false,false,false,false,false,false,false,false,false,false,false,false] (by kernel_rfl) rfl rfl ?_ (fun hHeld => ?_)
         ·exact ⟨HJ1.out,HI1.out⟩
         generalize hw6 : World.drew wr = w6 at HC6 HJ1 HI1 HI2 HCJ HCI hHeld ⊢
         clear hw6
         refine pure_ (i:=0) (N:=some 128) (v:=?_) (a':=?_) #[true,false,false,false,false,false,false,false,false,false,false,false,false,false,false,false,false] rfl rfl (by kernel_rfl) (fun _ _ _ h => h) (Or.inl ⟨by rfl,?_⟩) ?_ ?_
         rotate_left
         ·intro w'
          go_simp
          with_reducible rfl
         rotate_left
         ·simp only [Act.put,List.setIfInBounds_toArray,List.set_cons_zero,List.set_cons_succ,i64_w,i32_w]
          rfl
         refine pure_ (i:=1) (N:=some 129) (v:=?_) (a':=?_) #[true,true,false,false,false,false,false,false,false,false,false,false,false,false,false,false,false] rfl rfl (by kernel_rfl) (fun _ _ _ h => h) (Or.inl ⟨by rfl,?_⟩) ?_ ?_
         rotate_left
         ·intro w'
          go_simp
          with_reducible rfl
         rotate_left
         ·simp only [Act.put,List.setIfInBounds_toArray,List.set_cons_zero,List.set_cons_succ,i64_w,i32_w]
          rfl
         refine pure_ (i:=2) (N:=some 130) (v:=?_) (a':=?_) #[true,true,true,false,false,false,false,false,false,false,false,false,false,false,false,false,false] rfl rfl (by kernel_rfl) (fun _ _ _ h => h) (Or.inl ⟨by rfl,?_⟩) ?_ ?_
         rotate_left
         ·intro w'
          go_simp
          with_reducible rfl
         rotate_left
         ·simp only [Act.put,List.setIfInBounds_toArray,List.set_cons_zero,List.set_cons_succ,i64_w,i32_w]
          rfl
         refine pure_ (i:=3) (N:=some 131) (v:=?_) (a':=?_) #[true,true,true,true,false,false,false,false,false,false,false,false,false,false,false,false,false] rfl rfl (by kernel_rfl) (fun _ _ _ h => h) (Or.inl ⟨by rfl,?_⟩) ?_ ?_
         rotate_left
         ·intro w'
          go_simp
          with_reducible rfl
         rotate_left
         ·simp only [Act.put,List.setIfInBounds_toArray,List.set_cons_zero,List.set_cons_succ,i64_w,i32_w]
          rfl
         refine pure_ (i:=4) (N:=some 132) (v:=?_) (a':=?_) #[true,true,true,true,true,false,false,false,false,false,false,false,false,false,false,false,false] rfl rfl (by kernel_rfl) (fun _ _ _ h => h) (Or.inl ⟨by rfl,?_⟩) ?_ ?_
         rotate_left
         ·intro w'
          go_simp
          with_reducible rfl
         rotate_left
         ·simp only [Act.put,List.setIfInBounds_toArray,List.set_cons_zero,List.set_cons_succ,i64_w,i32_w]
          rfl
         refine pure_ (i:=5) (N:=some 133) (v:=?_) (a':=?_) #[true,true,true,true,true,true,false,false,false,false,false,false,false,false,false,false,false] rfl rfl (by kernel_rfl) (fun _ _ _ h => h) (Or.inl ⟨by rfl,?_⟩) ?_ ?_
         rotate_left
         ·intro w'
          go_simp
          with_reducible rfl
         rotate_left
         ·simp only [Act.put,List.setIfInBounds_toArray,List.set_cons_zero,List.set_cons_succ,i64_w,i32_w]
          rfl
         refine pure_ (i:=6) (N:=some 134) (v:=?_) (a':=?_) #[true,true,true,true,true,true,true,false,false,false,false,false,false,false,false,false,false] rfl rfl (by kernel_rfl) (fun _ _ _ h => h) (Or.inl ⟨by rfl,?_⟩) ?_ ?_
         rotate_left
         ·intro w'
          go_simp
          with_reducible rfl
         rotate_left
         ·simp only [Act.put,List.setIfInBounds_toArray,List.set_cons_zero,List.set_cons_succ,i64_w,i32_w]
          rfl
         refine pure_ (i:=7) (N:=some 135) (v:=?_) (a':=?_) #[true,true,true,true,true,true,true,true,false,false,false,false,false,false,false,false,false] rfl rfl (by kernel_rfl) (fun _ _ _ h => h) (Or.inl ⟨by rfl,?_⟩) ?_ ?_
         rotate_left
         ·intro w'
          go_simp
          with_reducible rfl
         rotate_left
         ·simp only [Act.put,List.setIfInBounds_toArray,List.set_cons_zero,List.set_cons_succ,i64_w,i32_w]
          rfl
         refine pure_ (i:=9) (N:=some 137) (v:=?_) (a':=?_) #[true,true,true,true,true,true,true,true,false,true,false,false,false,false,false,false,false] rfl rfl (by kernel_rfl) (fun _ _ _ h => h) (Or.inl ⟨by rfl,?_⟩) ?_ ?_
         rotate_left
         ·intro w'
          go_simp
          with_reducible rfl
         rotate_left
         ·simp only [Act.put,List.setIfInBounds_toArray,List.set_cons_zero,List.set_cons_succ,i64_w,i32_w]
          rfl
         refine pure_ (i:=10) (N:=some 138) (v:=?_) (a':=?_) #[true,true,true,true,true,true,true,true,false,true,true,false,false,false,false,false,false] rfl rfl (by kernel_rfl) (fun _ _ _ h => h) (Or.inl ⟨by rfl,?_⟩) ?_ ?_
         rotate_left
         ·intro w'
          go_simp
          with_reducible rfl
         rotate_left
         ·simp only [Act.put,List.setIfInBounds_toArray,List.set_cons_zero,List.set_cons_succ,i64_w,i32_w]
          rfl
         refine pure_ (i:=11) (N:=some 139) (v:=?_) (a':=?_) #[true,true,true,true,true,true,true,true,false,true,true,true,false,false,false,false,false] rfl rfl (by kernel_rfl) (fun _ _ _ h => h) (Or.inl ⟨by rfl,?_⟩) ?_ ?_
         rotate_left
         ·intro w'
          go_simp
          with_reducible rfl
         rotate_left
         ·simp only [Act.put,List.setIfInBounds_toArray,List.set_cons_zero,List.set_cons_succ,i64_w,i32_w]
          rfl
         refine pure_ (i:=12) (N:=some 140) (v:=?_) (a':=?_) #[true,true,true,true,true,true,true,true,false,true,true,true,true,false,false,false,false] rfl rfl (by kernel_rfl) (fun _ _ _ h => h) (Or.inl ⟨by rfl,?_⟩) ?_ ?_
         rotate_left
         ·intro w'
          go_simp
          with_reducible rfl
         rotate_left
         ·simp only [Act.put,List.setIfInBounds_toArray,List.set_cons_zero,List.set_cons_succ,i64_w,i32_w]
          rfl
         refine take_ (i:=8) (N:=some 136) (v:=?_) (a':=?_) #[true,true,true,true,true,true,true,true,true,true,true,true,true,false,false,false,false] rfl rfl (by kernel_rfl) (fun _ _ _ h => h) (Or.inl ⟨by rfl,?_⟩) hHeld ?_ ?_
         rotate_left
         ·rintro w' ⟨s0,s1⟩
          go_simp
          with_reducible rfl
         rotate_left
         ·simp only [Act.put,List.setIfInBounds_toArray,List.set_cons_zero,List.set_cons_succ,i64_w,i32_w]
          rfl
         refine take_ (i:=13) (N:=some 141) (v:=?_) (a':=?_) #[true,true,true,true,true,true,true,true,true,true,true,true,true,true,false,false,false] rfl rfl (by kernel_rfl) (fun _ _ _ h => h) (Or.inl ⟨by rfl,?_⟩) hHeld ?_ ?_
         rotate_left
         ·rintro w' ⟨s0,s1⟩
          go_simp
          with_reducible rfl
         rotate_left
         ·simp only [Act.put,List.setIfInBounds_toArray,List.set_cons_zero,List.set_cons_succ,i64_w,i32_w]
          rfl
         refine one_ (i:=14) (N:=some 142) #[true,true,true,true,true,true,true,true,true,true,true,true,true,true,true,false,false] rfl rfl (by kernel_rfl) (by decide) (fun K hK => ?_)
         refine goes_ Try.func75 (by kernel_rfl) rfl #[.slice AJ xj.f1.length cJ,.slice AI xi.f1.length cI] (by rfl) rfl rfl (by simp only [List.map_toArray,List.map_cons,List.map_nil];rfl) ?_
         with_reducible refine (spec_l8Has.calls k4 AJ cJ xj.f1 AI cI xi.f1 false w6 HCJ.out HLJ.out HCI.out HLI.out B.out).mono ?_
         rintro e w9 ⟨rfl,⟨nd,hw9⟩⟩
         refine ⟨_,rfl,?_⟩
         have HB9:=Aside0.mk (show Below w6.heap.size w6 w9 by rw [hw9];exact pw_below_drewN (Below.refl _ _) nd)
         have HC9:=Aside0.mk (HC6.out.step HB9.out)
         have HX9:=Aside0.mk (pw_cell_below HB9.out HJ1.out)
         have HY9:=Aside0.mk (pw_cell_below HB9.out HI1.out)
         have HZ9:=Aside0.mk (pw_cell_below HB9.out HI2.out)
         clear hw9
         refine hK.out _ _ ?_ (fun hHeld => ?_)
         ·exact ⟨HX9.out,HY9.out⟩
         clear hK K
         refine norm_ (a':=?_) ?_ ?_
         rotate_left
         ·show Act.put _ (some 142) _ = _
          simp only [Act.put,List.setIfInBounds_toArray,List.set_cons_zero,List.set_cons_succ,i64_w,i32_w]
          rfl
         refine pure_ (i:=15) (N:=some 143) (v:=?_) (a':=?_) #[true,true,true,true,true,true,true,true,true,true,true,true,true,true,true,true,false] rfl rfl (by kernel_rfl) (fun _ _ _ h => h) (Or.inl ⟨by rfl,?_⟩) ?_ ?_
         rotate_left
         ·intro w'
          go_simp
          with_reducible rfl
         rotate_left
         ·simp only [Act.put,List.setIfInBounds_toArray,List.set_cons_zero,List.set_cons_succ,i64_w,i32_w]
          rfl
         refine pure_ (i:=16) (N:=some 144) (v:=?_) (a':=?_) #[true,true,true,true,true,true,true,true,true,true,true,true,true,true,true,true,true] rfl rfl (by kernel_rfl) (fun _ _ _ h => h) (Or.inl ⟨by rfl,?_⟩) ?_ ?_
         rotate_left
         ·intro w'
          go_simp
          with_reducible rfl
         rotate_left
         ·simp only [Act.put,List.setIfInBounds_toArray,List.set_cons_zero,List.set_cons_succ,i64_w,i32_w]
          rfl
         refine done_ (by kernel_rfl) ?_
         have H:=HH.out
         cases k4 with
         | zero => exact absurd H (by simp [spec_l8Loops.j8])
         | succ k5 =>
         simp only [spec_l8Loops.j8,Bool.not_true,Bool.not_false] at H
         skip
         rw [if_pos (by trivial)] at H
         have H':=Aside0.mk H
         clear H
         go_wp2
         go_roundg k5
         case measure => have:=HK4.out;have:=HK3.out;omega
         case rel => exact ⟨_,_,rfl,H',⟨by have:=HK4.out;have:=HK3.out;omega⟩,HC9⟩
        | true =>
         refine start_ (n:=17) (S:=fun w' => w'.cell? ⟨go,j.toNat * 3 + 1,none⟩ = some (.slice AJ xj.f1.length cJ) ∧ w'.cell? ⟨go,i.toNat * 3 + 1,none⟩ = some (.slice AI xi.f1.length cI)) (ds:=[]) #[false,false,false,false,false,false,false,false,false,false,false,false,false,false,false,false,false] (by kernel_rfl) rfl rfl ?_ (fun hHeld => ?_)
         ·exact ⟨HJ1.out,HI1.out⟩
         generalize hw6 : World.drew wr = w6 at HC6 HJ1 HI1 HI2 HCJ HCI hHeld ⊢
         clear hw6
         refine pure_ (i:=0) (N:=some 128) (v:=?_) (a':=?_) #[true,false,false,false,false,false,false,false,false,false,false,false,false,false,false,false,false] rfl rfl (by kernel_rfl) (fun _ _ _ h => h) (Or.inl ⟨by rfl,?_⟩) ?_ ?_
         rotate_left
         ·intro w'
          go_simp
          with_reducible rfl
         rotate_left
         ·simp only [Act.put,List.setIfInBounds_toArray,List.set_cons_zero,List.set_cons_succ,i64_w,i32_w]
          rfl
         refine pure_ (i:=1) (N:=some 129) (v:=?_) (a':=?_) #[true,true,false,false,false,false,false,false,false,false,false,false,false,false,false,false,false] rfl rfl (by kernel_rfl) (fun _ _ _ h => h) (Or.inl ⟨by rfl,?_⟩) ?_ ?_
         rotate_left
         ·intro w'
          go_simp
          with_reducible rfl
         rotate_left
         ·simp only [Act.put,List.setIfInBounds_toArray,List.set_cons_zero,List.set_cons_succ,i64_w,i32_w]
          rfl
         refine pure_ (i:=2) (N:=some 130) (v:=?_) (a':=?_) #[true,true,true,false,false,false,false,false,false,false,false,false,false,false,false,false,false] rfl rfl (by kernel_rfl) (fun _ _ _ h => h) (Or.inl ⟨by rfl,?_⟩) ?_ ?_
         rotate_left
         ·intro w'
          go_simp
          with_reducible rfl
         rotate_left
         ·simp only [Act.put,List.setIfInBounds_toArray,List.set_cons_zero,List.set_cons_succ,i64_w,i32_w]
          rfl
         refine pure_ (i:=3) (N:=some 131) (v:=?_) (a':=?_) #[true,true,true,true,false,false,false,false,false,false,false,false,false,false,false,false,false] rfl rfl (by kernel_rfl) (fun _ _ _ h => h) (Or.inl ⟨by rfl,?_⟩) ?_ ?_
         rotate_left
         ·intro w'
          go_simp
          with_reducible rfl
         rotate_left
         ·simp only [Act.put,List.setIfInBounds_toArray,List.set_cons_zero,List.set_cons_succ,i64_w,i32_w]
          rfl
         refine pure_ (i:=4) (N:=some 132) (v:=?_) (a':=?_) #[true,true,true,true,true,false,false,false,false,false,false,false,false,false,false,false,false] rfl rfl (by kernel_rfl) (fun _ _ _ h => h) (Or.inl ⟨by rfl,?_⟩) ?_ ?_
         rotate_left
         ·intro w'
          go_simp
          with_reducible rfl
         rotate_left
         ·simp only [Act.put,List.setIfInBounds_toArray,List.set_cons_zero,List.set_cons_succ,i64_w,i32_w]
          rfl
         refine pure_ (i:=5) (N:=some 133) (v:=?_) (a':=?_) #[true,true,true,true,true,true,false,false,false,false,false,false,false,false,false,false,false] rfl rfl (by kernel_rfl) (fun _ _ _ h => h) (Or.inl ⟨by rfl,?_⟩) ?_ ?_
         rotate_left
         ·intro w'
          go_simp
          with_reducible rfl
         rotate_left
         ·simp only [Act.put,List.setIfInBounds_toArray,List.set_cons_zero,List.set_cons_succ,i64_w,i32_w]
          rfl
         refine pure_ (i:=6) (N:=some 134) (v:=?_) (a':=?_) #[true,true,true,true,true,true,true,false,false,false,false,false,false,false,false,false,false] rfl rfl (by kernel_rfl) (fun _ _ _ h => h) (Or.inl ⟨by rfl,?_⟩) ?_ ?_
         rotate_left
         ·intro w'
          go_simp
          with_reducible rfl
         rotate_left
         ·simp only [Act.put,List.setIfInBounds_toArray,List.set_cons_zero,List.set_cons_succ,i64_w,i32_w]
          rfl
         refine pure_ (i:=7) (N:=some 135) (v:=?_) (a':=?_) #[true,true,true,true,true,true,true,true,false,false,false,false,false,false,false,false,false] rfl rfl (by kernel_rfl) (fun _ _ _ h => h) (Or.inl ⟨by rfl,?_⟩) ?_ ?_
         rotate_left
         ·intro w'
          go_simp
          with_reducible rfl
         rotate_left
         ·simp only [Act.put,List.setIfInBounds_toArray,List.set_cons_zero,List.set_cons_succ,i64_w,i32_w]
          rfl
         refine pure_ (i:=9) (N:=some 137) (v:=?_) (a':=?_) #[true,true,true,true,true,true,true,true,false,true,false,false,false,false,false,false,false] rfl rfl (by kernel_rfl) (fun _ _ _ h => h) (Or.inl ⟨by rfl,?_⟩) ?_ ?_
         rotate_left
         ·intro w'
          go_simp
          with_reducible rfl
         rotate_left
         ·simp only [Act.put,List.setIfInBounds_toArray,List.set_cons_zero,List.set_cons_succ,i64_w,i32_w]
          rfl
         refine pure_ (i:=10) (N:=some 138) (v:=?_) (a':=?_) #[true,true,true,true,true,true,true,true,false,true,true,false,false,false,false,false,false] rfl rfl (by kernel_rfl) (fun _ _ _ h => h) (Or.inl ⟨by rfl,?_⟩) ?_ ?_
         rotate_left
         ·intro w'
          go_simp
          with_reducible rfl
         rotate_left
         ·simp only [Act.put,List.setIfInBounds_toArray,List.set_cons_zero,List.set_cons_succ,i64_w,i32_w]
          rfl
         refine pure_ (i:=11) (N:=some 139) (v:=?_) (a':=?_) #[true,true,true,true,true,true,true,true,false,true,true,true,false,false,false,false,false] rfl rfl (by kernel_rfl) (fun _ _ _ h => h) (Or.inl ⟨by rfl,?_⟩) ?_ ?_
         rotate_left
         ·intro w'
          go_simp
          with_reducible rfl
         rotate_left
         ·simp only [Act.put,List.setIfInBounds_toArray,List.set_cons_zero,List.set_cons_succ,i64_w,i32_w]
          rfl
         refine pure_ (i:=12) (N:=some 140) (v:=?_) (a':=?_) #[true,true,true,true,true,true,true,true,false,true,true,true,true,false,false,false,false] rfl rfl (by kernel_rfl) (fun _ _ _ h => h) (Or.inl ⟨by rfl,?_⟩) ?_ ?_
         rotate_left
         ·intro w'
          go_simp
          with_reducible rfl
         rotate_left
         ·simp only [Act.put,List.setIfInBounds_toArray,List.set_cons_zero,List.set_cons_succ,i64_w,i32_w]
          rfl
         refine take_ (i:=8) (N:=some 136) (v:=?_) (a':=?_) #[true,true,true,true,true,true,true,true,true,true,true,true,true,false,false,false,false] rfl rfl (by kernel_rfl) (fun _ _ _ h => h) (Or.inl ⟨by rfl,?_⟩) hHeld ?_ ?_
         rotate_left
         ·rintro w' ⟨s0,s1⟩
          go_simp
          with_reducible rfl
         rotate_left
         ·simp only [Act.put,List.setIfInBounds_toArray,List.set_cons_zero,List.set_cons_succ,i64_w,i32_w]
          rfl
         refine take_ (i:=13) (N:=some 141) (v:=?_) (a':=?_) #[true,true,true,true,true,true,true,true,true,true,true,true,true,true,false,false,false] rfl rfl (by kernel_rfl) (fun _ _ _ h => h) (Or.inl ⟨by rfl,?_⟩) hHeld ?_ ?_
         rotate_left
         ·rintro w' ⟨s0,s1⟩
          go_simp
          with_reducible rfl
         rotate_left
         ·simp only [Act.put,List.setIfInBounds_toArray,List.set_cons_zero,List.set_cons_succ,i64_w,i32_w]
          rfl
         refine one_ (i:=14) (N:=some 142) #[true,true,true,true,true,true,true,true,true,true,true,true,true,true,true,false,false] rfl rfl (by kernel_rfl) (by decide) (fun K hK => ?_)
         refine goes_ Try.func75 (by kernel_rfl) rfl #[.slice AJ xj.f1.length cJ,.slice AI xi.f1.length cI] (by rfl) rfl rfl (by simp only [List.map_toArray,List.map_cons,List.map_nil];rfl) ?_
         with_reducible refine (spec_l8Has.calls k4 AJ cJ xj.f1 AI cI xi.f1 true w6 HCJ.out HLJ.out HCI.out HLI.out B.out).mono ?_
         rintro e w9 ⟨rfl,⟨nd,hw9⟩⟩
         refine ⟨_,rfl,?_⟩
         have HB9:=Aside0.mk (show Below w6.heap.size w6 w9 by rw [hw9];exact pw_below_drewN (Below.refl _ _) nd)
         have HC9:=Aside0.mk (HC6.out.step HB9.out)
         have HX9:=Aside0.mk (pw_cell_below HB9.out HJ1.out)
         have HY9:=Aside0.mk (pw_cell_below HB9.out HI1.out)
         have HZ9:=Aside0.mk (pw_cell_below HB9.out HI2.out)
         clear hw9
         refine hK.out _ _ ?_ (fun hHeld => ?_)
         ·exact ⟨HX9.out,HY9.out⟩
         clear hK K
         refine norm_ (a':=?_) ?_ ?_
         rotate_left
         ·show Act.put _ (some 142) _ = _
          simp only [Act.put,List.setIfInBounds_toArray,List.set_cons_zero,List.set_cons_succ,i64_w,i32_w]
          rfl
         refine pure_ (i:=15) (N:=some 143) (v:=?_) (a':=?_) #[true,true,true,true,true,true,true,true,true,true,true,true,true,true,true,true,false] rfl rfl (by kernel_rfl) (fun _ _ _ h => h) (Or.inl ⟨by rfl,?_⟩) ?_ ?_
         rotate_left
         ·intro w'
          go_simp
          with_reducible rfl
         rotate_left
         ·simp only [Act.put,List.setIfInBounds_toArray,List.set_cons_zero,List.set_cons_succ,i64_w,i32_w]
          rfl
         refine pure_ (i:=16) (N:=some 144) (v:=?_) (a':=?_) #[true,true,true,true,true,true,true,true,true,true,true,true,true,true,true,true,true] rfl rfl (by kernel_rfl) (fun _ _ _ h => h) (Or.inl ⟨by rfl,?_⟩) ?_ ?_
         rotate_left
         ·intro w'
          go_simp
          with_reducible rfl
         rotate_left
         ·simp only [Act.put,List.setIfInBounds_toArray,List.set_cons_zero,List.set_cons_succ,i64_w,i32_w]
          rfl
         refine done_ (by kernel_rfl) ?_
         have H:=HH.out
         cases k4 with
         | zero => exact absurd H (by simp [spec_l8Loops.j8])
         | succ k5 =>
         simp only [spec_l8Loops.j8,Bool.not_true,Bool.not_false] at H
         rw [← HXI.out,← HXJ.out,← HNL.out] at H
         rw [if_neg (by simp),if_pos (of_eq_true p8),if_pos (of_eq_true p7)] at H
         by_cases e1 : xi.f2 < 0
         ·rw [if_pos e1] at H
          have H':=Aside0.mk H
          have e2 : decide (xi.f2 < 0) = true:=decide_eq_true e1
          clear H e1
          have hz2:=HZ9.out
          go_upto_region 51 with (fail)
          clear hz2
          have HC10:=Aside0.mk (HC9.out.step (below_drew (Below.refl _ _)))
          have HX10:=Aside0.mk (pw_cell_below (below_drew (Below.refl _ _)) HX9.out)
          have HZ10:=Aside0.mk (pw_cell_below (below_drew (Below.refl _ _)) HZ9.out)
          clear HC9 HX9 HY9 HZ9
          refine start_ (n:=17) (S:=fun w' => True) (ds:=[]) #[false,false,false,false,false,false,false,false,false,false,false,false,false,false,false,false,false] (by kernel_rfl) rfl rfl ?_ (fun hHeld => ?_)
          ·exact trivial
          generalize hw10 : World.drew w9 = w10 at HC10 HX10 HZ10 hHeld ⊢
          clear hw10
          refine pure_ (i:=0) (N:=some 150) (v:=?_) (a':=?_) #[true,false,false,false,false,false,false,false,false,false,false,false,false,false,false,false,false] rfl rfl (by kernel_rfl) (fun _ _ _ h => h) (Or.inl ⟨by rfl,?_⟩) ?_ ?_
          rotate_left
          ·intro w'
           go_simp
           with_reducible rfl
          rotate_left
          ·simp only [Act.put,List.setIfInBounds_toArray,List.set_cons_zero,List.set_cons_succ,i64_w,i32_w]
           rfl
          refine pure_ (i:=1) (N:=some 151) (v:=?_) (a':=?_) #[true,true,false,false,false,false,false,false,false,false,false,false,false,false,false,false,false] rfl rfl (by kernel_rfl) (fun _ _ _ h => h) (Or.inl ⟨by rfl,?_⟩) ?_ ?_
          rotate_left
          ·intro w'
           go_simp
           with_reducible rfl
          rotate_left
          ·simp only [Act.put,List.setIfInBounds_toArray,List.set_cons_zero,List.set_cons_succ,i64_w,i32_w]
           rfl
          refine pure_ (i:=2) (N:=some 152) (v:=?_) (a':=?_) #[true,true,true,false,false,false,false,false,false,false,false,false,false,false,false,false,false] rfl rfl (by kernel_rfl) (fun _ _ _ h => h) (Or.inl ⟨by rfl,?_⟩) ?_ ?_
          rotate_left
          ·intro w'
           go_simp
           with_reducible rfl
          rotate_left
          ·simp only [Act.put,List.setIfInBounds_toArray,List.set_cons_zero,List.set_cons_succ,i64_w,i32_w]
           rfl
          refine pure_ (i:=3) (N:=some 153) (v:=undef) (a':=?_) #[true,true,true,true,false,false,false,false,false,false,false,false,false,false,false,false,false] rfl rfl (by kernel_rfl) (fun _ _ _ h => h) (Or.inr ⟨by rfl,rfl⟩) ?_ ?_
          rotate_left
          ·simp only [Act.put,List.setIfInBounds_toArray,List.set_cons_zero,List.set_cons_succ,i64_w,i32_w]
           rfl
          refine pure_ (i:=4) (N:=some 154) (v:=undef) (a':=?_) #[true,true,true,true,true,false,false,false,false,false,false,false,false,false,false,false,false] rfl rfl (by kernel_rfl) (fun _ _ _ h => h) (Or.inr ⟨by rfl,rfl⟩) ?_ ?_
          rotate_left
          ·simp only [Act.put,List.setIfInBounds_toArray,List.set_cons_zero,List.set_cons_succ,i64_w,i32_w]
           rfl
          refine pure_ (i:=5) (N:=some 155) (v:=undef) (a':=?_) #[true,true,true,true,true,true,false,false,false,false,false,false,false,false,false,false,false] rfl rfl (by kernel_rfl) (fun _ _ _ h => h) (Or.inr ⟨by rfl,rfl⟩) ?_ ?_
          rotate_left
          ·simp only [Act.put,List.setIfInBounds_toArray,List.set_cons_zero,List.set_cons_succ,i64_w,i32_w]
           rfl
          refine pure_ (i:=6) (N:=some 156) (v:=undef) (a':=?_) #[true,true,true,true,true,true,true,false,false,false,false,false,false,false,false,false,false] rfl rfl (by kernel_rfl) (fun _ _ _ h => h) (Or.inr ⟨by rfl,rfl⟩) ?_ ?_
          rotate_left
          ·simp only [Act.put,List.setIfInBounds_toArray,List.set_cons_zero,List.set_cons_succ,i64_w,i32_w]
           rfl
          refine pure_ (i:=7) (N:=some 157) (v:=undef) (a':=?_) #[true,true,true,true,true,true,true,true,false,false,false,false,false,false,false,false,false] rfl rfl (by kernel_rfl) (fun _ _ _ h => h) (Or.inr ⟨by rfl,rfl⟩) ?_ ?_
          rotate_left
          ·simp only [Act.put,List.setIfInBounds_toArray,List.set_cons_zero,List.set_cons_succ,i64_w,i32_w]
           rfl
          refine pure_ (i:=8) (N:=some 158) (v:=undef) (a':=?_) #[true,true,true,true,true,true,true,true,true,false,false,false,false,false,false,false,false] rfl rfl (by kernel_rfl) (fun _ _ _ h => h) (Or.inr ⟨by rfl,rfl⟩) ?_ ?_
          rotate_left
          ·simp only [Act.put,List.setIfInBounds_toArray,List.set_cons_zero,List.set_cons_succ,i64_w,i32_w]
           rfl
          refine pure_ (i:=9) (N:=some 159) (v:=undef) (a':=?_) #[true,true,true,true,true,true,true,true,true,true,false,false,false,false,false,false,false] rfl rfl (by kernel_rfl) (fun _ _ _ h => h) (Or.inr ⟨by rfl,rfl⟩) ?_ ?_
          rotate_left
          ·simp only [Act.put,List.setIfInBounds_toArray,List.set_cons_zero,List.set_cons_succ,i64_w,i32_w]
           rfl
          refine pure_ (i:=10) (N:=some 160) (v:=undef) (a':=?_) #[true,true,true,true,true,true,true,true,true,true,true,false,false,false,false,false,false] rfl rfl (by kernel_rfl) (fun _ _ _ h => h) (Or.inr ⟨by rfl,rfl⟩) ?_ ?_
          rotate_left
          ·simp only [Act.put,List.setIfInBounds_toArray,List.set_cons_zero,List.set_cons_succ,i64_w,i32_w]
           rfl
          refine pure_ (i:=11) (N:=some 161) (v:=undef) (a':=?_) #[true,true,true,true,true,true,true,true,true,true,true,true,false,false,false,false,false] rfl rfl (by kernel_rfl) (fun _ _ _ h => h) (Or.inr ⟨by rfl,rfl⟩) ?_ ?_
          rotate_left
          ·simp only [Act.put,List.setIfInBounds_toArray,List.set_cons_zero,List.set_cons_succ,i64_w,i32_w]
           rfl
          refine pure_ (i:=12) (N:=some 162) (v:=undef) (a':=?_) #[true,true,true,true,true,true,true,true,true,true,true,true,true,false,false,false,false] rfl rfl (by kernel_rfl) (fun _ _ _ h => h) (Or.inr ⟨by rfl,rfl⟩) ?_ ?_
          rotate_left
          ·simp only [Act.put,List.setIfInBounds_toArray,List.set_cons_zero,List.set_cons_succ,i64_w,i32_w]
           rfl
          refine pure_ (i:=13) (N:=some 163) (v:=undef) (a':=?_) #[true,true,true,true,true,true,true,true,true,true,true,true,true,true,false,false,false] rfl rfl (by kernel_rfl) (fun _ _ _ h => h) (Or.inr ⟨by rfl,rfl⟩) ?_ ?_
          rotate_left
          ·simp only [Act.put,List.setIfInBounds_toArray,List.set_cons_zero,List.set_cons_succ,i64_w,i32_w]
           rfl
          refine pure_ (i:=14) (N:=some 164) (v:=undef) (a':=?_) #[true,true,true,true,true,true,true,true,true,true,true,true,true,true,true,false,false] rfl rfl (by kernel_rfl) (fun _ _ _ h => h) (Or.inr ⟨by rfl,rfl⟩) ?_ ?_
          rotate_left
          ·simp only [Act.put,List.setIfInBounds_toArray,List.set_cons_zero,List.set_cons_succ,i64_w,i32_w]
           rfl
          refine pure_ (i:=15) (N:=some 165) (v:=undef) (a':=?_) #[true,true,true,true,true,true,true,true,true,true,true,true,true,true,true,true,false] rfl rfl (by kernel_rfl) (fun _ _ _ h => h) (Or.inr ⟨by rfl,rfl⟩) ?_ ?_
          rotate_left
          ·simp only [Act.put,List.setIfInBounds_toArray,List.set_cons_zero,List.set_cons_succ,i64_w,i32_w]
           rfl
          refine pure_ (i:=16) (N:=some 166) (v:=?_) (a':=?_) #[true,true,true,true,true,true,true,true,true,true,true,true,true,true,true,true,true] rfl rfl (by kernel_rfl) (fun _ _ _ h => h) (Or.inl ⟨by rfl,?_⟩) ?_ ?_
          rotate_left
          ·intro w'
           go_simp
           with_reducible rfl
          rotate_left
          ·simp only [Act.put,List.setIfInBounds_toArray,List.set_cons_zero,List.set_cons_succ,i64_w,i32_w]
           rfl
          refine done_ (by kernel_rfl) ?_
          have HPP:=HC10.out.put i j (of_eq_true p8) (of_eq_true p7) HBG.out
          rw [← HXI.out] at HPP
          have HP1:=Aside0.mk HPP.1
          have hfz:=HPP.2
          have hz2:=HZ10.out
          clear HPP
          go_wp2
          go_roundg k5
          case measure => have:=HK4.out;have:=HK3.out;omega
          case rel => exact ⟨_,_,rfl,H',⟨by have:=HK4.out;have:=HK3.out;omega⟩,HP1⟩
         ·rw [if_neg e1,if_pos (of_eq_true p6),if_pos (of_eq_true p5),if_pos (show 0 ≤ xi.f2 by omega)] at H
          have e2 : decide (xi.f2 < 0) = false:=decide_eq_false e1
          by_cases e3 : xi.f2 < (n : Int)
          ·rw [if_pos e3] at H
           obtain ⟨xu,hxu⟩ : ∃ xu,xu = rd_T58 out xi.f2:=⟨_,rfl⟩
           rw [← hxu] at H
           have p9 : (0 ≤ xi.f2) = True:=eq_true (by omega)
           have p10:=eq_true e3
           have q10 : decide (0 ≤ xi.f2) = true:=decide_eq_true (by omega)
           have q11 : decide (xi.f2 < (n : Int)) = true:=decide_eq_true e3
           have HXU:=Aside0.mk hxu
           clear e1 e3 hxu
           by_cases e4 : (xj.f1.length : Int) < (xu.f1.length : Int)
           ·rw [if_pos e4] at H
            have H':=Aside0.mk H
            have e5 : decide ((xj.f1.length : Int) < (xu.f1.length : Int)) = true:=decide_eq_true e4
            have e6 : decide (xj.f1.length < xu.f1.length) = true:=decide_eq_true (by omega)
            clear H e4
            have hz2:=HZ9.out
            go_upto_region 51 with (fail)
            clear hz2
            have HC10:=Aside0.mk (HC9.out.step (below_drew (Below.refl _ _)))
            have HX10:=Aside0.mk (pw_cell_below (below_drew (Below.refl _ _)) HX9.out)
            have HZ10:=Aside0.mk (pw_cell_below (below_drew (Below.refl _ _)) HZ9.out)
            clear HC9 HX9 HY9 HZ9
            obtain ⟨go'',AU,cU,eA,_,_,hu1,_,_,_⟩:=HC10.out.at xi.f2 (of_eq_true p9) (of_eq_true p10)
            injection eA with eA
            injection eA with eA _ _
            subst eA
            rw [← HXU.out] at hu1
            have HU1:=Aside0.mk hu1
            clear hu1
            refine start_ (n:=17) (S:=fun w' => w'.cell? ⟨go,j.toNat * 3 + 1,none⟩ = some (.slice AJ xj.f1.length cJ) ∧ w'.cell? ⟨go,xi.f2.toNat * 3 + 1,none⟩ = some (.slice AU xu.f1.length cU)) (ds:=[]) #[false,false,false,false,false,false,false,false,false,false,false,false,false,false,false,false,false] (by kernel_rfl) rfl rfl ?_ (fun hHeld => ?_)
            ·exact ⟨HX10.out,HU1.out⟩
            generalize hw10 : World.drew w9 = w10 at HC10 HX10 HZ10 HU1 hHeld ⊢
            clear hw10
            refine pure_ (i:=0) (N:=some 150) (v:=?_) (a':=?_) #[true,false,false,false,false,false,false,false,false,false,false,false,false,false,false,false,false] rfl rfl (by kernel_rfl) (fun _ _ _ h => h) (Or.inl ⟨by rfl,?_⟩) ?_ ?_
            rotate_left
            ·intro w'
             go_simp
             with_reducible rfl
            rotate_left
            ·simp only [Act.put,List.setIfInBounds_toArray,List.set_cons_zero,List.set_cons_succ,i64_w,i32_w]
             rfl
            refine pure_ (i:=1) (N:=some 151) (v:=?_) (a':=?_) #[true,true,false,false,false,false,false,false,false,false,false,false,false,false,false,false,false] rfl rfl (by kernel_rfl) (fun _ _ _ h => h) (Or.inl ⟨by rfl,?_⟩) ?_ ?_
            rotate_left
            ·intro w'
             go_simp
             with_reducible rfl
            rotate_left
            ·simp only [Act.put,List.setIfInBounds_toArray,List.set_cons_zero,List.set_cons_succ,i64_w,i32_w]
             rfl
            refine pure_ (i:=2) (N:=some 152) (v:=?_) (a':=?_) #[true,true,true,false,false,false,false,false,false,false,false,false,false,false,false,false,false] rfl rfl (by kernel_rfl) (fun _ _ _ h => h) (Or.inl ⟨by rfl,?_⟩) ?_ ?_
            rotate_left
            ·intro w'
             go_simp
             with_reducible rfl
            rotate_left
            ·simp only [Act.put,List.setIfInBounds_toArray,List.set_cons_zero,List.set_cons_succ,i64_w,i32_w]
             rfl
            refine pure_ (i:=3) (N:=some 153) (v:=?_) (a':=?_) #[true,true,true,true,false,false,false,false,false,false,false,false,false,false,false,false,false] rfl rfl (by kernel_rfl) (fun _ _ _ h => h) (Or.inl ⟨by rfl,?_⟩) ?_ ?_
            rotate_left
            ·intro w'
             go_simp
             with_reducible rfl
            rotate_left
            ·simp only [Act.put,List.setIfInBounds_toArray,List.set_cons_zero,List.set_cons_succ,i64_w,i32_w]
             rfl
            refine pure_ (i:=4) (N:=some 154) (v:=?_) (a':=?_) #[true,true,true,true,true,false,false,false,false,false,false,false,false,false,false,false,false] rfl rfl (by kernel_rfl) (fun _ _ _ h => h) (Or.inl ⟨by rfl,?_⟩) ?_ ?_
            rotate_left
            ·intro w'
             go_simp
             with_reducible rfl
            rotate_left
            ·simp only [Act.put,List.setIfInBounds_toArray,List.set_cons_zero,List.set_cons_succ,i64_w,i32_w]
             rfl
            refine pure_ (i:=5) (N:=some 155) (v:=?_) (a':=?_) #[true,true,true,true,true,true,false,false,false,false,false,false,false,false,false,false,false] rfl rfl (by kernel_rfl) (fun _ _ _ h => h) (Or.inl ⟨by rfl,?_⟩) ?_ ?_
            rotate_left
            ·intro w'
             go_simp
             with_reducible rfl
            rotate_left
            ·simp only [Act.put,List.setIfInBounds_toArray,List.set_cons_zero,List.set_cons_succ,i64_w,i32_w]
             rfl
            refine pure_ (i:=6) (N:=some 156) (v:=?_) (a':=?_) #[true,true,true,true,true,true,true,false,false,false,false,false,false,false,false,false,false] rfl rfl (by kernel_rfl) (fun _ _ _ h => h) (Or.inl ⟨by rfl,?_⟩) ?_ ?_
            rotate_left
            ·intro w'
             go_simp
             with_reducible rfl
            rotate_left
            ·simp only [Act.put,List.setIfInBounds_toArray,List.set_cons_zero,List.set_cons_succ,i64_w,i32_w]
             rfl
            refine pure_ (i:=9) (N:=some 159) (v:=?_) (a':=?_) #[true,true,true,true,true,true,true,false,false,true,false,false,false,false,false,false,false] rfl rfl (by kernel_rfl) (fun _ _ _ h => h) (Or.inl ⟨by rfl,?_⟩) ?_ ?_
            rotate_left
            ·intro w'
             go_simp
             with_reducible rfl
            rotate_left
            ·simp only [Act.put,List.setIfInBounds_toArray,List.set_cons_zero,List.set_cons_succ,i64_w,i32_w]
             rfl
            refine pure_ (i:=10) (N:=some 160) (v:=?_) (a':=?_) #[true,true,true,true,true,true,true,false,false,true,true,false,false,false,false,false,false] rfl rfl (by kernel_rfl) (fun _ _ _ h => h) (Or.inl ⟨by rfl,?_⟩) ?_ ?_
            rotate_left
            ·intro w'
             go_simp
             with_reducible rfl
            rotate_left
            ·simp only [Act.put,List.setIfInBounds_toArray,List.set_cons_zero,List.set_cons_succ,i64_w,i32_w]
             rfl
            refine pure_ (i:=11) (N:=some 161) (v:=?_) (a':=?_) #[true,true,true,true,true,true,true,false,false,true,true,true,false,false,false,false,false] rfl rfl (by kernel_rfl) (fun _ _ _ h => h) (Or.inl ⟨by rfl,?_⟩) ?_ ?_
            rotate_left
            ·intro w'
             go_simp
             with_reducible rfl
            rotate_left
            ·simp only [Act.put,List.setIfInBounds_toArray,List.set_cons_zero,List.set_cons_succ,i64_w,i32_w]
             rfl
            refine pure_ (i:=12) (N:=some 162) (v:=?_) (a':=?_) #[true,true,true,true,true,true,true,false,false,true,true,true,true,false,false,false,false] rfl rfl (by kernel_rfl) (fun _ _ _ h => h) (Or.inl ⟨by rfl,?_⟩) ?_ ?_
            rotate_left
            ·intro w'
             go_simp
             with_reducible rfl
            rotate_left
            ·simp only [Act.put,List.setIfInBounds_toArray,List.set_cons_zero,List.set_cons_succ,i64_w,i32_w]
             rfl
            refine take_ (i:=7) (N:=some 157) (v:=?_) (a':=?_) #[true,true,true,true,true,true,true,true,false,true,true,true,true,false,false,false,false] rfl rfl (by kernel_rfl) (fun _ _ _ h => h) (Or.inl ⟨by rfl,?_⟩) hHeld ?_ ?_
            rotate_left
            ·rintro w' ⟨s0,s1⟩
             go_simp
             with_reducible rfl
            rotate_left
            ·simp only [Act.put,List.setIfInBounds_toArray,List.set_cons_zero,List.set_cons_succ,i64_w,i32_w]
             rfl
            refine pure_ (i:=8) (N:=some 158) (v:=?_) (a':=?_) #[true,true,true,true,true,true,true,true,true,true,true,true,true,false,false,false,false] rfl rfl (by kernel_rfl) (fun _ _ _ h => h) (Or.inl ⟨by rfl,?_⟩) ?_ ?_
            rotate_left
            ·intro w'
             go_simp
             with_reducible rfl
            rotate_left
            ·simp only [Act.put,List.setIfInBounds_toArray,List.set_cons_zero,List.set_cons_succ,i64_w,i32_w]
             rfl
            refine take_ (i:=13) (N:=some 163) (v:=?_) (a':=?_) #[true,true,true,true,true,true,true,true,true,true,true,true,true,true,false,false,false] rfl rfl (by kernel_rfl) (fun _ _ _ h => h) (Or.inl ⟨by rfl,?_⟩) hHeld ?_ ?_
            rotate_left
            ·rintro w' ⟨s0,s1⟩
             go_simp
             with_reducible rfl
            rotate_left
            ·simp only [Act.put,List.setIfInBounds_toArray,List.set_cons_zero,List.set_cons_succ,i64_w,i32_w]
             rfl
            refine pure_ (i:=14) (N:=some 164) (v:=?_) (a':=?_) #[true,true,true,true,true,true,true,true,true,true,true,true,true,true,true,false,false] rfl rfl (by kernel_rfl) (fun _ _ _ h => h) (Or.inl ⟨by rfl,?_⟩) ?_ ?_
            rotate_left
            ·intro w'
             go_simp
             with_reducible rfl
            rotate_left
            ·simp only [Act.put,List.setIfInBounds_toArray,List.set_cons_zero,List.set_cons_succ,i64_w,i32_w]
             rfl
            refine pure_ (i:=15) (N:=some 165) (v:=?_) (a':=?_) #[true,true,true,true,true,true,true,true,true,true,true,true,true,true,true,true,false] rfl rfl (by kernel_rfl) (fun _ _ _ h => h) (Or.inl ⟨by rfl,?_⟩) ?_ ?_
            rotate_left
            ·intro w'
             go_simp
             with_reducible rfl
            rotate_left
            ·simp only [Act.put,List.setIfInBounds_toArray,List.set_cons_zero,List.set_cons_succ,i64_w,i32_w]
             rfl
            refine pure_ (i:=16) (N:=some 166) (v:=?_) (a':=?_) #[true,true,true,true,true,true,true,true,true,true,true,true,true,true,true,true,true] rfl rfl (by kernel_rfl) (fun _ _ _ h => h) (Or.inl ⟨by rfl,?_⟩) ?_ ?_
            rotate_left
            ·intro w'
             go_simp
             with_reducible rfl
            rotate_left
            ·simp only [Act.put,List.setIfInBounds_toArray,List.set_cons_zero,List.set_cons_succ,i64_w,i32_w]
             rfl
            refine done_ (by kernel_rfl) ?_
            have HPP:=HC10.out.put i j (of_eq_true p8) (of_eq_true p7) HBG.out
            rw [← HXI.out] at HPP
            have HP1:=Aside0.mk HPP.1
            have hfz:=HPP.2
            have hz2:=HZ10.out
            clear HPP
            go_wp2
            go_roundg k5
            case measure => have:=HK4.out;have:=HK3.out;omega
            case rel => exact ⟨_,_,rfl,H',⟨by have:=HK4.out;have:=HK3.out;omega⟩,HP1⟩
           ·rw [if_neg e4] at H
            have H':=Aside0.mk H
            have e5 : decide ((xj.f1.length : Int) < (xu.f1.length : Int)) = false:=decide_eq_false e4
            have e6 : decide (xj.f1.length < xu.f1.length) = false:=decide_eq_false (by omega)
            clear H e4
            have hz2:=HZ9.out
            go_upto_region 51 with (fail)
            clear hz2
            have HC10:=Aside0.mk (HC9.out.step (below_drew (Below.refl _ _)))
            have HX10:=Aside0.mk (pw_cell_below (below_drew (Below.refl _ _)) HX9.out)
            have HZ10:=Aside0.mk (pw_cell_below (below_drew (Below.refl _ _)) HZ9.out)
            clear HC9 HX9 HY9 HZ9
            obtain ⟨go'',AU,cU,eA,_,_,hu1,_,_,_⟩:=HC10.out.at xi.f2 (of_eq_true p9) (of_eq_true p10)
            injection eA with eA
            injection eA with eA _ _
            subst eA
            rw [← HXU.out] at hu1
            have HU1:=Aside0.mk hu1
            clear hu1
            refine start_ (n:=17) (S:=fun w' => w'.cell? ⟨go,j.toNat * 3 + 1,none⟩ = some (.slice AJ xj.f1.length cJ) ∧ w'.cell? ⟨go,xi.f2.toNat * 3 + 1,none⟩ = some (.slice AU xu.f1.length cU)) (ds:=[]) #[false,false,false,false,false,false,false,false,false,false,false,false,false,false,false,false,false] (by kernel_rfl) rfl rfl ?_ (fun hHeld => ?_)
            ·exact ⟨HX10.out,HU1.out⟩
            generalize hw10 : World.drew w9 = w10 at HC10 HX10 HZ10 HU1 hHeld ⊢
            clear hw10
            refine pure_ (i:=0) (N:=some 150) (v:=?_) (a':=?_) #[true,false,false,false,false,false,false,false,false,false,false,false,false,false,false,false,false] rfl rfl (by kernel_rfl) (fun _ _ _ h => h) (Or.inl ⟨by rfl,?_⟩) ?_ ?_
            rotate_left
            ·intro w'
             go_simp
             with_reducible rfl
            rotate_left
            ·simp only [Act.put,List.setIfInBounds_toArray,List.set_cons_zero,List.set_cons_succ,i64_w,i32_w]
             rfl
            refine pure_ (i:=1) (N:=some 151) (v:=?_) (a':=?_) #[true,true,false,false,false,false,false,false,false,false,false,false,false,false,false,false,false] rfl rfl (by kernel_rfl) (fun _ _ _ h => h) (Or.inl ⟨by rfl,?_⟩) ?_ ?_
            rotate_left
            ·intro w'
             go_simp
             with_reducible rfl
            rotate_left
            ·simp only [Act.put,List.setIfInBounds_toArray,List.set_cons_zero,List.set_cons_succ,i64_w,i32_w]
             rfl
            refine pure_ (i:=2) (N:=some 152) (v:=?_) (a':=?_) #[true,true,true,false,false,false,false,false,false,false,false,false,false,false,false,false,false] rfl rfl (by kernel_rfl) (fun _ _ _ h => h) (Or.inl ⟨by rfl,?_⟩) ?_ ?_
            rotate_left
            ·intro w'
             go_simp
             with_reducible rfl
            rotate_left
            ·simp only [Act.put,List.setIfInBounds_toArray,List.set_cons_zero,List.set_cons_succ,i64_w,i32_w]
             rfl
            refine pure_ (i:=3) (N:=some 153) (v:=?_) (a':=?_) #[true,true,true,true,false,false,false,false,false,false,false,false,false,false,false,false,false] rfl rfl (by kernel_rfl) (fun _ _ _ h => h) (Or.inl ⟨by rfl,?_⟩) ?_ ?_
            rotate_left
            ·intro w'
             go_simp
             with_reducible rfl
            rotate_left
            ·simp only [Act.put,List.setIfInBounds_toArray,List.set_cons_zero,List.set_cons_succ,i64_w,i32_w]
             rfl
            refine pure_ (i:=4) (N:=some 154) (v:=?_) (a':=?_) #[true,true,true,true,true,false,false,false,false,false,false,false,false,false,false,false,false] rfl rfl (by kernel_rfl) (fun _ _ _ h => h) (Or.inl ⟨by rfl,?_⟩) ?_ ?_
            rotate_left
            ·intro w'
             go_simp
             with_reducible rfl
            rotate_left
            ·simp only [Act.put,List.setIfInBounds_toArray,List.set_cons_zero,List.set_cons_succ,i64_w,i32_w]
             rfl
            refine pure_ (i:=5) (N:=some 155) (v:=?_) (a':=?_) #[true,true,true,true,true,true,false,false,false,false,false,false,false,false,false,false,false] rfl rfl (by kernel_rfl) (fun _ _ _ h => h) (Or.inl ⟨by rfl,?_⟩) ?_ ?_
            rotate_left
            ·intro w'
             go_simp
             with_reducible rfl
            rotate_left
            ·simp only [Act.put,List.setIfInBounds_toArray,List.set_cons_zero,List.set_cons_succ,i64_w,i32_w]
             rfl
            refine pure_ (i:=6) (N:=some 156) (v:=?_) (a':=?_) #[true,true,true,true,true,true,true,false,false,false,false,false,false,false,false,false,false] rfl rfl (by kernel_rfl) (fun _ _ _ h => h) (Or.inl ⟨by rfl,?_⟩) ?_ ?_
            rotate_left
            ·intro w'
             go_simp
             with_reducible rfl
            rotate_left
            ·simp only [Act.put,List.setIfInBounds_toArray,List.set_cons_zero,List.set_cons_succ,i64_w,i32_w]
             rfl
            refine pure_ (i:=9) (N:=some 159) (v:=?_) (a':=?_) #[true,true,true,true,true,true,true,false,false,true,false,false,false,false,false,false,false] rfl rfl (by kernel_rfl) (fun _ _ _ h => h) (Or.inl ⟨by rfl,?_⟩) ?_ ?_
            rotate_left
            ·intro w'
             go_simp
             with_reducible rfl
            rotate_left
            ·simp only [Act.put,List.setIfInBounds_toArray,List.set_cons_zero,List.set_cons_succ,i64_w,i32_w]
             rfl
            refine pure_ (i:=10) (N:=some 160) (v:=?_) (a':=?_) #[true,true,true,true,true,true,true,false,false,true,true,false,false,false,false,false,false] rfl rfl (by kernel_rfl) (fun _ _ _ h => h) (Or.inl ⟨by rfl,?_⟩) ?_ ?_
            rotate_left
            ·intro w'
             go_simp
             with_reducible rfl
            rotate_left
            ·simp only [Act.put,List.setIfInBounds_toArray,List.set_cons_zero,List.set_cons_succ,i64_w,i32_w]
             rfl
            refine pure_ (i:=11) (N:=some 161) (v:=?_) (a':=?_) #[true,true,true,true,true,true,true,false,false,true,true,true,false,false,false,false,false] rfl rfl (by kernel_rfl) (fun _ _ _ h => h) (Or.inl ⟨by rfl,?_⟩) ?_ ?_
            rotate_left
            ·intro w'
             go_simp
             with_reducible rfl
            rotate_left
            ·simp only [Act.put,List.setIfInBounds_toArray,List.set_cons_zero,List.set_cons_succ,i64_w,i32_w]
             rfl
            refine pure_ (i:=12) (N:=some 162) (v:=?_) (a':=?_) #[true,true,true,true,true,true,true,false,false,true,true,true,true,false,false,false,false] rfl rfl (by kernel_rfl) (fun _ _ _ h => h) (Or.inl ⟨by rfl,?_⟩) ?_ ?_
            rotate_left
            ·intro w'
             go_simp
             with_reducible rfl
            rotate_left
            ·simp only [Act.put,List.setIfInBounds_toArray,List.set_cons_zero,List.set_cons_succ,i64_w,i32_w]
             rfl
            refine take_ (i:=7) (N:=some 157) (v:=?_) (a':=?_) #[true,true,true,true,true,true,true,true,false,true,true,true,true,false,false,false,false] rfl rfl (by kernel_rfl) (fun _ _ _ h => h) (Or.inl ⟨by rfl,?_⟩) hHeld ?_ ?_
            rotate_left
            ·rintro w' ⟨s0,s1⟩
             go_simp
             with_reducible rfl
            rotate_left
            ·simp only [Act.put,List.setIfInBounds_toArray,List.set_cons_zero,List.set_cons_succ,i64_w,i32_w]
             rfl
            refine pure_ (i:=8) (N:=some 158) (v:=?_) (a':=?_) #[true,true,true,true,true,true,true,true,true,true,true,true,true,false,false,false,false] rfl rfl (by kernel_rfl) (fun _ _ _ h => h) (Or.inl ⟨by rfl,?_⟩) ?_ ?_
            rotate_left
            ·intro w'
             go_simp
             with_reducible rfl
            rotate_left
            ·simp only [Act.put,List.setIfInBounds_toArray,List.set_cons_zero,List.set_cons_succ,i64_w,i32_w]
             rfl
            refine take_ (i:=13) (N:=some 163) (v:=?_) (a':=?_) #[true,true,true,true,true,true,true,true,true,true,true,true,true,true,false,false,false] rfl rfl (by kernel_rfl) (fun _ _ _ h => h) (Or.inl ⟨by rfl,?_⟩) hHeld ?_ ?_
            rotate_left
            ·rintro w' ⟨s0,s1⟩
             go_simp
             with_reducible rfl
            rotate_left
            ·simp only [Act.put,List.setIfInBounds_toArray,List.set_cons_zero,List.set_cons_succ,i64_w,i32_w]
             rfl
            refine pure_ (i:=14) (N:=some 164) (v:=?_) (a':=?_) #[true,true,true,true,true,true,true,true,true,true,true,true,true,true,true,false,false] rfl rfl (by kernel_rfl) (fun _ _ _ h => h) (Or.inl ⟨by rfl,?_⟩) ?_ ?_
            rotate_left
            ·intro w'
             go_simp
             with_reducible rfl
            rotate_left
            ·simp only [Act.put,List.setIfInBounds_toArray,List.set_cons_zero,List.set_cons_succ,i64_w,i32_w]
             rfl
            refine pure_ (i:=15) (N:=some 165) (v:=?_) (a':=?_) #[true,true,true,true,true,true,true,true,true,true,true,true,true,true,true,true,false] rfl rfl (by kernel_rfl) (fun _ _ _ h => h) (Or.inl ⟨by rfl,?_⟩) ?_ ?_
            rotate_left
            ·intro w'
             go_simp
             with_reducible rfl
            rotate_left
            ·simp only [Act.put,List.setIfInBounds_toArray,List.set_cons_zero,List.set_cons_succ,i64_w,i32_w]
             rfl
            refine pure_ (i:=16) (N:=some 166) (v:=?_) (a':=?_) #[true,true,true,true,true,true,true,true,true,true,true,true,true,true,true,true,true] rfl rfl (by kernel_rfl) (fun _ _ _ h => h) (Or.inl ⟨by rfl,?_⟩) ?_ ?_
            rotate_left
            ·intro w'
             go_simp
             with_reducible rfl
            rotate_left
            ·simp only [Act.put,List.setIfInBounds_toArray,List.set_cons_zero,List.set_cons_succ,i64_w,i32_w]
             rfl
            refine done_ (by kernel_rfl) ?_
            go_wp2
            go_roundg k5
            case measure => have:=HK4.out;have:=HK3.out;omega
            case rel => exact ⟨_,_,rfl,H',⟨by have:=HK4.out;have:=HK3.out;omega⟩,HC10⟩
          ·rw [if_neg e3] at H;exact absurd H (by simp)
      ·rw [if_neg d1] at H
       have H':=Aside0.mk H
       have q5 : decide (j < (n : Int)) = false:=decide_eq_false d1
       clear H d1 hnl
       go_wp2
       go_roundg k4
       case measure => have:=HK4.out;have:=HK3.out;omega
       case rel => exact ⟨_,_,rfl,H',⟨by have:=HK4.out;have:=HK3.out;omega⟩,HC⟩
    ·rw [if_neg c3] at H
     simp only [Option.some.injEq,Prod.mk.injEq] at H
     obtain ⟨rfl,rfl⟩:=H
     have q3 : decide (i < (n : Int)) = false:=decide_eq_false c3
     clear c3 hnl
     go_wp2
     go_ret2
     exact ⟨_,rfl,HC.out.out,HC.out.below⟩

end Go.Proofs.Ytbmnoenbhlfjaaa.Q
