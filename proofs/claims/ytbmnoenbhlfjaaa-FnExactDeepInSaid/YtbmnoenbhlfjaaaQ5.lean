-- WRITTEN BY A PROGRAM OF THIS SESSION
import Derived.Test.YtbmnoenbhlfjaaaQ0
import Derived.Test.YtbmnoenbhlfjaaaQ1
import Derived.Test.YtbmnoenbhlfjaaaQ2
import Derived.Test.YtbmnoenbhlfjaaaQ3
import Derived.Test.YtbmnoenbhlfjaaaQ4
namespace Go.Proofs.Ytbmnoenbhlfjaaa.Q
open Go.RowKit Go.Proofs.YtbmnoenbhlfjaaaW.PrintWords Go.Proofs.YtbmnoenbhlfjaaaW.PrintLast Go.Proofs.YtbmnoenbhlfjaaaW.PrintMore
attribute [local go_sem] max2_int min2_int max_two min_two max_three min_three max_four min_four   -- for this text's walks alone
set_option linter.unusedVariables false
set_option linter.unusedSimpArgs false

/-! ### spec_l8Loops: function 43 -/
mutual
def spec_l8Loops.l0 : Nat → List Int → List (List Int) → List (S58) → Int → Int → List (List Int) → Option ((List (S58)) × Bool)
 | 0,_,_,_,_,_,_ => none
 | k + 1,x5,x6,x7,x38,x39,x185000 => if x39 < x38 then (spec_l8Loops.l1 k x5 x6 x7 x39 (([x39] : List Int)) x38 x39 x6 (x6.length : Int) 0 x185000) else (spec_l8Loops.l6 k x7 (x7.length : Int) 0)
def spec_l8Loops.l1 : Nat → List Int → List (List Int) → List (S58) → Int → List Int → Int → Int → List (List Int) → Int → Int → List (List Int) → Option ((List (S58)) × Bool)
 | 0,_,_,_,_,_,_,_,_,_,_,_ => none
 | k + 1,x5,x6,x7,x8,x9,x38,x39,x44,x45,x46,x185000 => if x46 < x45 then (if 0 ≤ x46 then (if x46 < (x44.length : Int) then (if 1 < ((rd_L1 x44 x46).length : Int) then (if (rd (rd_L1 x44 x46) 1) = x8 then (if 0 < ((rd_L1 x44 x46).length : Int) then ((spec_l1Put.f k x9 (rd (rd_L1 x44 x46) 0)).bind fun t202 => (spec_l8Loops.l1 k x5 x6 x7 x8 t202 x38 x39 x44 x45 (wrap64 (x46 + 1)) x185000)) else (none)) else (spec_l8Loops.l1 k x5 x6 x7 x8 x9 x38 x39 x44 x45 (wrap64 (x46 + 1)) x185000)) else (none)) else (none)) else (none)) else (spec_l8Loops.l2 k x5 x6 x7 x8 x9 false x38 x39 x6 (x6.length : Int) 0 x185000)
def spec_l8Loops.l2 : Nat → List Int → List (List Int) → List (S58) → Int → List Int → Bool → Int → Int → List (List Int) → Int → Int → List (List Int) → Option ((List (S58)) × Bool)
 | 0,_,_,_,_,_,_,_,_,_,_,_,_ => none
 | k + 1,x5,x6,x7,x8,x9,x12,x38,x39,x61,x62,x63,x185000 => if x63 < x62 then (if 0 ≤ x63 then (if x63 < (x61.length : Int) then (if x12 = true then (spec_l8Loops.l2 k x5 x6 x7 x8 x9 true x38 x39 x61 x62 (wrap64 (x63 + 1)) x185000) else (if 1 < ((rd_L1 x61 x63).length : Int) then (spec_l8Loops.l2 k x5 x6 x7 x8 x9 ((rd (rd_L1 x61 x63) 1) == x8) x38 x39 x61 x62 (wrap64 (x63 + 1)) x185000) else (none))) else (none)) else (none)) else (if x12 = true then (spec_l8Loops.l3 k x5 x6 x7 x8 x9 true x38 x39 x185000) else (spec_l8Loops.l0 k x5 x6 x7 x38 (wrap64 (x39 + 1)) x185000))
def spec_l8Loops.l3 : Nat → List Int → List (List Int) → List (S58) → Int → List Int → Bool → Int → Int → List (List Int) → Option ((List (S58)) × Bool)
 | 0,_,_,_,_,_,_,_,_,_ => none
 | k + 1,x5,x6,x7,x8,x9,x15,x38,x39,x185000 => if x15 = true then (spec_l8Loops.l4 k x5 x6 x7 x8 x9 false x38 x39 x5 (x5.length : Int) 0 x185000) else (if x7.length < 3518437208883 then (spec_l8Loops.l0 k x5 x6 (x7 ++ [(⟨x8,x9,(-1)⟩ : S58)]) x38 (wrap64 (x39 + 1)) x185000) else (none))
def spec_l8Loops.l4 : Nat → List Int → List (List Int) → List (S58) → Int → List Int → Bool → Int → Int → List Int → Int → Int → List (List Int) → Option ((List (S58)) × Bool)
 | 0,_,_,_,_,_,_,_,_,_,_,_,_ => none
 | k + 1,x5,x6,x7,x8,x9,x15,x38,x39,x79,x80,x81,x185000 => if x81 < x80 then (if 0 ≤ x81 then (if x81 < (x79.length : Int) then ((spec_l1Has.f k x9 (rd x79 x81)).bind fun t211 => (if t211 = true then (spec_l8Loops.l4 k x5 x6 x7 x8 x9 x15 x38 x39 x79 x80 (wrap64 (x81 + 1)) x185000) else (if 0 ≤ (rd x79 x81) then (if (rd x79 x81) < (x185000.length : Int) then (spec_l8Loops.l5 k x5 x6 x7 x8 x9 x15 (rd x79 x81) x38 x39 x79 x80 x81 (rd_L1 x185000 (rd x79 x81)) ((rd_L1 x185000 (rd x79 x81)).length : Int) 0 x185000) else (none)) else (none)))) else (none)) else (none)) else (spec_l8Loops.l3 k x5 x6 x7 x8 x9 x15 x38 x39 x185000)
def spec_l8Loops.l5 : Nat → List Int → List (List Int) → List (S58) → Int → List Int → Bool → Int → Int → Int → List Int → Int → Int → List Int → Int → Int → List (List Int) → Option ((List (S58)) × Bool)
 | 0,_,_,_,_,_,_,_,_,_,_,_,_,_,_,_,_ => none
 | k + 1,x5,x6,x7,x8,x9,x15,x17,x38,x39,x79,x80,x81,x92,x93,x94,x185000 => if x94 < x93 then (if 0 ≤ x94 then (if x94 < (x92.length : Int) then (if (rd x92 x94) = x8 then (spec_l8Loops.l5 k x5 x6 x7 x8 x9 x15 x17 x38 x39 x79 x80 x81 x92 x93 (wrap64 (x94 + 1)) x185000) else ((spec_l1Has.f k x9 (rd x92 x94)).bind fun t214 => (if t214 = true then ((spec_l1Put.f k x9 x17).bind fun t215 => (spec_l8Loops.l5 k x5 x6 x7 x8 t215 true x17 x38 x39 x79 x80 x81 x92 x93 (wrap64 (x94 + 1)) x185000)) else (spec_l8Loops.l5 k x5 x6 x7 x8 x9 x15 x17 x38 x39 x79 x80 x81 x92 x93 (wrap64 (x94 + 1)) x185000)))) else (none)) else (none)) else (spec_l8Loops.l4 k x5 x6 x7 x8 x9 x15 x38 x39 x79 x80 (wrap64 (x81 + 1)) x185000)
def spec_l8Loops.l6 : Nat → List (S58) → Int → Int → Option ((List (S58)) × Bool)
 | 0,_,_,_ => none
 | k + 1,x7,x119,x120 => if x120 < x119 then (spec_l8Loops.l7 k x7 x120 x119 x120 (x7.length : Int) 0) else (some (x7,true))
def spec_l8Loops.l7 : Nat → List (S58) → Int → Int → Int → Int → Int → Option ((List (S58)) × Bool)
 | 0,_,_,_,_,_,_ => none
 | k + 1,x7,x20,x119,x120,x124,x125 => if x125 < x124 then (if x20 = x125 then (spec_l8Loops.j8 k x7 x20 x125 x119 x120 x124 x125 true) else (if 0 ≤ x125 then (if x125 < (x7.length : Int) then (if 0 ≤ x20 then (if x20 < (x7.length : Int) then ((spec_l8Has.f k ((rd_T58 x7 x125).f1) ((rd_T58 x7 x20).f1)).bind fun t220 => (spec_l8Loops.j8 k x7 x20 x125 x119 x120 x124 x125 (!t220))) else (none)) else (none)) else (none)) else (none))) else (spec_l8Loops.l6 k x7 x119 (wrap64 (x120 + 1)))
def spec_l8Loops.j8 : Nat → List (S58) → Int → Int → Int → Int → Int → Int → Bool → Option ((List (S58)) × Bool)
 | 0,_,_,_,_,_,_,_,_ => none
 | k + 1,x7,x20,x21,x119,x120,x124,x125,x144 => if x144 = true then (spec_l8Loops.l7 k x7 x20 x119 x120 x124 (wrap64 (x125 + 1))) else (if 0 ≤ x20 then (if x20 < (x7.length : Int) then (if ((rd_T58 x7 x20).f2) < 0 then (spec_l8Loops.l7 k (x7.set (x20 : Int).toNat (⟨(rd_T58 x7 x20).f0,(rd_T58 x7 x20).f1,x21⟩ : S58)) x20 x119 x120 x124 (wrap64 (x125 + 1))) else (if 0 ≤ x21 then (if x21 < (x7.length : Int) then (if 0 ≤ ((rd_T58 x7 x20).f2) then (if ((rd_T58 x7 x20).f2) < (x7.length : Int) then (if (((rd_T58 x7 x21).f1).length : Int) < (((rd_T58 x7 ((rd_T58 x7 x20).f2)).f1).length : Int) then (spec_l8Loops.l7 k (x7.set (x20 : Int).toNat (⟨(rd_T58 x7 x20).f0,(rd_T58 x7 x20).f1,x21⟩ : S58)) x20 x119 x120 x124 (wrap64 (x125 + 1))) else (spec_l8Loops.l7 k x7 x20 x119 x120 x124 (wrap64 (x125 + 1)))) else (none)) else (none)) else (none)) else (none))) else (none)) else (none))
end
def spec_l8Loops.f (k : Nat) (l0_0 : List (List Int)) : Option ((List (S58)) × Bool):=(spec_GoodGraph.f k l0_0).bind fun t185 => (if t185 = true then ((spec_l7Dominators.f k l0_0).bind fun t186 => ((spec_l7Cyclic.f k l0_0 t186).bind fun t189 => (if t189 = true then (some (([] : List (S58)),false)) else ((spec_l7Without.f k l0_0 (-1)).bind fun t190 => ((spec_l7Back.f k l0_0 t186).bind fun t193 => (spec_l8Loops.l0 k t190 t193 ([] : List (S58)) (l0_0.length : Int) 0 l0_0)))))) else (some (([] : List (S58)),false)))
theorem spec_l8Loops.mono_l : ∀ k,(∀ y0 y1 y2 y3 y4 y5,LeO (spec_l8Loops.l0 k y0 y1 y2 y3 y4 y5) (spec_l8Loops.l0 (k + 1) y0 y1 y2 y3 y4 y5)) ∧ (∀ y0 y1 y2 y3 y4 y5 y6 y7 y8 y9 y10,LeO (spec_l8Loops.l1 k y0 y1 y2 y3 y4 y5 y6 y7 y8 y9 y10) (spec_l8Loops.l1 (k + 1) y0 y1 y2 y3 y4 y5 y6 y7 y8 y9 y10)) ∧ (∀ y0 y1 y2 y3 y4 y5 y6 y7 y8 y9 y10 y11,LeO (spec_l8Loops.l2 k y0 y1 y2 y3 y4 y5 y6 y7 y8 y9 y10 y11) (spec_l8Loops.l2 (k + 1) y0 y1 y2 y3 y4 y5 y6 y7 y8 y9 y10 y11)) ∧ (∀ y0 y1 y2 y3 y4 y5 y6 y7 y8,LeO (spec_l8Loops.l3 k y0 y1 y2 y3 y4 y5 y6 y7 y8) (spec_l8Loops.l3 (k + 1) y0 y1 y2 y3 y4 y5 y6 y7 y8)) ∧ (∀ y0 y1 y2 y3 y4 y5 y6 y7 y8 y9 y10 y11,LeO (spec_l8Loops.l4 k y0 y1 y2 y3 y4 y5 y6 y7 y8 y9 y10 y11) (spec_l8Loops.l4 (k + 1) y0 y1 y2 y3 y4 y5 y6 y7 y8 y9 y10 y11)) ∧ (∀ y0 y1 y2 y3 y4 y5 y6 y7 y8 y9 y10 y11 y12 y13 y14 y15,LeO (spec_l8Loops.l5 k y0 y1 y2 y3 y4 y5 y6 y7 y8 y9 y10 y11 y12 y13 y14 y15) (spec_l8Loops.l5 (k + 1) y0 y1 y2 y3 y4 y5 y6 y7 y8 y9 y10 y11 y12 y13 y14 y15)) ∧ (∀ y0 y1 y2,LeO (spec_l8Loops.l6 k y0 y1 y2) (spec_l8Loops.l6 (k + 1) y0 y1 y2)) ∧ (∀ y0 y1 y2 y3 y4 y5,LeO (spec_l8Loops.l7 k y0 y1 y2 y3 y4 y5) (spec_l8Loops.l7 (k + 1) y0 y1 y2 y3 y4 y5)) ∧ (∀ y0 y1 y2 y3 y4 y5 y6 y7,LeO (spec_l8Loops.j8 k y0 y1 y2 y3 y4 y5 y6 y7) (spec_l8Loops.j8 (k + 1) y0 y1 y2 y3 y4 y5 y6 y7))
 | 0 => ⟨fun _ _ _ _ _ _ r h => by simp [spec_l8Loops.l0] at h,fun _ _ _ _ _ _ _ _ _ _ _ r h => by simp [spec_l8Loops.l1] at h,fun _ _ _ _ _ _ _ _ _ _ _ _ r h => by simp [spec_l8Loops.l2] at h,fun _ _ _ _ _ _ _ _ _ r h => by simp [spec_l8Loops.l3] at h,fun _ _ _ _ _ _ _ _ _ _ _ _ r h => by simp [spec_l8Loops.l4] at h,fun _ _ _ _ _ _ _ _ _ _ _ _ _ _ _ _ r h => by simp [spec_l8Loops.l5] at h,fun _ _ _ r h => by simp [spec_l8Loops.l6] at h,fun _ _ _ _ _ _ r h => by simp [spec_l8Loops.l7] at h,fun _ _ _ _ _ _ _ _ r h => by simp [spec_l8Loops.j8] at h⟩
 | k + 1 => by
  obtain ⟨ih0,ih1,ih2,ih3,ih4,ih5,ih6,ih7,ih8⟩:=spec_l8Loops.mono_l k
  refine ⟨?_,?_,?_,?_,?_,?_,?_,?_,?_⟩
  ·intro y0 y1 y2 y3 y4 y5
   unfold spec_l8Loops.l0
   repeat' first
   | (with_reducible exact ih0 _ _ _ _ _ _)
   | (with_reducible exact ih1 _ _ _ _ _ _ _ _ _ _ _)
   | (with_reducible exact ih2 _ _ _ _ _ _ _ _ _ _ _ _)
   | (with_reducible exact ih3 _ _ _ _ _ _ _ _ _)
   | (with_reducible exact ih4 _ _ _ _ _ _ _ _ _ _ _ _)
   | (with_reducible exact ih5 _ _ _ _ _ _ _ _ _ _ _ _ _ _ _ _)
   | (with_reducible exact ih6 _ _ _)
   | (with_reducible exact ih7 _ _ _ _ _ _)
   | (with_reducible exact ih8 _ _ _ _ _ _ _ _)
   | (with_reducible exact spec_GoodGraph.mono _ _)
   | (with_reducible exact spec_l1Has.mono _ _ _)
   | (with_reducible exact spec_l1Put.mono _ _ _)
   | (with_reducible exact spec_l7Back.mono _ _ _)
   | (with_reducible exact spec_l7Cyclic.mono _ _ _)
   | (with_reducible exact spec_l7Dominators.mono _ _)
   | (with_reducible exact spec_l7Without.mono _ _ _)
   | (with_reducible exact spec_l8Has.mono _ _ _)
   | (with_reducible exact LeO.refl _)
   | (with_reducible exact LeO.none _)
   | (with_reducible refine LeO.ite ?_ ?_)
   | (with_reducible refine LeO.bind ?_ (fun _ => ?_))
   | exact ih0 _ _ _ _ _ _
   | exact ih1 _ _ _ _ _ _ _ _ _ _ _
   | exact ih2 _ _ _ _ _ _ _ _ _ _ _ _
   | exact ih3 _ _ _ _ _ _ _ _ _
   | exact ih4 _ _ _ _ _ _ _ _ _ _ _ _
   | exact ih5 _ _ _ _ _ _ _ _ _ _ _ _ _ _ _ _
   | exact ih6 _ _ _
   | exact ih7 _ _ _ _ _ _
   | exact ih8 _ _ _ _ _ _ _ _
   | exact spec_GoodGraph.mono _ _
   | exact spec_l1Has.mono _ _ _
   | exact spec_l1Put.mono _ _ _
   | exact spec_l7Back.mono _ _ _
   | exact spec_l7Cyclic.mono _ _ _
   | exact spec_l7Dominators.mono _ _
   | exact spec_l7Without.mono _ _ _
   | exact spec_l8Has.mono _ _ _
   | exact LeO.none _
   | refine LeO.ite ?_ ?_
   | refine LeO.bind ?_ (fun _ => ?_)
  ·intro y0 y1 y2 y3 y4 y5 y6 y7 y8 y9 y10
   unfold spec_l8Loops.l1
   repeat' first
   | (with_reducible exact ih0 _ _ _ _ _ _)
   | (with_reducible exact ih1 _ _ _ _ _ _ _ _ _ _ _)
   | (with_reducible exact ih2 _ _ _ _ _ _ _ _ _ _ _ _)
   | (with_reducible exact ih3 _ _ _ _ _ _ _ _ _)
   | (with_reducible exact ih4 _ _ _ _ _ _ _ _ _ _ _ _)
   | (with_reducible exact ih5 _ _ _ _ _ _ _ _ _ _ _ _ _ _ _ _)
   | (with_reducible exact ih6 _ _ _)
   | (with_reducible exact ih7 _ _ _ _ _ _)
   | (with_reducible exact ih8 _ _ _ _ _ _ _ _)
   | (with_reducible exact spec_GoodGraph.mono _ _)
   | (with_reducible exact spec_l1Has.mono _ _ _)
   | (with_reducible exact spec_l1Put.mono _ _ _)
   | (with_reducible exact spec_l7Back.mono _ _ _)
   | (with_reducible exact spec_l7Cyclic.mono _ _ _)
   | (with_reducible exact spec_l7Dominators.mono _ _)
   | (with_reducible exact spec_l7Without.mono _ _ _)
   | (with_reducible exact spec_l8Has.mono _ _ _)
   | (with_reducible exact LeO.refl _)
   | (with_reducible exact LeO.none _)
   | (with_reducible refine LeO.ite ?_ ?_)
   | (with_reducible refine LeO.bind ?_ (fun _ => ?_))
   | exact ih0 _ _ _ _ _ _
   | exact ih1 _ _ _ _ _ _ _ _ _ _ _
   | exact ih2 _ _ _ _ _ _ _ _ _ _ _ _
   | exact ih3 _ _ _ _ _ _ _ _ _
   | exact ih4 _ _ _ _ _ _ _ _ _ _ _ _
   | exact ih5 _ _ _ _ _ _ _ _ _ _ _ _ _ _ _ _
   | exact ih6 _ _ _
   | exact ih7 _ _ _ _ _ _
   | exact ih8 _ _ _ _ _ _ _ _
   | exact spec_GoodGraph.mono _ _
   | exact spec_l1Has.mono _ _ _
   | exact spec_l1Put.mono _ _ _
   | exact spec_l7Back.mono _ _ _
   | exact spec_l7Cyclic.mono _ _ _
   | exact spec_l7Dominators.mono _ _
   | exact spec_l7Without.mono _ _ _
   | exact spec_l8Has.mono _ _ _
   | exact LeO.none _
   | refine LeO.ite ?_ ?_
   | refine LeO.bind ?_ (fun _ => ?_)
  ·intro y0 y1 y2 y3 y4 y5 y6 y7 y8 y9 y10 y11
   unfold spec_l8Loops.l2
   repeat' first
   | (with_reducible exact ih0 _ _ _ _ _ _)
   | (with_reducible exact ih1 _ _ _ _ _ _ _ _ _ _ _)
   | (with_reducible exact ih2 _ _ _ _ _ _ _ _ _ _ _ _)
   | (with_reducible exact ih3 _ _ _ _ _ _ _ _ _)
   | (with_reducible exact ih4 _ _ _ _ _ _ _ _ _ _ _ _)
   | (with_reducible exact ih5 _ _ _ _ _ _ _ _ _ _ _ _ _ _ _ _)
   | (with_reducible exact ih6 _ _ _)
   | (with_reducible exact ih7 _ _ _ _ _ _)
   | (with_reducible exact ih8 _ _ _ _ _ _ _ _)
   | (with_reducible exact spec_GoodGraph.mono _ _)
   | (with_reducible exact spec_l1Has.mono _ _ _)
   | (with_reducible exact spec_l1Put.mono _ _ _)
   | (with_reducible exact spec_l7Back.mono _ _ _)
   | (with_reducible exact spec_l7Cyclic.mono _ _ _)
   | (with_reducible exact spec_l7Dominators.mono _ _)
   | (with_reducible exact spec_l7Without.mono _ _ _)
   | (with_reducible exact spec_l8Has.mono _ _ _)
   | (with_reducible exact LeO.refl _)
   | (with_reducible exact LeO.none _)
   | (with_reducible refine LeO.ite ?_ ?_)
   | (with_reducible refine LeO.bind ?_ (fun _ => ?_))
   | exact ih0 _ _ _ _ _ _
   | exact ih1 _ _ _ _ _ _ _ _ _ _ _
   | exact ih2 _ _ _ _ _ _ _ _ _ _ _ _
   | exact ih3 _ _ _ _ _ _ _ _ _
   | exact ih4 _ _ _ _ _ _ _ _ _ _ _ _
   | exact ih5 _ _ _ _ _ _ _ _ _ _ _ _ _ _ _ _
   | exact ih6 _ _ _
   | exact ih7 _ _ _ _ _ _
   | exact ih8 _ _ _ _ _ _ _ _
   | exact spec_GoodGraph.mono _ _
   | exact spec_l1Has.mono _ _ _
   | exact spec_l1Put.mono _ _ _
   | exact spec_l7Back.mono _ _ _
   | exact spec_l7Cyclic.mono _ _ _
   | exact spec_l7Dominators.mono _ _
   | exact spec_l7Without.mono _ _ _
   | exact spec_l8Has.mono _ _ _
   | exact LeO.none _
   | refine LeO.ite ?_ ?_
   | refine LeO.bind ?_ (fun _ => ?_)
  ·intro y0 y1 y2 y3 y4 y5 y6 y7 y8
   unfold spec_l8Loops.l3
   repeat' first
   | (with_reducible exact ih0 _ _ _ _ _ _)
   | (with_reducible exact ih1 _ _ _ _ _ _ _ _ _ _ _)
   | (with_reducible exact ih2 _ _ _ _ _ _ _ _ _ _ _ _)
   | (with_reducible exact ih3 _ _ _ _ _ _ _ _ _)
   | (with_reducible exact ih4 _ _ _ _ _ _ _ _ _ _ _ _)
   | (with_reducible exact ih5 _ _ _ _ _ _ _ _ _ _ _ _ _ _ _ _)
   | (with_reducible exact ih6 _ _ _)
   | (with_reducible exact ih7 _ _ _ _ _ _)
   | (with_reducible exact ih8 _ _ _ _ _ _ _ _)
   | (with_reducible exact spec_GoodGraph.mono _ _)
   | (with_reducible exact spec_l1Has.mono _ _ _)
   | (with_reducible exact spec_l1Put.mono _ _ _)
   | (with_reducible exact spec_l7Back.mono _ _ _)
   | (with_reducible exact spec_l7Cyclic.mono _ _ _)
   | (with_reducible exact spec_l7Dominators.mono _ _)
   | (with_reducible exact spec_l7Without.mono _ _ _)
   | (with_reducible exact spec_l8Has.mono _ _ _)
   | (with_reducible exact LeO.refl _)
   | (with_reducible exact LeO.none _)
   | (with_reducible refine LeO.ite ?_ ?_)
   | (with_reducible refine LeO.bind ?_ (fun _ => ?_))
   | exact ih0 _ _ _ _ _ _
   | exact ih1 _ _ _ _ _ _ _ _ _ _ _
   | exact ih2 _ _ _ _ _ _ _ _ _ _ _ _
   | exact ih3 _ _ _ _ _ _ _ _ _
   | exact ih4 _ _ _ _ _ _ _ _ _ _ _ _
   | exact ih5 _ _ _ _ _ _ _ _ _ _ _ _ _ _ _ _
   | exact ih6 _ _ _
   | exact ih7 _ _ _ _ _ _
   | exact ih8 _ _ _ _ _ _ _ _
   | exact spec_GoodGraph.mono _ _
   | exact spec_l1Has.mono _ _ _
   | exact spec_l1Put.mono _ _ _
   | exact spec_l7Back.mono _ _ _
   | exact spec_l7Cyclic.mono _ _ _
   | exact spec_l7Dominators.mono _ _
   | exact spec_l7Without.mono _ _ _
   | exact spec_l8Has.mono _ _ _
   | exact LeO.none _
   | refine LeO.ite ?_ ?_
   | refine LeO.bind ?_ (fun _ => ?_)
  ·intro y0 y1 y2 y3 y4 y5 y6 y7 y8 y9 y10 y11
   unfold spec_l8Loops.l4
   repeat' first
   | (with_reducible exact ih0 _ _ _ _ _ _)
   | (with_reducible exact ih1 _ _ _ _ _ _ _ _ _ _ _)
   | (with_reducible exact ih2 _ _ _ _ _ _ _ _ _ _ _ _)
   | (with_reducible exact ih3 _ _ _ _ _ _ _ _ _)
   | (with_reducible exact ih4 _ _ _ _ _ _ _ _ _ _ _ _)
   | (with_reducible exact ih5 _ _ _ _ _ _ _ _ _ _ _ _ _ _ _ _)
   | (with_reducible exact ih6 _ _ _)
   | (with_reducible exact ih7 _ _ _ _ _ _)
   | (with_reducible exact ih8 _ _ _ _ _ _ _ _)
   | (with_reducible exact spec_GoodGraph.mono _ _)
   | (with_reducible exact spec_l1Has.mono _ _ _)
   | (with_reducible exact spec_l1Put.mono _ _ _)
   | (with_reducible exact spec_l7Back.mono _ _ _)
   | (with_reducible exact spec_l7Cyclic.mono _ _ _)
   | (with_reducible exact spec_l7Dominators.mono _ _)
   | (with_reducible exact spec_l7Without.mono _ _ _)
   | (with_reducible exact spec_l8Has.mono _ _ _)
   | (with_reducible exact LeO.refl _)
   | (with_reducible exact LeO.none _)
   | (with_reducible refine LeO.ite ?_ ?_)
   | (with_reducible refine LeO.bind ?_ (fun _ => ?_))
   | exact ih0 _ _ _ _ _ _
   | exact ih1 _ _ _ _ _ _ _ _ _ _ _
   | exact ih2 _ _ _ _ _ _ _ _ _ _ _ _
   | exact ih3 _ _ _ _ _ _ _ _ _
   | exact ih4 _ _ _ _ _ _ _ _ _ _ _ _
   | exact ih5 _ _ _ _ _ _ _ _ _ _ _ _ _ _ _ _
   | exact ih6 _ _ _
   | exact ih7 _ _ _ _ _ _
   | exact ih8 _ _ _ _ _ _ _ _
   | exact spec_GoodGraph.mono _ _
   | exact spec_l1Has.mono _ _ _
   | exact spec_l1Put.mono _ _ _
   | exact spec_l7Back.mono _ _ _
   | exact spec_l7Cyclic.mono _ _ _
   | exact spec_l7Dominators.mono _ _
   | exact spec_l7Without.mono _ _ _
   | exact spec_l8Has.mono _ _ _
   | exact LeO.none _
   | refine LeO.ite ?_ ?_
   | refine LeO.bind ?_ (fun _ => ?_)
  ·intro y0 y1 y2 y3 y4 y5 y6 y7 y8 y9 y10 y11 y12 y13 y14 y15
   unfold spec_l8Loops.l5
   repeat' first
   | (with_reducible exact ih0 _ _ _ _ _ _)
   | (with_reducible exact ih1 _ _ _ _ _ _ _ _ _ _ _)
   | (with_reducible exact ih2 _ _ _ _ _ _ _ _ _ _ _ _)
   | (with_reducible exact ih3 _ _ _ _ _ _ _ _ _)
   | (with_reducible exact ih4 _ _ _ _ _ _ _ _ _ _ _ _)
   | (with_reducible exact ih5 _ _ _ _ _ _ _ _ _ _ _ _ _ _ _ _)
   | (with_reducible exact ih6 _ _ _)
   | (with_reducible exact ih7 _ _ _ _ _ _)
   | (with_reducible exact ih8 _ _ _ _ _ _ _ _)
   | (with_reducible exact spec_GoodGraph.mono _ _)
   | (with_reducible exact spec_l1Has.mono _ _ _)
   | (with_reducible exact spec_l1Put.mono _ _ _)
   | (with_reducible exact spec_l7Back.mono _ _ _)
   | (with_reducible exact spec_l7Cyclic.mono _ _ _)
   | (with_reducible exact spec_l7Dominators.mono _ _)
   | (with_reducible exact spec_l7Without.mono _ _ _)
   | (with_reducible exact spec_l8Has.mono _ _ _)
   | (with_reducible exact LeO.refl _)
   | (with_reducible exact LeO.none _)
   | (with_reducible refine LeO.ite ?_ ?_)
   | (with_reducible refine LeO.bind ?_ (fun _ => ?_))
   | exact ih0 _ _ _ _ _ _
   | exact ih1 _ _ _ _ _ _ _ _ _ _ _
   | exact ih2 _ _ _ _ _ _ _ _ _ _ _ _
   | exact ih3 _ _ _ _ _ _ _ _ _
   | exact ih4 _ _ _ _ _ _ _ _ _ _ _ _
   | exact ih5 _ _ _ _ _ _ _ _ _ _ _ _ _ _ _ _
   | exact ih6 _ _ _
   | exact ih7 _ _ _ _ _ _
   | exact ih8 _ _ _ _ _ _ _ _
   | exact spec_GoodGraph.mono _ _
   | exact spec_l1Has.mono _ _ _
   | exact spec_l1Put.mono _ _ _
   | exact spec_l7Back.mono _ _ _
   | exact spec_l7Cyclic.mono _ _ _
   | exact spec_l7Dominators.mono _ _
   | exact spec_l7Without.mono _ _ _
   | exact spec_l8Has.mono _ _ _
   | exact LeO.none _
   | refine LeO.ite ?_ ?_
   | refine LeO.bind ?_ (fun _ => ?_)
  ·intro y0 y1 y2
   unfold spec_l8Loops.l6
   repeat' first
   | (with_reducible exact ih0 _ _ _ _ _ _)
   | (with_reducible exact ih1 _ _ _ _ _ _ _ _ _ _ _)
   | (with_reducible exact ih2 _ _ _ _ _ _ _ _ _ _ _ _)
   | (with_reducible exact ih3 _ _ _ _ _ _ _ _ _)
   | (with_reducible exact ih4 _ _ _ _ _ _ _ _ _ _ _ _)
   | (with_reducible exact ih5 _ _ _ _ _ _ _ _ _ _ _ _ _ _ _ _)
   | (with_reducible exact ih6 _ _ _)
   | (with_reducible exact ih7 _ _ _ _ _ _)
   | (with_reducible exact ih8 _ _ _ _ _ _ _ _)
   | (with_reducible exact spec_GoodGraph.mono _ _)
   | (with_reducible exact spec_l1Has.mono _ _ _)
   | (with_reducible exact spec_l1Put.mono _ _ _)
   | (with_reducible exact spec_l7Back.mono _ _ _)
   | (with_reducible exact spec_l7Cyclic.mono _ _ _)
   | (with_reducible exact spec_l7Dominators.mono _ _)
   | (with_reducible exact spec_l7Without.mono _ _ _)
   | (with_reducible exact spec_l8Has.mono _ _ _)
   | (with_reducible exact LeO.refl _)
   | (with_reducible exact LeO.none _)
   | (with_reducible refine LeO.ite ?_ ?_)
   | (with_reducible refine LeO.bind ?_ (fun _ => ?_))
   | exact ih0 _ _ _ _ _ _
   | exact ih1 _ _ _ _ _ _ _ _ _ _ _
   | exact ih2 _ _ _ _ _ _ _ _ _ _ _ _
   | exact ih3 _ _ _ _ _ _ _ _ _
   | exact ih4 _ _ _ _ _ _ _ _ _ _ _ _
   | exact ih5 _ _ _ _ _ _ _ _ _ _ _ _ _ _ _ _
   | exact ih6 _ _ _
   | exact ih7 _ _ _ _ _ _
   | exact ih8 _ _ _ _ _ _ _ _
   | exact spec_GoodGraph.mono _ _
   | exact spec_l1Has.mono _ _ _
   | exact spec_l1Put.mono _ _ _
   | exact spec_l7Back.mono _ _ _
   | exact spec_l7Cyclic.mono _ _ _
   | exact spec_l7Dominators.mono _ _
   | exact spec_l7Without.mono _ _ _
   | exact spec_l8Has.mono _ _ _
   | exact LeO.none _
   | refine LeO.ite ?_ ?_
   | refine LeO.bind ?_ (fun _ => ?_)
  ·intro y0 y1 y2 y3 y4 y5
   unfold spec_l8Loops.l7
   repeat' first
   | (with_reducible exact ih0 _ _ _ _ _ _)
   | (with_reducible exact ih1 _ _ _ _ _ _ _ _ _ _ _)
   | (with_reducible exact ih2 _ _ _ _ _ _ _ _ _ _ _ _)
   | (with_reducible exact ih3 _ _ _ _ _ _ _ _ _)
   | (with_reducible exact ih4 _ _ _ _ _ _ _ _ _ _ _ _)
   | (with_reducible exact ih5 _ _ _ _ _ _ _ _ _ _ _ _ _ _ _ _)
   | (with_reducible exact ih6 _ _ _)
   | (with_reducible exact ih7 _ _ _ _ _ _)
   | (with_reducible exact ih8 _ _ _ _ _ _ _ _)
   | (with_reducible exact spec_GoodGraph.mono _ _)
   | (with_reducible exact spec_l1Has.mono _ _ _)
   | (with_reducible exact spec_l1Put.mono _ _ _)
   | (with_reducible exact spec_l7Back.mono _ _ _)
   | (with_reducible exact spec_l7Cyclic.mono _ _ _)
   | (with_reducible exact spec_l7Dominators.mono _ _)
   | (with_reducible exact spec_l7Without.mono _ _ _)
   | (with_reducible exact spec_l8Has.mono _ _ _)
   | (with_reducible exact LeO.refl _)
   | (with_reducible exact LeO.none _)
   | (with_reducible refine LeO.ite ?_ ?_)
   | (with_reducible refine LeO.bind ?_ (fun _ => ?_))
   | exact ih0 _ _ _ _ _ _
   | exact ih1 _ _ _ _ _ _ _ _ _ _ _
   | exact ih2 _ _ _ _ _ _ _ _ _ _ _ _
   | exact ih3 _ _ _ _ _ _ _ _ _
   | exact ih4 _ _ _ _ _ _ _ _ _ _ _ _
   | exact ih5 _ _ _ _ _ _ _ _ _ _ _ _ _ _ _ _
   | exact ih6 _ _ _
   | exact ih7 _ _ _ _ _ _
   | exact ih8 _ _ _ _ _ _ _ _
   | exact spec_GoodGraph.mono _ _
   | exact spec_l1Has.mono _ _ _
   | exact spec_l1Put.mono _ _ _
   | exact spec_l7Back.mono _ _ _
   | exact spec_l7Cyclic.mono _ _ _
   | exact spec_l7Dominators.mono _ _
   | exact spec_l7Without.mono _ _ _
   | exact spec_l8Has.mono _ _ _
   | exact LeO.none _
   | refine LeO.ite ?_ ?_
   | refine LeO.bind ?_ (fun _ => ?_)
  ·intro y0 y1 y2 y3 y4 y5 y6 y7
   unfold spec_l8Loops.j8
   repeat' first
   | (with_reducible exact ih0 _ _ _ _ _ _)
   | (with_reducible exact ih1 _ _ _ _ _ _ _ _ _ _ _)
   | (with_reducible exact ih2 _ _ _ _ _ _ _ _ _ _ _ _)
   | (with_reducible exact ih3 _ _ _ _ _ _ _ _ _)
   | (with_reducible exact ih4 _ _ _ _ _ _ _ _ _ _ _ _)
   | (with_reducible exact ih5 _ _ _ _ _ _ _ _ _ _ _ _ _ _ _ _)
   | (with_reducible exact ih6 _ _ _)
   | (with_reducible exact ih7 _ _ _ _ _ _)
   | (with_reducible exact ih8 _ _ _ _ _ _ _ _)
   | (with_reducible exact spec_GoodGraph.mono _ _)
   | (with_reducible exact spec_l1Has.mono _ _ _)
   | (with_reducible exact spec_l1Put.mono _ _ _)
   | (with_reducible exact spec_l7Back.mono _ _ _)
   | (with_reducible exact spec_l7Cyclic.mono _ _ _)
   | (with_reducible exact spec_l7Dominators.mono _ _)
   | (with_reducible exact spec_l7Without.mono _ _ _)
   | (with_reducible exact spec_l8Has.mono _ _ _)
   | (with_reducible exact LeO.refl _)
   | (with_reducible exact LeO.none _)
   | (with_reducible refine LeO.ite ?_ ?_)
   | (with_reducible refine LeO.bind ?_ (fun _ => ?_))
   | exact ih0 _ _ _ _ _ _
   | exact ih1 _ _ _ _ _ _ _ _ _ _ _
   | exact ih2 _ _ _ _ _ _ _ _ _ _ _ _
   | exact ih3 _ _ _ _ _ _ _ _ _
   | exact ih4 _ _ _ _ _ _ _ _ _ _ _ _
   | exact ih5 _ _ _ _ _ _ _ _ _ _ _ _ _ _ _ _
   | exact ih6 _ _ _
   | exact ih7 _ _ _ _ _ _
   | exact ih8 _ _ _ _ _ _ _ _
   | exact spec_GoodGraph.mono _ _
   | exact spec_l1Has.mono _ _ _
   | exact spec_l1Put.mono _ _ _
   | exact spec_l7Back.mono _ _ _
   | exact spec_l7Cyclic.mono _ _ _
   | exact spec_l7Dominators.mono _ _
   | exact spec_l7Without.mono _ _ _
   | exact spec_l8Has.mono _ _ _
   | exact LeO.none _
   | refine LeO.ite ?_ ?_
   | refine LeO.bind ?_ (fun _ => ?_)
theorem spec_l8Loops.mono : ∀ a0 k,LeO (spec_l8Loops.f k a0) (spec_l8Loops.f (k + 1) a0):=by
 intro a0 k
 obtain ⟨ih0,ih1,ih2,ih3,ih4,ih5,ih6,ih7,ih8⟩:=spec_l8Loops.mono_l k
 unfold spec_l8Loops.f
 repeat' first
   | (with_reducible exact ih0 _ _ _ _ _ _)
   | (with_reducible exact ih1 _ _ _ _ _ _ _ _ _ _ _)
   | (with_reducible exact ih2 _ _ _ _ _ _ _ _ _ _ _ _)
   | (with_reducible exact ih3 _ _ _ _ _ _ _ _ _)
   | (with_reducible exact ih4 _ _ _ _ _ _ _ _ _ _ _ _)
   | (with_reducible exact ih5 _ _ _ _ _ _ _ _ _ _ _ _ _ _ _ _)
   | (with_reducible exact ih6 _ _ _)
   | (with_reducible exact ih7 _ _ _ _ _ _)
   | (with_reducible exact ih8 _ _ _ _ _ _ _ _)
   | (with_reducible exact spec_GoodGraph.mono _ _)
   | (with_reducible exact spec_l1Has.mono _ _ _)
   | (with_reducible exact spec_l1Put.mono _ _ _)
   | (with_reducible exact spec_l7Back.mono _ _ _)
   | (with_reducible exact spec_l7Cyclic.mono _ _ _)
   | (with_reducible exact spec_l7Dominators.mono _ _)
   | (with_reducible exact spec_l7Without.mono _ _ _)
   | (with_reducible exact spec_l8Has.mono _ _ _)
   | (with_reducible exact LeO.refl _)
   | (with_reducible exact LeO.none _)
   | (with_reducible refine LeO.ite ?_ ?_)
   | (with_reducible refine LeO.bind ?_ (fun _ => ?_))
   | exact ih0 _ _ _ _ _ _
   | exact ih1 _ _ _ _ _ _ _ _ _ _ _
   | exact ih2 _ _ _ _ _ _ _ _ _ _ _ _
   | exact ih3 _ _ _ _ _ _ _ _ _
   | exact ih4 _ _ _ _ _ _ _ _ _ _ _ _
   | exact ih5 _ _ _ _ _ _ _ _ _ _ _ _ _ _ _ _
   | exact ih6 _ _ _
   | exact ih7 _ _ _ _ _ _
   | exact ih8 _ _ _ _ _ _ _ _
   | exact spec_GoodGraph.mono _ _
   | exact spec_l1Has.mono _ _ _
   | exact spec_l1Put.mono _ _ _
   | exact spec_l7Back.mono _ _ _
   | exact spec_l7Cyclic.mono _ _ _
   | exact spec_l7Dominators.mono _ _
   | exact spec_l7Without.mono _ _ _
   | exact spec_l8Has.mono _ _ _
   | exact LeO.none _
   | refine LeO.ite ?_ ?_
   | refine LeO.bind ?_ (fun _ => ?_)
set_option maxHeartbeats 8000000 in
set_option maxRecDepth 100000 in
theorem spec_l8Loops.calls (k : Nat) (A0_0 : Option Addr) (c0_0 : Nat) (l0_0 : List (List Int)) (r1 : List (S58)) (r2 : Bool) (w : World) (hr0_0 : Kd.C (Kd.slice 3 (Kd.int .i64)) w A0_0 l0_0.length l0_0) (hc0_0 : l0_0.length ≤ c0_0) (h : spec_l8Loops.f k l0_0 = some (r1,r2)) :
  Calls Try.prog 43 #[.agg #[.slice A0_0 l0_0.length c0_0]] w fun e w' => ∃ v0_ : Value,e = .returned (.tuple #[v0_,.bool r2]) ∧ Kd.S k58 58 w' w.heap.size (fun _ => True) v0_ r1 ∧ Below w.heap.size w w':=by
 have hu28:=Try.underlying28
 have hu58:=Try.underlying58
 have HR0_0:=Aside0.mk hr0_0
 have HC0_0:=Aside0.mk hc0_0
 clear hr0_0 hc0_0
 have HB:=Aside0.mk (Below.refl w.heap.size w)
 have H : ((spec_GoodGraph.f k l0_0).bind fun t185 => (if t185 = true then ((spec_l7Dominators.f k l0_0).bind fun t186 => ((spec_l7Cyclic.f k l0_0 t186).bind fun t189 => (if t189 = true then (some (([] : List (S58)),false)) else ((spec_l7Without.f k l0_0 (-1)).bind fun t190 => ((spec_l7Back.f k l0_0 t186).bind fun t193 => (spec_l8Loops.l0 k t190 t193 ([] : List (S58)) (l0_0.length : Int) 0 l0_0)))))) else (some (([] : List (S58)),false)))) = some (r1,r2):=h
 clear h
 replace H:=Option.bind_eq_some_iff.mp H
 obtain ⟨t185,A20,H⟩:=H
 replace H : (if t185 = true then ((spec_l7Dominators.f k l0_0).bind fun t186 => ((spec_l7Cyclic.f k l0_0 t186).bind fun t189 => (if t189 = true then (some (([] : List (S58)),false)) else ((spec_l7Without.f k l0_0 (-1)).bind fun t190 => ((spec_l7Back.f k l0_0 t186).bind fun t193 => (spec_l8Loops.l0 k t190 t193 ([] : List (S58)) (l0_0.length : Int) 0 l0_0)))))) else (some (([] : List (S58)),false))) = some (r1,r2):=H
 have A2:=Aside0.mk A20
 clear A20
 by_cases c3 : t185 = true
 ·subst c3
  have H1 : ((spec_l7Dominators.f k l0_0).bind fun t186 => ((spec_l7Cyclic.f k l0_0 t186).bind fun t189 => (if t189 = true then (some (([] : List (S58)),false)) else ((spec_l7Without.f k l0_0 (-1)).bind fun t190 => ((spec_l7Back.f k l0_0 t186).bind fun t193 => (spec_l8Loops.l0 k t190 t193 ([] : List (S58)) (l0_0.length : Int) 0 l0_0)))))) = some (r1,r2):=by rw [if_pos rfl] at H;exact H
  clear H
  have H:=H1
  clear H1
  replace H:=Option.bind_eq_some_iff.mp H
  obtain ⟨t186,A40,H⟩:=H
  replace H : ((spec_l7Cyclic.f k l0_0 t186).bind fun t189 => (if t189 = true then (some (([] : List (S58)),false)) else ((spec_l7Without.f k l0_0 (-1)).bind fun t190 => ((spec_l7Back.f k l0_0 t186).bind fun t193 => (spec_l8Loops.l0 k t190 t193 ([] : List (S58)) (l0_0.length : Int) 0 l0_0))))) = some (r1,r2):=H
  have A4:=Aside0.mk A40
  clear A40
  replace H:=Option.bind_eq_some_iff.mp H
  obtain ⟨t189,A50,H⟩:=H
  replace H : (if t189 = true then (some (([] : List (S58)),false)) else ((spec_l7Without.f k l0_0 (-1)).bind fun t190 => ((spec_l7Back.f k l0_0 t186).bind fun t193 => (spec_l8Loops.l0 k t190 t193 ([] : List (S58)) (l0_0.length : Int) 0 l0_0)))) = some (r1,r2):=H
  have A5:=Aside0.mk A50
  clear A50
  by_cases c6 : t189 = true
  ·subst c6
   have H1 : (some (([] : List (S58)),false)) = some (r1,r2):=by rw [if_pos rfl] at H;exact H
   clear H
   have H:=H1
   clear H1
   simp only [Option.some.injEq,Prod.mk.injEq] at H
   obtain ⟨rfl,rfl⟩:=H
   go_enter Try.func43,Try.ntmps43
   go_wp2_with (first | ((with_reducible refine gate_dst (N:=1) rfl ?_);(try (refine gate_guard (by rfl) ?_;dsimp only));refine box_event ?hg (N:=1) ?hd (cs:=#[.slice A0_0 l0_0.length c0_0]) (t:=28) ?hr ?_;(case hd => rfl);(case hg => rfl);(case hr => first | (go_simp;done) | (go_simp;rfl));intro gb184 hg w7 hbox hb;have n0_:=Aside0.mk (below_step (by repeat (first | (with_reducible first | exact HB.out | apply below_alloc | apply pw_below_drewN | apply below_drew1) | exact HB.out)) hb);have n1_:=Aside0.mk (hbox);have n2_:=Aside0.mk ((by rw [hg];exact (below_size (by repeat (first | (with_reducible first | exact HB.out | apply below_alloc | apply pw_below_drewN | apply below_drew1) | exact HB.out))) : w.heap.size ≤ gb184));have n3_:=Aside0.mk ((by rw [hg];exact (below_size (by repeat (first | (with_reducible first | exact HB.out | apply below_alloc | apply pw_below_drewN | apply below_drew1) | exact HB.out))) : w.heap.size ≤ gb184));clear HB;have HB:=n0_;have BK184:=n1_;have GW184:=n2_;have GE184:=n3_;clear n0_ n1_ n2_ n3_;clear hb hbox hg;have hcz8_0 : w7.cell? ⟨gb184,0,none⟩ = some (.slice A0_0 l0_0.length c0_0):=(blk_cell BK184.out 0).trans rfl;have hfz8_0:=blk_frozen BK184.out 0) | (go_at_call 71;(with_reducible refine (spec_GoodGraph.calls k _ _ l0_0 true _ ?side1 ?side2 A2.out).mono ?_);(case side1 => repeat (first | exact (Kd.C_below HR0_0.out HB.out) | (with_reducible refine Kd.C_alloc ?_ _) | (with_reducible refine Kd.C_drewN ?_ _) | (with_reducible refine Kd.C_drew ?_)));(case side2 => exact HC0_0.out);rintro e w9 ⟨rfl,hb⟩;have n0_:=Aside0.mk (blk_below (g:=gb184) (o:=.cells #[.slice A0_0 l0_0.length c0_0] 28 (0,0)) (by (with_reducible repeat (first | refine blk_drewN ?_ _ | refine blk_drew ?_ | refine blk_alloc ?_ _));exact BK184.out) hb);have n1_:=Aside0.mk (below_step (by repeat (first | (with_reducible first | exact HB.out | apply below_alloc | apply pw_below_drewN | apply below_drew1 | refine below_set ?_ GE184.out) | exact HB.out)) hb);clear BK184;clear HB;have BK184:=n0_;have HB:=n1_;clear n0_ n1_;(try clear hb);(try clear hb2);(try clear hk);(try clear hi);have hcz10_0 : w9.cell? ⟨gb184,0,none⟩ = some (.slice A0_0 l0_0.length c0_0):=(blk_cell BK184.out 0).trans rfl;have hfz10_0:=blk_frozen BK184.out 0) | (go_at_call 72;(with_reducible refine (spec_l7Dominators.calls k _ _ l0_0 t186 _ ?side1 ?side2 A4.out).mono ?_);(case side1 => repeat (first | exact (Kd.C_below HR0_0.out HB.out) | (with_reducible refine Kd.C_alloc ?_ _) | (with_reducible refine Kd.C_drewN ?_ _) | (with_reducible refine Kd.C_drew ?_)));(case side2 => exact HC0_0.out);rintro e w11 ⟨v187,rfl,ho0,hb⟩;have n0_:=Aside0.mk (Kd.S_lower ho0 (below_size (by repeat (first | (with_reducible first | exact HB.out | apply below_alloc | apply pw_below_drewN | apply below_drew1 | refine below_set ?_ GE184.out) | exact HB.out))));have n1_:=Aside0.mk (blk_below (g:=gb184) (o:=.cells #[.slice A0_0 l0_0.length c0_0] 28 (0,0)) (by (with_reducible repeat (first | refine blk_drewN ?_ _ | refine blk_drew ?_ | refine blk_alloc ?_ _));exact BK184.out) hb);have n2_:=Aside0.mk (below_step (by repeat (first | (with_reducible first | exact HB.out | apply below_alloc | apply pw_below_drewN | apply below_drew1 | refine below_set ?_ GE184.out) | exact HB.out)) hb);clear BK184;clear HB;have HO188:=n0_;have BK184:=n1_;have HB:=n2_;clear n0_ n1_ n2_;(try clear hb);(try clear hb2);(try clear hk);(try clear hi);(try clear ho0);have hcz12_0 : w11.cell? ⟨gb184,0,none⟩ = some (.slice A0_0 l0_0.length c0_0):=(blk_cell BK184.out 0).trans rfl;have hfz12_0:=blk_frozen BK184.out 0;obtain ⟨Ao13,co13,eo13⟩:=Kd.S_slice HO188.out;subst eo13) | (go_at_call 73;(with_reducible refine (spec_l7Cyclic.calls k _ _ l0_0 _ _ t186 true _ ?side1 ?side2 ?side3 ?side4 A5.out).mono ?_);(case side1 => repeat (first | exact (Kd.C_below HR0_0.out HB.out) | (with_reducible refine Kd.C_alloc ?_ _) | (with_reducible refine Kd.C_drewN ?_ _) | (with_reducible refine Kd.C_drew ?_)));(case side2 => exact HC0_0.out);(case side3 => repeat (first | exact (Kd.S_reads' HO188.out).2.2 | (with_reducible refine Kd.C_alloc ?_ _) | (with_reducible refine Kd.C_drewN ?_ _) | (with_reducible refine Kd.C_drew ?_)));(case side4 => exact (Kd.S_reads' HO188.out).2.1);rintro e w14 ⟨rfl,hb⟩;have n0_:=Aside0.mk (Kd.S_below (by (with_reducible repeat (first | apply Kd.S_alloc | apply Kd.S_drewN | apply Kd.S_drew));exact HO188.out) hb);have n1_:=Aside0.mk (blk_below (g:=gb184) (o:=.cells #[.slice A0_0 l0_0.length c0_0] 28 (0,0)) (by (with_reducible repeat (first | refine blk_drewN ?_ _ | refine blk_drew ?_ | refine blk_alloc ?_ _));exact BK184.out) hb);have n2_:=Aside0.mk (below_step (by repeat (first | (with_reducible first | exact HB.out | apply below_alloc | apply pw_below_drewN | apply below_drew1 | refine below_set ?_ GE184.out) | exact HB.out)) hb);clear HO188;clear BK184;clear HB;have HO188:=n0_;have BK184:=n1_;have HB:=n2_;clear n0_ n1_ n2_;(try clear hb);(try clear hb2);(try clear hk);(try clear hi)))
   repeat (go_quiet (first | ((with_reducible refine gate_dst (N:=1) rfl ?_);(try (refine gate_guard (by rfl) ?_;dsimp only));refine box_event ?hg (N:=1) ?hd (cs:=#[.slice A0_0 l0_0.length c0_0]) (t:=28) ?hr ?_;(case hd => rfl);(case hg => rfl);(case hr => first | (go_simp;done) | (go_simp;rfl));intro gb184 hg w7 hbox hb;have n0_:=Aside0.mk (below_step (by repeat (first | (with_reducible first | exact HB.out | apply below_alloc | apply pw_below_drewN | apply below_drew1) | exact HB.out)) hb);have n1_:=Aside0.mk (hbox);have n2_:=Aside0.mk ((by rw [hg];exact (below_size (by repeat (first | (with_reducible first | exact HB.out | apply below_alloc | apply pw_below_drewN | apply below_drew1) | exact HB.out))) : w.heap.size ≤ gb184));have n3_:=Aside0.mk ((by rw [hg];exact (below_size (by repeat (first | (with_reducible first | exact HB.out | apply below_alloc | apply pw_below_drewN | apply below_drew1) | exact HB.out))) : w.heap.size ≤ gb184));clear HB;have HB:=n0_;have BK184:=n1_;have GW184:=n2_;have GE184:=n3_;clear n0_ n1_ n2_ n3_;clear hb hbox hg;have hcz8_0 : w7.cell? ⟨gb184,0,none⟩ = some (.slice A0_0 l0_0.length c0_0):=(blk_cell BK184.out 0).trans rfl;have hfz8_0:=blk_frozen BK184.out 0) | (go_at_call 71;(with_reducible refine (spec_GoodGraph.calls k _ _ l0_0 true _ ?side1 ?side2 A2.out).mono ?_);(case side1 => repeat (first | exact (Kd.C_below HR0_0.out HB.out) | (with_reducible refine Kd.C_alloc ?_ _) | (with_reducible refine Kd.C_drewN ?_ _) | (with_reducible refine Kd.C_drew ?_)));(case side2 => exact HC0_0.out);rintro e w9 ⟨rfl,hb⟩;have n0_:=Aside0.mk (blk_below (g:=gb184) (o:=.cells #[.slice A0_0 l0_0.length c0_0] 28 (0,0)) (by (with_reducible repeat (first | refine blk_drewN ?_ _ | refine blk_drew ?_ | refine blk_alloc ?_ _));exact BK184.out) hb);have n1_:=Aside0.mk (below_step (by repeat (first | (with_reducible first | exact HB.out | apply below_alloc | apply pw_below_drewN | apply below_drew1 | refine below_set ?_ GE184.out) | exact HB.out)) hb);clear BK184;clear HB;have BK184:=n0_;have HB:=n1_;clear n0_ n1_;(try clear hb);(try clear hb2);(try clear hk);(try clear hi);have hcz10_0 : w9.cell? ⟨gb184,0,none⟩ = some (.slice A0_0 l0_0.length c0_0):=(blk_cell BK184.out 0).trans rfl;have hfz10_0:=blk_frozen BK184.out 0) | (go_at_call 72;(with_reducible refine (spec_l7Dominators.calls k _ _ l0_0 t186 _ ?side1 ?side2 A4.out).mono ?_);(case side1 => repeat (first | exact (Kd.C_below HR0_0.out HB.out) | (with_reducible refine Kd.C_alloc ?_ _) | (with_reducible refine Kd.C_drewN ?_ _) | (with_reducible refine Kd.C_drew ?_)));(case side2 => exact HC0_0.out);rintro e w11 ⟨v187,rfl,ho0,hb⟩;have n0_:=Aside0.mk (Kd.S_lower ho0 (below_size (by repeat (first | (with_reducible first | exact HB.out | apply below_alloc | apply pw_below_drewN | apply below_drew1 | refine below_set ?_ GE184.out) | exact HB.out))));have n1_:=Aside0.mk (blk_below (g:=gb184) (o:=.cells #[.slice A0_0 l0_0.length c0_0] 28 (0,0)) (by (with_reducible repeat (first | refine blk_drewN ?_ _ | refine blk_drew ?_ | refine blk_alloc ?_ _));exact BK184.out) hb);have n2_:=Aside0.mk (below_step (by repeat (first | (with_reducible first | exact HB.out | apply below_alloc | apply pw_below_drewN | apply below_drew1 | refine below_set ?_ GE184.out) | exact HB.out)) hb);clear BK184;clear HB;have HO188:=n0_;have BK184:=n1_;have HB:=n2_;clear n0_ n1_ n2_;(try clear hb);(try clear hb2);(try clear hk);(try clear hi);(try clear ho0);have hcz12_0 : w11.cell? ⟨gb184,0,none⟩ = some (.slice A0_0 l0_0.length c0_0):=(blk_cell BK184.out 0).trans rfl;have hfz12_0:=blk_frozen BK184.out 0;obtain ⟨Ao13,co13,eo13⟩:=Kd.S_slice HO188.out;subst eo13) | (go_at_call 73;(with_reducible refine (spec_l7Cyclic.calls k _ _ l0_0 _ _ t186 true _ ?side1 ?side2 ?side3 ?side4 A5.out).mono ?_);(case side1 => repeat (first | exact (Kd.C_below HR0_0.out HB.out) | (with_reducible refine Kd.C_alloc ?_ _) | (with_reducible refine Kd.C_drewN ?_ _) | (with_reducible refine Kd.C_drew ?_)));(case side2 => exact HC0_0.out);(case side3 => repeat (first | exact (Kd.S_reads' HO188.out).2.2 | (with_reducible refine Kd.C_alloc ?_ _) | (with_reducible refine Kd.C_drewN ?_ _) | (with_reducible refine Kd.C_drew ?_)));(case side4 => exact (Kd.S_reads' HO188.out).2.1);rintro e w14 ⟨rfl,hb⟩;have n0_:=Aside0.mk (Kd.S_below (by (with_reducible repeat (first | apply Kd.S_alloc | apply Kd.S_drewN | apply Kd.S_drew));exact HO188.out) hb);have n1_:=Aside0.mk (blk_below (g:=gb184) (o:=.cells #[.slice A0_0 l0_0.length c0_0] 28 (0,0)) (by (with_reducible repeat (first | refine blk_drewN ?_ _ | refine blk_drew ?_ | refine blk_alloc ?_ _));exact BK184.out) hb);have n2_:=Aside0.mk (below_step (by repeat (first | (with_reducible first | exact HB.out | apply below_alloc | apply pw_below_drewN | apply below_drew1 | refine below_set ?_ GE184.out) | exact HB.out)) hb);clear HO188;clear BK184;clear HB;have HO188:=n0_;have BK184:=n1_;have HB:=n2_;clear n0_ n1_ n2_;(try clear hb);(try clear hb2);(try clear hk);(try clear hi)));try go_wp2_with (first | ((with_reducible refine gate_dst (N:=1) rfl ?_);(try (refine gate_guard (by rfl) ?_;dsimp only));refine box_event ?hg (N:=1) ?hd (cs:=#[.slice A0_0 l0_0.length c0_0]) (t:=28) ?hr ?_;(case hd => rfl);(case hg => rfl);(case hr => first | (go_simp;done) | (go_simp;rfl));intro gb184 hg w7 hbox hb;have n0_:=Aside0.mk (below_step (by repeat (first | (with_reducible first | exact HB.out | apply below_alloc | apply pw_below_drewN | apply below_drew1) | exact HB.out)) hb);have n1_:=Aside0.mk (hbox);have n2_:=Aside0.mk ((by rw [hg];exact (below_size (by repeat (first | (with_reducible first | exact HB.out | apply below_alloc | apply pw_below_drewN | apply below_drew1) | exact HB.out))) : w.heap.size ≤ gb184));have n3_:=Aside0.mk ((by rw [hg];exact (below_size (by repeat (first | (with_reducible first | exact HB.out | apply below_alloc | apply pw_below_drewN | apply below_drew1) | exact HB.out))) : w.heap.size ≤ gb184));clear HB;have HB:=n0_;have BK184:=n1_;have GW184:=n2_;have GE184:=n3_;clear n0_ n1_ n2_ n3_;clear hb hbox hg;have hcz8_0 : w7.cell? ⟨gb184,0,none⟩ = some (.slice A0_0 l0_0.length c0_0):=(blk_cell BK184.out 0).trans rfl;have hfz8_0:=blk_frozen BK184.out 0) | (go_at_call 71;(with_reducible refine (spec_GoodGraph.calls k _ _ l0_0 true _ ?side1 ?side2 A2.out).mono ?_);(case side1 => repeat (first | exact (Kd.C_below HR0_0.out HB.out) | (with_reducible refine Kd.C_alloc ?_ _) | (with_reducible refine Kd.C_drewN ?_ _) | (with_reducible refine Kd.C_drew ?_)));(case side2 => exact HC0_0.out);rintro e w9 ⟨rfl,hb⟩;have n0_:=Aside0.mk (blk_below (g:=gb184) (o:=.cells #[.slice A0_0 l0_0.length c0_0] 28 (0,0)) (by (with_reducible repeat (first | refine blk_drewN ?_ _ | refine blk_drew ?_ | refine blk_alloc ?_ _));exact BK184.out) hb);have n1_:=Aside0.mk (below_step (by repeat (first | (with_reducible first | exact HB.out | apply below_alloc | apply pw_below_drewN | apply below_drew1 | refine below_set ?_ GE184.out) | exact HB.out)) hb);clear BK184;clear HB;have BK184:=n0_;have HB:=n1_;clear n0_ n1_;(try clear hb);(try clear hb2);(try clear hk);(try clear hi);have hcz10_0 : w9.cell? ⟨gb184,0,none⟩ = some (.slice A0_0 l0_0.length c0_0):=(blk_cell BK184.out 0).trans rfl;have hfz10_0:=blk_frozen BK184.out 0) | (go_at_call 72;(with_reducible refine (spec_l7Dominators.calls k _ _ l0_0 t186 _ ?side1 ?side2 A4.out).mono ?_);(case side1 => repeat (first | exact (Kd.C_below HR0_0.out HB.out) | (with_reducible refine Kd.C_alloc ?_ _) | (with_reducible refine Kd.C_drewN ?_ _) | (with_reducible refine Kd.C_drew ?_)));(case side2 => exact HC0_0.out);rintro e w11 ⟨v187,rfl,ho0,hb⟩;have n0_:=Aside0.mk (Kd.S_lower ho0 (below_size (by repeat (first | (with_reducible first | exact HB.out | apply below_alloc | apply pw_below_drewN | apply below_drew1 | refine below_set ?_ GE184.out) | exact HB.out))));have n1_:=Aside0.mk (blk_below (g:=gb184) (o:=.cells #[.slice A0_0 l0_0.length c0_0] 28 (0,0)) (by (with_reducible repeat (first | refine blk_drewN ?_ _ | refine blk_drew ?_ | refine blk_alloc ?_ _));exact BK184.out) hb);have n2_:=Aside0.mk (below_step (by repeat (first | (with_reducible first | exact HB.out | apply below_alloc | apply pw_below_drewN | apply below_drew1 | refine below_set ?_ GE184.out) | exact HB.out)) hb);clear BK184;clear HB;have HO188:=n0_;have BK184:=n1_;have HB:=n2_;clear n0_ n1_ n2_;(try clear hb);(try clear hb2);(try clear hk);(try clear hi);(try clear ho0);have hcz12_0 : w11.cell? ⟨gb184,0,none⟩ = some (.slice A0_0 l0_0.length c0_0):=(blk_cell BK184.out 0).trans rfl;have hfz12_0:=blk_frozen BK184.out 0;obtain ⟨Ao13,co13,eo13⟩:=Kd.S_slice HO188.out;subst eo13) | (go_at_call 73;(with_reducible refine (spec_l7Cyclic.calls k _ _ l0_0 _ _ t186 true _ ?side1 ?side2 ?side3 ?side4 A5.out).mono ?_);(case side1 => repeat (first | exact (Kd.C_below HR0_0.out HB.out) | (with_reducible refine Kd.C_alloc ?_ _) | (with_reducible refine Kd.C_drewN ?_ _) | (with_reducible refine Kd.C_drew ?_)));(case side2 => exact HC0_0.out);(case side3 => repeat (first | exact (Kd.S_reads' HO188.out).2.2 | (with_reducible refine Kd.C_alloc ?_ _) | (with_reducible refine Kd.C_drewN ?_ _) | (with_reducible refine Kd.C_drew ?_)));(case side4 => exact (Kd.S_reads' HO188.out).2.1);rintro e w14 ⟨rfl,hb⟩;have n0_:=Aside0.mk (Kd.S_below (by (with_reducible repeat (first | apply Kd.S_alloc | apply Kd.S_drewN | apply Kd.S_drew));exact HO188.out) hb);have n1_:=Aside0.mk (blk_below (g:=gb184) (o:=.cells #[.slice A0_0 l0_0.length c0_0] 28 (0,0)) (by (with_reducible repeat (first | refine blk_drewN ?_ _ | refine blk_drew ?_ | refine blk_alloc ?_ _));exact BK184.out) hb);have n2_:=Aside0.mk (below_step (by repeat (first | (with_reducible first | exact HB.out | apply below_alloc | apply pw_below_drewN | apply below_drew1 | refine below_set ?_ GE184.out) | exact HB.out)) hb);clear HO188;clear BK184;clear HB;have HO188:=n0_;have BK184:=n1_;have HB:=n2_;clear n0_ n1_ n2_;(try clear hb);(try clear hb2);(try clear hk);(try clear hi))))
   go_ret2
   exact ⟨_,by first | rfl | (simp [errW_none,errW_some] <;> rfl) | (simp [*,errW_none,errW_some] <;> rfl),by first | exact Kd.S_nil _ _ _ _ _ | exact Kd.N_nil _ _ _ _ _ | exact Kd.V_nil _ _ _ _ _ | exact Kd.Q_nil _ _ _ _ _ | exact Kd.R_nil _ _ _ _ _,by repeat (first | (with_reducible first | exact HB.out | apply below_alloc | apply pw_below_drewN | apply below_drew1 | refine below_set ?_ GE184.out) | exact HB.out)⟩
  ·replace c6:=Bool.eq_false_iff.mpr c6
   subst c6
   have H1 : ((spec_l7Without.f k l0_0 (-1)).bind fun t190 => ((spec_l7Back.f k l0_0 t186).bind fun t193 => (spec_l8Loops.l0 k t190 t193 ([] : List (S58)) (l0_0.length : Int) 0 l0_0))) = some (r1,r2):=by rw [if_neg (show ¬ (false = true) by decide)] at H;exact H
   clear H
   have H:=H1
   clear H1
   replace H:=Option.bind_eq_some_iff.mp H
   obtain ⟨t190,A150,H⟩:=H
   replace H : ((spec_l7Back.f k l0_0 t186).bind fun t193 => (spec_l8Loops.l0 k t190 t193 ([] : List (S58)) (l0_0.length : Int) 0 l0_0)) = some (r1,r2):=H
   have A15:=Aside0.mk A150
   clear A150
   replace H:=Option.bind_eq_some_iff.mp H
   obtain ⟨t193,A160,H⟩:=H
   replace H : (spec_l8Loops.l0 k t190 t193 ([] : List (S58)) (l0_0.length : Int) 0 l0_0) = some (r1,r2):=H
   have A16:=Aside0.mk A160
   clear A160
   have H':=Aside0.mk H
   clear H
   go_enter Try.func43,Try.ntmps43
   go_wp2_with (first | ((with_reducible refine gate_dst (N:=1) rfl ?_);(try (refine gate_guard (by rfl) ?_;dsimp only));refine box_event ?hg (N:=1) ?hd (cs:=#[.slice A0_0 l0_0.length c0_0]) (t:=28) ?hr ?_;(case hd => rfl);(case hg => rfl);(case hr => first | (go_simp;done) | (go_simp;rfl));intro gb184 hg w17 hbox hb;have n0_:=Aside0.mk (below_step (by repeat (first | (with_reducible first | exact HB.out | apply below_alloc | apply pw_below_drewN | apply below_drew1) | exact HB.out)) hb);have n1_:=Aside0.mk (hbox);have n2_:=Aside0.mk ((by rw [hg];exact (below_size (by repeat (first | (with_reducible first | exact HB.out | apply below_alloc | apply pw_below_drewN | apply below_drew1) | exact HB.out))) : w.heap.size ≤ gb184));have n3_:=Aside0.mk ((by rw [hg];exact (below_size (by repeat (first | (with_reducible first | exact HB.out | apply below_alloc | apply pw_below_drewN | apply below_drew1) | exact HB.out))) : w.heap.size ≤ gb184));clear HB;have HB:=n0_;have BK184:=n1_;have GW184:=n2_;have GE184:=n3_;clear n0_ n1_ n2_ n3_;clear hb hbox hg;have hcz18_0 : w17.cell? ⟨gb184,0,none⟩ = some (.slice A0_0 l0_0.length c0_0):=(blk_cell BK184.out 0).trans rfl;have hfz18_0:=blk_frozen BK184.out 0) | (go_at_call 71;(with_reducible refine (spec_GoodGraph.calls k _ _ l0_0 true _ ?side1 ?side2 A2.out).mono ?_);(case side1 => repeat (first | exact (Kd.C_below HR0_0.out HB.out) | (with_reducible refine Kd.C_alloc ?_ _) | (with_reducible refine Kd.C_drewN ?_ _) | (with_reducible refine Kd.C_drew ?_)));(case side2 => exact HC0_0.out);rintro e w19 ⟨rfl,hb⟩;have n0_:=Aside0.mk (blk_below (g:=gb184) (o:=.cells #[.slice A0_0 l0_0.length c0_0] 28 (0,0)) (by (with_reducible repeat (first | refine blk_drewN ?_ _ | refine blk_drew ?_ | refine blk_alloc ?_ _));exact BK184.out) hb);have n1_:=Aside0.mk (below_step (by repeat (first | (with_reducible first | exact HB.out | apply below_alloc | apply pw_below_drewN | apply below_drew1 | refine below_set ?_ GE184.out) | exact HB.out)) hb);clear BK184;clear HB;have BK184:=n0_;have HB:=n1_;clear n0_ n1_;(try clear hb);(try clear hb2);(try clear hk);(try clear hi);have hcz20_0 : w19.cell? ⟨gb184,0,none⟩ = some (.slice A0_0 l0_0.length c0_0):=(blk_cell BK184.out 0).trans rfl;have hfz20_0:=blk_frozen BK184.out 0) | (go_at_call 72;(with_reducible refine (spec_l7Dominators.calls k _ _ l0_0 t186 _ ?side1 ?side2 A4.out).mono ?_);(case side1 => repeat (first | exact (Kd.C_below HR0_0.out HB.out) | (with_reducible refine Kd.C_alloc ?_ _) | (with_reducible refine Kd.C_drewN ?_ _) | (with_reducible refine Kd.C_drew ?_)));(case side2 => exact HC0_0.out);rintro e w21 ⟨v187,rfl,ho0,hb⟩;have n0_:=Aside0.mk (Kd.S_lower ho0 (below_size (by repeat (first | (with_reducible first | exact HB.out | apply below_alloc | apply pw_below_drewN | apply below_drew1 | refine below_set ?_ GE184.out) | exact HB.out))));have n1_:=Aside0.mk (blk_below (g:=gb184) (o:=.cells #[.slice A0_0 l0_0.length c0_0] 28 (0,0)) (by (with_reducible repeat (first | refine blk_drewN ?_ _ | refine blk_drew ?_ | refine blk_alloc ?_ _));exact BK184.out) hb);have n2_:=Aside0.mk (below_step (by repeat (first | (with_reducible first | exact HB.out | apply below_alloc | apply pw_below_drewN | apply below_drew1 | refine below_set ?_ GE184.out) | exact HB.out)) hb);clear BK184;clear HB;have HO188:=n0_;have BK184:=n1_;have HB:=n2_;clear n0_ n1_ n2_;(try clear hb);(try clear hb2);(try clear hk);(try clear hi);(try clear ho0);have hcz22_0 : w21.cell? ⟨gb184,0,none⟩ = some (.slice A0_0 l0_0.length c0_0):=(blk_cell BK184.out 0).trans rfl;have hfz22_0:=blk_frozen BK184.out 0;obtain ⟨Ao23,co23,eo23⟩:=Kd.S_slice HO188.out;subst eo23) | (go_at_call 73;(with_reducible refine (spec_l7Cyclic.calls k _ _ l0_0 _ _ t186 false _ ?side1 ?side2 ?side3 ?side4 A5.out).mono ?_);(case side1 => repeat (first | exact (Kd.C_below HR0_0.out HB.out) | (with_reducible refine Kd.C_alloc ?_ _) | (with_reducible refine Kd.C_drewN ?_ _) | (with_reducible refine Kd.C_drew ?_)));(case side2 => exact HC0_0.out);(case side3 => repeat (first | exact (Kd.S_reads' HO188.out).2.2 | (with_reducible refine Kd.C_alloc ?_ _) | (with_reducible refine Kd.C_drewN ?_ _) | (with_reducible refine Kd.C_drew ?_)));(case side4 => exact (Kd.S_reads' HO188.out).2.1);rintro e w24 ⟨rfl,hb⟩;have n0_:=Aside0.mk (Kd.S_below (by (with_reducible repeat (first | apply Kd.S_alloc | apply Kd.S_drewN | apply Kd.S_drew));exact HO188.out) hb);have n1_:=Aside0.mk (blk_below (g:=gb184) (o:=.cells #[.slice A0_0 l0_0.length c0_0] 28 (0,0)) (by (with_reducible repeat (first | refine blk_drewN ?_ _ | refine blk_drew ?_ | refine blk_alloc ?_ _));exact BK184.out) hb);have n2_:=Aside0.mk (below_step (by repeat (first | (with_reducible first | exact HB.out | apply below_alloc | apply pw_below_drewN | apply below_drew1 | refine below_set ?_ GE184.out) | exact HB.out)) hb);clear HO188;clear BK184;clear HB;have HO188:=n0_;have BK184:=n1_;have HB:=n2_;clear n0_ n1_ n2_;(try clear hb);(try clear hb2);(try clear hk);(try clear hi);have hcz25_0 : w24.cell? ⟨gb184,0,none⟩ = some (.slice A0_0 l0_0.length c0_0):=(blk_cell BK184.out 0).trans rfl;have hfz25_0:=blk_frozen BK184.out 0) | (go_at_call 54;(with_reducible refine (spec_l7Without.calls k _ _ l0_0 (-1) t190 _ ?side1 ?side2 A15.out).mono ?_);(case side1 => repeat (first | exact (Kd.C_below HR0_0.out HB.out) | (with_reducible refine Kd.C_alloc ?_ _) | (with_reducible refine Kd.C_drewN ?_ _) | (with_reducible refine Kd.C_drew ?_)));(case side2 => exact HC0_0.out);rintro e w26 ⟨v191,rfl,ho0,hb⟩;have n0_:=Aside0.mk (Kd.S_elder' (by (with_reducible repeat (first | apply Kd.S_alloc | apply Kd.S_drewN | apply Kd.S_drew));exact HO188.out) (Kd.R_base ho0) hb);have n1_:=Aside0.mk (Kd.R_lower ho0 (below_size (by repeat (first | (with_reducible first | exact HB.out | apply below_alloc | apply pw_below_drewN | apply below_drew1 | refine below_set ?_ GE184.out) | exact HB.out))));have n2_:=Aside0.mk (blk_below (g:=gb184) (o:=.cells #[.slice A0_0 l0_0.length c0_0] 28 (0,0)) (by (with_reducible repeat (first | refine blk_drewN ?_ _ | refine blk_drew ?_ | refine blk_alloc ?_ _));exact BK184.out) hb);have n3_:=Aside0.mk (below_step (by repeat (first | (with_reducible first | exact HB.out | apply below_alloc | apply pw_below_drewN | apply below_drew1 | refine below_set ?_ GE184.out) | exact HB.out)) hb);clear HO188;clear BK184;clear HB;have HO188:=n0_;have HO192:=n1_;have BK184:=n2_;have HB:=n3_;clear n0_ n1_ n2_ n3_;(try clear hb);(try clear hb2);(try clear hk);(try clear hi);(try clear ho0);have hcz27_0 : w26.cell? ⟨gb184,0,none⟩ = some (.slice A0_0 l0_0.length c0_0):=(blk_cell BK184.out 0).trans rfl;have hfz27_0:=blk_frozen BK184.out 0) | (go_at_call 74;(with_reducible refine (spec_l7Back.calls k _ _ l0_0 _ _ t186 t193 _ ?side1 ?side2 ?side3 ?side4 A16.out).mono ?_);(case side1 => repeat (first | exact (Kd.C_below HR0_0.out HB.out) | (with_reducible refine Kd.C_alloc ?_ _) | (with_reducible refine Kd.C_drewN ?_ _) | (with_reducible refine Kd.C_drew ?_)));(case side2 => exact HC0_0.out);(case side3 => repeat (first | exact (Kd.S_reads' HO188.out).2.2 | (with_reducible refine Kd.C_alloc ?_ _) | (with_reducible refine Kd.C_drewN ?_ _) | (with_reducible refine Kd.C_drew ?_)));(case side4 => exact (Kd.S_reads' HO188.out).2.1);rintro e w28 ⟨v194,rfl,ho0,hb⟩;have n0_:=Aside0.mk (Kd.S_elder' (by (with_reducible repeat (first | apply Kd.S_alloc | apply Kd.S_drewN | apply Kd.S_drew));exact HO188.out) (Kd.S_base ho0) hb);have n1_:=Aside0.mk (Kd.R_below (by (with_reducible repeat (first | apply Kd.R_alloc | apply Kd.R_drewN | apply Kd.R_drew));exact HO192.out) hb);have n2_:=Aside0.mk (Kd.S_lower (Kd.S_new' (Kd.S_new' ho0 (Kd.S_lt (by (with_reducible repeat (first | apply Kd.S_alloc | apply Kd.S_drewN | apply Kd.S_drew));exact HO188.out))) (Kd.R_lt (by (with_reducible repeat (first | apply Kd.R_alloc | apply Kd.R_drewN | apply Kd.R_drew));exact HO192.out))) (below_size (by repeat (first | (with_reducible first | exact HB.out | apply below_alloc | apply pw_below_drewN | apply below_drew1 | refine below_set ?_ GE184.out) | exact HB.out))));have n3_:=Aside0.mk (blk_below (g:=gb184) (o:=.cells #[.slice A0_0 l0_0.length c0_0] 28 (0,0)) (by (with_reducible repeat (first | refine blk_drewN ?_ _ | refine blk_drew ?_ | refine blk_alloc ?_ _));exact BK184.out) hb);have n4_:=Aside0.mk (below_step (by repeat (first | (with_reducible first | exact HB.out | apply below_alloc | apply pw_below_drewN | apply below_drew1 | refine below_set ?_ GE184.out) | exact HB.out)) hb);clear HO188;clear HO192;clear BK184;clear HB;have HO188:=n0_;have HO192:=n1_;have HO195:=n2_;have BK184:=n3_;have HB:=n4_;clear n0_ n1_ n2_ n3_ n4_;(try clear hb);(try clear hb2);(try clear hk);(try clear hi);(try clear ho0);have hcz29_0 : w28.cell? ⟨gb184,0,none⟩ = some (.slice A0_0 l0_0.length c0_0):=(blk_cell BK184.out 0).trans rfl;have hfz29_0:=blk_frozen BK184.out 0))
   repeat (go_quiet (first | ((with_reducible refine gate_dst (N:=1) rfl ?_);(try (refine gate_guard (by rfl) ?_;dsimp only));refine box_event ?hg (N:=1) ?hd (cs:=#[.slice A0_0 l0_0.length c0_0]) (t:=28) ?hr ?_;(case hd => rfl);(case hg => rfl);(case hr => first | (go_simp;done) | (go_simp;rfl));intro gb184 hg w17 hbox hb;have n0_:=Aside0.mk (below_step (by repeat (first | (with_reducible first | exact HB.out | apply below_alloc | apply pw_below_drewN | apply below_drew1) | exact HB.out)) hb);have n1_:=Aside0.mk (hbox);have n2_:=Aside0.mk ((by rw [hg];exact (below_size (by repeat (first | (with_reducible first | exact HB.out | apply below_alloc | apply pw_below_drewN | apply below_drew1) | exact HB.out))) : w.heap.size ≤ gb184));have n3_:=Aside0.mk ((by rw [hg];exact (below_size (by repeat (first | (with_reducible first | exact HB.out | apply below_alloc | apply pw_below_drewN | apply below_drew1) | exact HB.out))) : w.heap.size ≤ gb184));clear HB;have HB:=n0_;have BK184:=n1_;have GW184:=n2_;have GE184:=n3_;clear n0_ n1_ n2_ n3_;clear hb hbox hg;have hcz18_0 : w17.cell? ⟨gb184,0,none⟩ = some (.slice A0_0 l0_0.length c0_0):=(blk_cell BK184.out 0).trans rfl;have hfz18_0:=blk_frozen BK184.out 0) | (go_at_call 71;(with_reducible refine (spec_GoodGraph.calls k _ _ l0_0 true _ ?side1 ?side2 A2.out).mono ?_);(case side1 => repeat (first | exact (Kd.C_below HR0_0.out HB.out) | (with_reducible refine Kd.C_alloc ?_ _) | (with_reducible refine Kd.C_drewN ?_ _) | (with_reducible refine Kd.C_drew ?_)));(case side2 => exact HC0_0.out);rintro e w19 ⟨rfl,hb⟩;have n0_:=Aside0.mk (blk_below (g:=gb184) (o:=.cells #[.slice A0_0 l0_0.length c0_0] 28 (0,0)) (by (with_reducible repeat (first | refine blk_drewN ?_ _ | refine blk_drew ?_ | refine blk_alloc ?_ _));exact BK184.out) hb);have n1_:=Aside0.mk (below_step (by repeat (first | (with_reducible first | exact HB.out | apply below_alloc | apply pw_below_drewN | apply below_drew1 | refine below_set ?_ GE184.out) | exact HB.out)) hb);clear BK184;clear HB;have BK184:=n0_;have HB:=n1_;clear n0_ n1_;(try clear hb);(try clear hb2);(try clear hk);(try clear hi);have hcz20_0 : w19.cell? ⟨gb184,0,none⟩ = some (.slice A0_0 l0_0.length c0_0):=(blk_cell BK184.out 0).trans rfl;have hfz20_0:=blk_frozen BK184.out 0) | (go_at_call 72;(with_reducible refine (spec_l7Dominators.calls k _ _ l0_0 t186 _ ?side1 ?side2 A4.out).mono ?_);(case side1 => repeat (first | exact (Kd.C_below HR0_0.out HB.out) | (with_reducible refine Kd.C_alloc ?_ _) | (with_reducible refine Kd.C_drewN ?_ _) | (with_reducible refine Kd.C_drew ?_)));(case side2 => exact HC0_0.out);rintro e w21 ⟨v187,rfl,ho0,hb⟩;have n0_:=Aside0.mk (Kd.S_lower ho0 (below_size (by repeat (first | (with_reducible first | exact HB.out | apply below_alloc | apply pw_below_drewN | apply below_drew1 | refine below_set ?_ GE184.out) | exact HB.out))));have n1_:=Aside0.mk (blk_below (g:=gb184) (o:=.cells #[.slice A0_0 l0_0.length c0_0] 28 (0,0)) (by (with_reducible repeat (first | refine blk_drewN ?_ _ | refine blk_drew ?_ | refine blk_alloc ?_ _));exact BK184.out) hb);have n2_:=Aside0.mk (below_step (by repeat (first | (with_reducible first | exact HB.out | apply below_alloc | apply pw_below_drewN | apply below_drew1 | refine below_set ?_ GE184.out) | exact HB.out)) hb);clear BK184;clear HB;have HO188:=n0_;have BK184:=n1_;have HB:=n2_;clear n0_ n1_ n2_;(try clear hb);(try clear hb2);(try clear hk);(try clear hi);(try clear ho0);have hcz22_0 : w21.cell? ⟨gb184,0,none⟩ = some (.slice A0_0 l0_0.length c0_0):=(blk_cell BK184.out 0).trans rfl;have hfz22_0:=blk_frozen BK184.out 0;obtain ⟨Ao23,co23,eo23⟩:=Kd.S_slice HO188.out;subst eo23) | (go_at_call 73;(with_reducible refine (spec_l7Cyclic.calls k _ _ l0_0 _ _ t186 false _ ?side1 ?side2 ?side3 ?side4 A5.out).mono ?_);(case side1 => repeat (first | exact (Kd.C_below HR0_0.out HB.out) | (with_reducible refine Kd.C_alloc ?_ _) | (with_reducible refine Kd.C_drewN ?_ _) | (with_reducible refine Kd.C_drew ?_)));(case side2 => exact HC0_0.out);(case side3 => repeat (first | exact (Kd.S_reads' HO188.out).2.2 | (with_reducible refine Kd.C_alloc ?_ _) | (with_reducible refine Kd.C_drewN ?_ _) | (with_reducible refine Kd.C_drew ?_)));(case side4 => exact (Kd.S_reads' HO188.out).2.1);rintro e w24 ⟨rfl,hb⟩;have n0_:=Aside0.mk (Kd.S_below (by (with_reducible repeat (first | apply Kd.S_alloc | apply Kd.S_drewN | apply Kd.S_drew));exact HO188.out) hb);have n1_:=Aside0.mk (blk_below (g:=gb184) (o:=.cells #[.slice A0_0 l0_0.length c0_0] 28 (0,0)) (by (with_reducible repeat (first | refine blk_drewN ?_ _ | refine blk_drew ?_ | refine blk_alloc ?_ _));exact BK184.out) hb);have n2_:=Aside0.mk (below_step (by repeat (first | (with_reducible first | exact HB.out | apply below_alloc | apply pw_below_drewN | apply below_drew1 | refine below_set ?_ GE184.out) | exact HB.out)) hb);clear HO188;clear BK184;clear HB;have HO188:=n0_;have BK184:=n1_;have HB:=n2_;clear n0_ n1_ n2_;(try clear hb);(try clear hb2);(try clear hk);(try clear hi);have hcz25_0 : w24.cell? ⟨gb184,0,none⟩ = some (.slice A0_0 l0_0.length c0_0):=(blk_cell BK184.out 0).trans rfl;have hfz25_0:=blk_frozen BK184.out 0) | (go_at_call 54;(with_reducible refine (spec_l7Without.calls k _ _ l0_0 (-1) t190 _ ?side1 ?side2 A15.out).mono ?_);(case side1 => repeat (first | exact (Kd.C_below HR0_0.out HB.out) | (with_reducible refine Kd.C_alloc ?_ _) | (with_reducible refine Kd.C_drewN ?_ _) | (with_reducible refine Kd.C_drew ?_)));(case side2 => exact HC0_0.out);rintro e w26 ⟨v191,rfl,ho0,hb⟩;have n0_:=Aside0.mk (Kd.S_elder' (by (with_reducible repeat (first | apply Kd.S_alloc | apply Kd.S_drewN | apply Kd.S_drew));exact HO188.out) (Kd.R_base ho0) hb);have n1_:=Aside0.mk (Kd.R_lower ho0 (below_size (by repeat (first | (with_reducible first | exact HB.out | apply below_alloc | apply pw_below_drewN | apply below_drew1 | refine below_set ?_ GE184.out) | exact HB.out))));have n2_:=Aside0.mk (blk_below (g:=gb184) (o:=.cells #[.slice A0_0 l0_0.length c0_0] 28 (0,0)) (by (with_reducible repeat (first | refine blk_drewN ?_ _ | refine blk_drew ?_ | refine blk_alloc ?_ _));exact BK184.out) hb);have n3_:=Aside0.mk (below_step (by repeat (first | (with_reducible first | exact HB.out | apply below_alloc | apply pw_below_drewN | apply below_drew1 | refine below_set ?_ GE184.out) | exact HB.out)) hb);clear HO188;clear BK184;clear HB;have HO188:=n0_;have HO192:=n1_;have BK184:=n2_;have HB:=n3_;clear n0_ n1_ n2_ n3_;(try clear hb);(try clear hb2);(try clear hk);(try clear hi);(try clear ho0);have hcz27_0 : w26.cell? ⟨gb184,0,none⟩ = some (.slice A0_0 l0_0.length c0_0):=(blk_cell BK184.out 0).trans rfl;have hfz27_0:=blk_frozen BK184.out 0) | (go_at_call 74;(with_reducible refine (spec_l7Back.calls k _ _ l0_0 _ _ t186 t193 _ ?side1 ?side2 ?side3 ?side4 A16.out).mono ?_);(case side1 => repeat (first | exact (Kd.C_below HR0_0.out HB.out) | (with_reducible refine Kd.C_alloc ?_ _) | (with_reducible refine Kd.C_drewN ?_ _) | (with_reducible refine Kd.C_drew ?_)));(case side2 => exact HC0_0.out);(case side3 => repeat (first | exact (Kd.S_reads' HO188.out).2.2 | (with_reducible refine Kd.C_alloc ?_ _) | (with_reducible refine Kd.C_drewN ?_ _) | (with_reducible refine Kd.C_drew ?_)));(case side4 => exact (Kd.S_reads' HO188.out).2.1);rintro e w28 ⟨v194,rfl,ho0,hb⟩;have n0_:=Aside0.mk (Kd.S_elder' (by (with_reducible repeat (first | apply Kd.S_alloc | apply Kd.S_drewN | apply Kd.S_drew));exact HO188.out) (Kd.S_base ho0) hb);have n1_:=Aside0.mk (Kd.R_below (by (with_reducible repeat (first | apply Kd.R_alloc | apply Kd.R_drewN | apply Kd.R_drew));exact HO192.out) hb);have n2_:=Aside0.mk (Kd.S_lower (Kd.S_new' (Kd.S_new' ho0 (Kd.S_lt (by (with_reducible repeat (first | apply Kd.S_alloc | apply Kd.S_drewN | apply Kd.S_drew));exact HO188.out))) (Kd.R_lt (by (with_reducible repeat (first | apply Kd.R_alloc | apply Kd.R_drewN | apply Kd.R_drew));exact HO192.out))) (below_size (by repeat (first | (with_reducible first | exact HB.out | apply below_alloc | apply pw_below_drewN | apply below_drew1 | refine below_set ?_ GE184.out) | exact HB.out))));have n3_:=Aside0.mk (blk_below (g:=gb184) (o:=.cells #[.slice A0_0 l0_0.length c0_0] 28 (0,0)) (by (with_reducible repeat (first | refine blk_drewN ?_ _ | refine blk_drew ?_ | refine blk_alloc ?_ _));exact BK184.out) hb);have n4_:=Aside0.mk (below_step (by repeat (first | (with_reducible first | exact HB.out | apply below_alloc | apply pw_below_drewN | apply below_drew1 | refine below_set ?_ GE184.out) | exact HB.out)) hb);clear HO188;clear HO192;clear BK184;clear HB;have HO188:=n0_;have HO192:=n1_;have HO195:=n2_;have BK184:=n3_;have HB:=n4_;clear n0_ n1_ n2_ n3_ n4_;(try clear hb);(try clear hb2);(try clear hk);(try clear hi);(try clear ho0);have hcz29_0 : w28.cell? ⟨gb184,0,none⟩ = some (.slice A0_0 l0_0.length c0_0):=(blk_cell BK184.out 0).trans rfl;have hfz29_0:=blk_frozen BK184.out 0));try go_wp2_with (first | ((with_reducible refine gate_dst (N:=1) rfl ?_);(try (refine gate_guard (by rfl) ?_;dsimp only));refine box_event ?hg (N:=1) ?hd (cs:=#[.slice A0_0 l0_0.length c0_0]) (t:=28) ?hr ?_;(case hd => rfl);(case hg => rfl);(case hr => first | (go_simp;done) | (go_simp;rfl));intro gb184 hg w17 hbox hb;have n0_:=Aside0.mk (below_step (by repeat (first | (with_reducible first | exact HB.out | apply below_alloc | apply pw_below_drewN | apply below_drew1) | exact HB.out)) hb);have n1_:=Aside0.mk (hbox);have n2_:=Aside0.mk ((by rw [hg];exact (below_size (by repeat (first | (with_reducible first | exact HB.out | apply below_alloc | apply pw_below_drewN | apply below_drew1) | exact HB.out))) : w.heap.size ≤ gb184));have n3_:=Aside0.mk ((by rw [hg];exact (below_size (by repeat (first | (with_reducible first | exact HB.out | apply below_alloc | apply pw_below_drewN | apply below_drew1) | exact HB.out))) : w.heap.size ≤ gb184));clear HB;have HB:=n0_;have BK184:=n1_;have GW184:=n2_;have GE184:=n3_;clear n0_ n1_ n2_ n3_;clear hb hbox hg;have hcz18_0 : w17.cell? ⟨gb184,0,none⟩ = some (.slice A0_0 l0_0.length c0_0):=(blk_cell BK184.out 0).trans rfl;have hfz18_0:=blk_frozen BK184.out 0) | (go_at_call 71;(with_reducible refine (spec_GoodGraph.calls k _ _ l0_0 true _ ?side1 ?side2 A2.out).mono ?_);(case side1 => repeat (first | exact (Kd.C_below HR0_0.out HB.out) | (with_reducible refine Kd.C_alloc ?_ _) | (with_reducible refine Kd.C_drewN ?_ _) | (with_reducible refine Kd.C_drew ?_)));(case side2 => exact HC0_0.out);rintro e w19 ⟨rfl,hb⟩;have n0_:=Aside0.mk (blk_below (g:=gb184) (o:=.cells #[.slice A0_0 l0_0.length c0_0] 28 (0,0)) (by (with_reducible repeat (first | refine blk_drewN ?_ _ | refine blk_drew ?_ | refine blk_alloc ?_ _));exact BK184.out) hb);have n1_:=Aside0.mk (below_step (by repeat (first | (with_reducible first | exact HB.out | apply below_alloc | apply pw_below_drewN | apply below_drew1 | refine below_set ?_ GE184.out) | exact HB.out)) hb);clear BK184;clear HB;have BK184:=n0_;have HB:=n1_;clear n0_ n1_;(try clear hb);(try clear hb2);(try clear hk);(try clear hi);have hcz20_0 : w19.cell? ⟨gb184,0,none⟩ = some (.slice A0_0 l0_0.length c0_0):=(blk_cell BK184.out 0).trans rfl;have hfz20_0:=blk_frozen BK184.out 0) | (go_at_call 72;(with_reducible refine (spec_l7Dominators.calls k _ _ l0_0 t186 _ ?side1 ?side2 A4.out).mono ?_);(case side1 => repeat (first | exact (Kd.C_below HR0_0.out HB.out) | (with_reducible refine Kd.C_alloc ?_ _) | (with_reducible refine Kd.C_drewN ?_ _) | (with_reducible refine Kd.C_drew ?_)));(case side2 => exact HC0_0.out);rintro e w21 ⟨v187,rfl,ho0,hb⟩;have n0_:=Aside0.mk (Kd.S_lower ho0 (below_size (by repeat (first | (with_reducible first | exact HB.out | apply below_alloc | apply pw_below_drewN | apply below_drew1 | refine below_set ?_ GE184.out) | exact HB.out))));have n1_:=Aside0.mk (blk_below (g:=gb184) (o:=.cells #[.slice A0_0 l0_0.length c0_0] 28 (0,0)) (by (with_reducible repeat (first | refine blk_drewN ?_ _ | refine blk_drew ?_ | refine blk_alloc ?_ _));exact BK184.out) hb);have n2_:=Aside0.mk (below_step (by repeat (first | (with_reducible first | exact HB.out | apply below_alloc | apply pw_below_drewN | apply below_drew1 | refine below_set ?_ GE184.out) | exact HB.out)) hb);clear BK184;clear HB;have HO188:=n0_;have BK184:=n1_;have HB:=n2_;clear n0_ n1_ n2_;(try clear hb);(try clear hb2);(try clear hk);(try clear hi);(try clear ho0);have hcz22_0 : w21.cell? ⟨gb184,0,none⟩ = some (.slice A0_0 l0_0.length c0_0):=(blk_cell BK184.out 0).trans rfl;have hfz22_0:=blk_frozen BK184.out 0;obtain ⟨Ao23,co23,eo23⟩:=Kd.S_slice HO188.out;subst eo23) | (go_at_call 73;(with_reducible refine (spec_l7Cyclic.calls k _ _ l0_0 _ _ t186 false _ ?side1 ?side2 ?side3 ?side4 A5.out).mono ?_);(case side1 => repeat (first | exact (Kd.C_below HR0_0.out HB.out) | (with_reducible refine Kd.C_alloc ?_ _) | (with_reducible refine Kd.C_drewN ?_ _) | (with_reducible refine Kd.C_drew ?_)));(case side2 => exact HC0_0.out);(case side3 => repeat (first | exact (Kd.S_reads' HO188.out).2.2 | (with_reducible refine Kd.C_alloc ?_ _) | (with_reducible refine Kd.C_drewN ?_ _) | (with_reducible refine Kd.C_drew ?_)));(case side4 => exact (Kd.S_reads' HO188.out).2.1);rintro e w24 ⟨rfl,hb⟩;have n0_:=Aside0.mk (Kd.S_below (by (with_reducible repeat (first | apply Kd.S_alloc | apply Kd.S_drewN | apply Kd.S_drew));exact HO188.out) hb);have n1_:=Aside0.mk (blk_below (g:=gb184) (o:=.cells #[.slice A0_0 l0_0.length c0_0] 28 (0,0)) (by (with_reducible repeat (first | refine blk_drewN ?_ _ | refine blk_drew ?_ | refine blk_alloc ?_ _));exact BK184.out) hb);have n2_:=Aside0.mk (below_step (by repeat (first | (with_reducible first | exact HB.out | apply below_alloc | apply pw_below_drewN | apply below_drew1 | refine below_set ?_ GE184.out) | exact HB.out)) hb);clear HO188;clear BK184;clear HB;have HO188:=n0_;have BK184:=n1_;have HB:=n2_;clear n0_ n1_ n2_;(try clear hb);(try clear hb2);(try clear hk);(try clear hi);have hcz25_0 : w24.cell? ⟨gb184,0,none⟩ = some (.slice A0_0 l0_0.length c0_0):=(blk_cell BK184.out 0).trans rfl;have hfz25_0:=blk_frozen BK184.out 0) | (go_at_call 54;(with_reducible refine (spec_l7Without.calls k _ _ l0_0 (-1) t190 _ ?side1 ?side2 A15.out).mono ?_);(case side1 => repeat (first | exact (Kd.C_below HR0_0.out HB.out) | (with_reducible refine Kd.C_alloc ?_ _) | (with_reducible refine Kd.C_drewN ?_ _) | (with_reducible refine Kd.C_drew ?_)));(case side2 => exact HC0_0.out);rintro e w26 ⟨v191,rfl,ho0,hb⟩;have n0_:=Aside0.mk (Kd.S_elder' (by (with_reducible repeat (first | apply Kd.S_alloc | apply Kd.S_drewN | apply Kd.S_drew));exact HO188.out) (Kd.R_base ho0) hb);have n1_:=Aside0.mk (Kd.R_lower ho0 (below_size (by repeat (first | (with_reducible first | exact HB.out | apply below_alloc | apply pw_below_drewN | apply below_drew1 | refine below_set ?_ GE184.out) | exact HB.out))));have n2_:=Aside0.mk (blk_below (g:=gb184) (o:=.cells #[.slice A0_0 l0_0.length c0_0] 28 (0,0)) (by (with_reducible repeat (first | refine blk_drewN ?_ _ | refine blk_drew ?_ | refine blk_alloc ?_ _));exact BK184.out) hb);have n3_:=Aside0.mk (below_step (by repeat (first | (with_reducible first | exact HB.out | apply below_alloc | apply pw_below_drewN | apply below_drew1 | refine below_set ?_ GE184.out) | exact HB.out)) hb);clear HO188;clear BK184;clear HB;have HO188:=n0_;have HO192:=n1_;have BK184:=n2_;have HB:=n3_;clear n0_ n1_ n2_ n3_;(try clear hb);(try clear hb2);(try clear hk);(try clear hi);(try clear ho0);have hcz27_0 : w26.cell? ⟨gb184,0,none⟩ = some (.slice A0_0 l0_0.length c0_0):=(blk_cell BK184.out 0).trans rfl;have hfz27_0:=blk_frozen BK184.out 0) | (go_at_call 74;(with_reducible refine (spec_l7Back.calls k _ _ l0_0 _ _ t186 t193 _ ?side1 ?side2 ?side3 ?side4 A16.out).mono ?_);(case side1 => repeat (first | exact (Kd.C_below HR0_0.out HB.out) | (with_reducible refine Kd.C_alloc ?_ _) | (with_reducible refine Kd.C_drewN ?_ _) | (with_reducible refine Kd.C_drew ?_)));(case side2 => exact HC0_0.out);(case side3 => repeat (first | exact (Kd.S_reads' HO188.out).2.2 | (with_reducible refine Kd.C_alloc ?_ _) | (with_reducible refine Kd.C_drewN ?_ _) | (with_reducible refine Kd.C_drew ?_)));(case side4 => exact (Kd.S_reads' HO188.out).2.1);rintro e w28 ⟨v194,rfl,ho0,hb⟩;have n0_:=Aside0.mk (Kd.S_elder' (by (with_reducible repeat (first | apply Kd.S_alloc | apply Kd.S_drewN | apply Kd.S_drew));exact HO188.out) (Kd.S_base ho0) hb);have n1_:=Aside0.mk (Kd.R_below (by (with_reducible repeat (first | apply Kd.R_alloc | apply Kd.R_drewN | apply Kd.R_drew));exact HO192.out) hb);have n2_:=Aside0.mk (Kd.S_lower (Kd.S_new' (Kd.S_new' ho0 (Kd.S_lt (by (with_reducible repeat (first | apply Kd.S_alloc | apply Kd.S_drewN | apply Kd.S_drew));exact HO188.out))) (Kd.R_lt (by (with_reducible repeat (first | apply Kd.R_alloc | apply Kd.R_drewN | apply Kd.R_drew));exact HO192.out))) (below_size (by repeat (first | (with_reducible first | exact HB.out | apply below_alloc | apply pw_below_drewN | apply below_drew1 | refine below_set ?_ GE184.out) | exact HB.out))));have n3_:=Aside0.mk (blk_below (g:=gb184) (o:=.cells #[.slice A0_0 l0_0.length c0_0] 28 (0,0)) (by (with_reducible repeat (first | refine blk_drewN ?_ _ | refine blk_drew ?_ | refine blk_alloc ?_ _));exact BK184.out) hb);have n4_:=Aside0.mk (below_step (by repeat (first | (with_reducible first | exact HB.out | apply below_alloc | apply pw_below_drewN | apply below_drew1 | refine below_set ?_ GE184.out) | exact HB.out)) hb);clear HO188;clear HO192;clear BK184;clear HB;have HO188:=n0_;have HO192:=n1_;have HO195:=n2_;have BK184:=n3_;have HB:=n4_;clear n0_ n1_ n2_ n3_ n4_;(try clear hb);(try clear hb2);(try clear hk);(try clear hi);(try clear ho0);have hcz29_0 : w28.cell? ⟨gb184,0,none⟩ = some (.slice A0_0 l0_0.length c0_0):=(blk_cell BK184.out 0).trans rfl;have hfz29_0:=blk_frozen BK184.out 0)))
   go_loopg [7,39] k (fun kq v7 v39 w' => ∃ (x7_1 : List (S58)) (x39_1 : Int),v39 = .int .i64 x39_1 ∧ Aside0 (spec_l8Loops.l0 kq t190 t193 x7_1 (l0_0.length : Int) x39_1 l0_0 = some (r1,r2)) ∧ Aside0 (kq ≤ k) ∧ Aside0 (Kd.R (Kd.int .i64) 3 w' w.heap.size (fun _ => True) v191 t190) ∧ Aside0 (Kd.S (Kd.slice 3 (Kd.int .i64)) 43 w' w.heap.size (fun k_ => some k_ ≠ (v191 : Value).ownBlock) v194 t193) ∧ Aside0 (Kd.S k58 58 w' w.heap.size (fun k_ => some k_ ≠ (v191 : Value).ownBlock) v7 x7_1) ∧ Aside0 (w'.heap[gb184]? = some (.cells #[(.slice A0_0 l0_0.length c0_0)] 28 (0,0))) ∧ Aside0 (Below w.heap.size w w'))
   case atStart => exact ⟨(([] : List (S58))),(0),(by first | rfl | (simp;done) | (simp [*];done)),H',⟨Nat.le_refl _⟩,⟨by (with_reducible repeat (first | apply Kd.R_alloc | apply Kd.R_drewN | apply Kd.R_drew));exact HO192.out⟩,⟨by (with_reducible repeat (first | apply Kd.S_alloc | apply Kd.S_drewN | apply Kd.S_drew));exact Kd.S_mono HO195.out (fun _ hk => hk.2)⟩,⟨by first | exact Kd.S_nil _ _ _ _ _ | exact Kd.N_nil _ _ _ _ _ | exact Kd.V_nil _ _ _ _ _ | exact Kd.Q_nil _ _ _ _ _ | exact Kd.R_nil _ _ _ _ _⟩,⟨by (with_reducible repeat (first | refine blk_drewN ?_ _ | refine blk_drew ?_ | refine blk_alloc ?_ _));exact BK184.out⟩,⟨by repeat (first | (with_reducible first | exact HB.out | apply below_alloc | apply pw_below_drewN | apply below_drew1 | refine below_set ?_ GE184.out) | exact HB.out)⟩⟩
   case round =>
    clear H'
    try clear p2
    try clear c3
    try clear c4
    try clear c6
    try clear hcz10_0
    try clear hcz12_0
    try clear hcz18_0
    try clear hcz20_0
    try clear hcz22_0
    try clear hcz25_0
    try clear hcz27_0
    try clear hcz29_0
    try clear hcz8_0
    try clear hfz10_0
    try clear hfz12_0
    try clear hfz18_0
    try clear hfz20_0
    try clear hfz22_0
    try clear hfz25_0
    try clear hfz27_0
    try clear hfz29_0
    try clear hfz8_0
    obtain ⟨x7_1,x39_1,rfl,HA,HK1,HO_5,HO_6,HO_7,BK184,HB⟩:=hrel
    cases gk with
    | zero => exact absurd HA.out (by simp [spec_l8Loops.l0])
    | succ k1 =>
     have H:=HA.out
     clear HA
     simp only [spec_l8Loops.l0] at H
     by_cases c30 : x39_1 < (l0_0.length : Int)
     ·rw [if_pos c30] at H
      have c30b0 : decide (x39_1 < (l0_0.length : Int)) = true:=decide_eq_true c30
      clear c30
      obtain ⟨y196,hy196⟩ : ∃ y_ : List Int,y_ = (([x39_1] : List Int)):=⟨_,rfl⟩
      replace H : (spec_l8Loops.l1 k1 t190 t193 x7_1 x39_1 y196 (l0_0.length : Int) x39_1 t193 (t193.length : Int) 0 l0_0) = some (r1,r2):=by first | (rw [hy196];with_reducible exact H) | (have H2_:=(Option.bind_some _ _).symm.trans H;rw [hy196];with_reducible exact H2_) | (have H2_:=(Option.bind_some _ _).symm.trans H;with_reducible exact H2_) | with_reducible exact H | (rw [hy196];exact H) | exact H
      have Ny196:=Aside0.mk hy196
      clear hy196
      have H':=Aside0.mk H
      clear H
      go_wp2_with (first | ((with_reducible refine gate_dst (N:=43) rfl ?_);(try (refine gate_guard (by rfl) ?_;dsimp only));refine Kd.R_lit (Kd.int .i64) _ 3 ?hg (N:=43) ?hd (xs:=([x39_1] : List Int)) (inner:=[.int .i64 x39_1]) (ok:=fun _ => True) (okp:=fun _ => True) ?hr ?hp (fun _ hk => hk) trivial (Below.refl _ _) (Nat.le_refl _) (by simp) ?_;(case hd => rfl);(case hg => rfl);(case hr => first | (go_simp;done) | (go_simp;rfl));(case hp => exact (Reps.one (show Kd.M (Kd.int .i64) _ _ _ x39_1 [.int .i64 x39_1] from rfl) (Reps.none _ _)));intro v197 w31 ho32 hb hg_ hnew_;clear hg_ hnew_;(first | rw [← Ny196.out] at ho32 | (simp only [Int.reduceToNat] at ho32;rw [← Ny196.out] at ho32));have n0_:=Aside0.mk (Kd.R_elder' (by (with_reducible repeat (first | apply Kd.R_alloc | apply Kd.R_drewN | apply Kd.R_drew));exact HO_5.out) (Kd.R_base ho32) hb);have n1_:=Aside0.mk (Kd.S_elder' (by (with_reducible repeat (first | apply Kd.S_alloc | apply Kd.S_drewN | apply Kd.S_drew));exact HO_6.out) (Kd.R_base ho32) hb);have n2_:=Aside0.mk (Kd.S_elder' (by (with_reducible repeat (first | apply Kd.S_alloc | apply Kd.S_drewN | apply Kd.S_drew));exact HO_7.out) (Kd.R_base ho32) hb);have n3_:=Aside0.mk (Kd.R_lower (Kd.R_new' ho32 (Kd.R_lt (by (with_reducible repeat (first | apply Kd.R_alloc | apply Kd.R_drewN | apply Kd.R_drew));exact HO_5.out))) (below_size (by repeat (first | (with_reducible first | exact HB.out | apply below_alloc | apply pw_below_drewN | apply below_drew1 | refine below_set ?_ GE184.out) | exact HB.out))));have n4_:=Aside0.mk (blk_below (g:=gb184) (o:=.cells #[.slice A0_0 l0_0.length c0_0] 28 (0,0)) (by (with_reducible repeat (first | refine blk_drewN ?_ _ | refine blk_drew ?_ | refine blk_alloc ?_ _));exact BK184.out) hb);have n5_:=Aside0.mk (below_step (by repeat (first | (with_reducible first | exact HB.out | apply below_alloc | apply pw_below_drewN | apply below_drew1 | refine below_set ?_ GE184.out) | exact HB.out)) hb);clear HO_5;clear HO_6;clear HO_7;clear BK184;clear HB;have HO_5:=n0_;have HO_6:=n1_;have HO_7:=n2_;have HO198:=n3_;have BK184:=n4_;have HB:=n5_;clear n0_ n1_ n2_ n3_ n4_ n5_;clear hb ho32;obtain ⟨Ao33,co33,eo33⟩:=Kd.S_slice HO_6.out;subst eo33))
      repeat (go_quiet (first | ((with_reducible refine gate_dst (N:=43) rfl ?_);(try (refine gate_guard (by rfl) ?_;dsimp only));refine Kd.R_lit (Kd.int .i64) _ 3 ?hg (N:=43) ?hd (xs:=([x39_1] : List Int)) (inner:=[.int .i64 x39_1]) (ok:=fun _ => True) (okp:=fun _ => True) ?hr ?hp (fun _ hk => hk) trivial (Below.refl _ _) (Nat.le_refl _) (by simp) ?_;(case hd => rfl);(case hg => rfl);(case hr => first | (go_simp;done) | (go_simp;rfl));(case hp => exact (Reps.one (show Kd.M (Kd.int .i64) _ _ _ x39_1 [.int .i64 x39_1] from rfl) (Reps.none _ _)));intro v197 w31 ho32 hb hg_ hnew_;clear hg_ hnew_;(first | rw [← Ny196.out] at ho32 | (simp only [Int.reduceToNat] at ho32;rw [← Ny196.out] at ho32));have n0_:=Aside0.mk (Kd.R_elder' (by (with_reducible repeat (first | apply Kd.R_alloc | apply Kd.R_drewN | apply Kd.R_drew));exact HO_5.out) (Kd.R_base ho32) hb);have n1_:=Aside0.mk (Kd.S_elder' (by (with_reducible repeat (first | apply Kd.S_alloc | apply Kd.S_drewN | apply Kd.S_drew));exact HO_6.out) (Kd.R_base ho32) hb);have n2_:=Aside0.mk (Kd.S_elder' (by (with_reducible repeat (first | apply Kd.S_alloc | apply Kd.S_drewN | apply Kd.S_drew));exact HO_7.out) (Kd.R_base ho32) hb);have n3_:=Aside0.mk (Kd.R_lower (Kd.R_new' ho32 (Kd.R_lt (by (with_reducible repeat (first | apply Kd.R_alloc | apply Kd.R_drewN | apply Kd.R_drew));exact HO_5.out))) (below_size (by repeat (first | (with_reducible first | exact HB.out | apply below_alloc | apply pw_below_drewN | apply below_drew1 | refine below_set ?_ GE184.out) | exact HB.out))));have n4_:=Aside0.mk (blk_below (g:=gb184) (o:=.cells #[.slice A0_0 l0_0.length c0_0] 28 (0,0)) (by (with_reducible repeat (first | refine blk_drewN ?_ _ | refine blk_drew ?_ | refine blk_alloc ?_ _));exact BK184.out) hb);have n5_:=Aside0.mk (below_step (by repeat (first | (with_reducible first | exact HB.out | apply below_alloc | apply pw_below_drewN | apply below_drew1 | refine below_set ?_ GE184.out) | exact HB.out)) hb);clear HO_5;clear HO_6;clear HO_7;clear BK184;clear HB;have HO_5:=n0_;have HO_6:=n1_;have HO_7:=n2_;have HO198:=n3_;have BK184:=n4_;have HB:=n5_;clear n0_ n1_ n2_ n3_ n4_ n5_;clear hb ho32;obtain ⟨Ao33,co33,eo33⟩:=Kd.S_slice HO_6.out;subst eo33));try go_wp2_with (first | ((with_reducible refine gate_dst (N:=43) rfl ?_);(try (refine gate_guard (by rfl) ?_;dsimp only));refine Kd.R_lit (Kd.int .i64) _ 3 ?hg (N:=43) ?hd (xs:=([x39_1] : List Int)) (inner:=[.int .i64 x39_1]) (ok:=fun _ => True) (okp:=fun _ => True) ?hr ?hp (fun _ hk => hk) trivial (Below.refl _ _) (Nat.le_refl _) (by simp) ?_;(case hd => rfl);(case hg => rfl);(case hr => first | (go_simp;done) | (go_simp;rfl));(case hp => exact (Reps.one (show Kd.M (Kd.int .i64) _ _ _ x39_1 [.int .i64 x39_1] from rfl) (Reps.none _ _)));intro v197 w31 ho32 hb hg_ hnew_;clear hg_ hnew_;(first | rw [← Ny196.out] at ho32 | (simp only [Int.reduceToNat] at ho32;rw [← Ny196.out] at ho32));have n0_:=Aside0.mk (Kd.R_elder' (by (with_reducible repeat (first | apply Kd.R_alloc | apply Kd.R_drewN | apply Kd.R_drew));exact HO_5.out) (Kd.R_base ho32) hb);have n1_:=Aside0.mk (Kd.S_elder' (by (with_reducible repeat (first | apply Kd.S_alloc | apply Kd.S_drewN | apply Kd.S_drew));exact HO_6.out) (Kd.R_base ho32) hb);have n2_:=Aside0.mk (Kd.S_elder' (by (with_reducible repeat (first | apply Kd.S_alloc | apply Kd.S_drewN | apply Kd.S_drew));exact HO_7.out) (Kd.R_base ho32) hb);have n3_:=Aside0.mk (Kd.R_lower (Kd.R_new' ho32 (Kd.R_lt (by (with_reducible repeat (first | apply Kd.R_alloc | apply Kd.R_drewN | apply Kd.R_drew));exact HO_5.out))) (below_size (by repeat (first | (with_reducible first | exact HB.out | apply below_alloc | apply pw_below_drewN | apply below_drew1 | refine below_set ?_ GE184.out) | exact HB.out))));have n4_:=Aside0.mk (blk_below (g:=gb184) (o:=.cells #[.slice A0_0 l0_0.length c0_0] 28 (0,0)) (by (with_reducible repeat (first | refine blk_drewN ?_ _ | refine blk_drew ?_ | refine blk_alloc ?_ _));exact BK184.out) hb);have n5_:=Aside0.mk (below_step (by repeat (first | (with_reducible first | exact HB.out | apply below_alloc | apply pw_below_drewN | apply below_drew1 | refine below_set ?_ GE184.out) | exact HB.out)) hb);clear HO_5;clear HO_6;clear HO_7;clear BK184;clear HB;have HO_5:=n0_;have HO_6:=n1_;have HO_7:=n2_;have HO198:=n3_;have BK184:=n4_;have HB:=n5_;clear n0_ n1_ n2_ n3_ n4_ n5_;clear hb ho32;obtain ⟨Ao33,co33,eo33⟩:=Kd.S_slice HO_6.out;subst eo33)))
      go_loopg [9,46] k1 (fun kq v9 v46 w' => ∃ (x9_2 : List Int) (x46_2 : Int),v46 = .int .i64 x46_2 ∧ Aside0 (spec_l8Loops.l1 kq t190 t193 x7_1 x39_1 x9_2 (l0_0.length : Int) x39_1 t193 (t193.length : Int) x46_2 l0_0 = some (r1,r2)) ∧ Aside0 (kq ≤ k1) ∧ Aside0 (Kd.R (Kd.int .i64) 3 w' w.heap.size (fun k_ => some k_ ≠ (v9 : Value).ownBlock) v191 t190) ∧ Aside0 (Kd.S (Kd.slice 3 (Kd.int .i64)) 43 w' w.heap.size (fun k_ => some k_ ≠ (v191 : Value).ownBlock ∧ some k_ ≠ (v9 : Value).ownBlock) (.slice Ao33 t193.length co33) t193) ∧ Aside0 (Kd.S k58 58 w' w.heap.size (fun k_ => some k_ ≠ (v191 : Value).ownBlock ∧ some k_ ≠ (v9 : Value).ownBlock) u7 x7_1) ∧ Aside0 (Kd.R (Kd.int .i64) 3 w' w.heap.size (fun k_ => some k_ ≠ (v191 : Value).ownBlock) v9 x9_2) ∧ Aside0 (Kd.S (Kd.slice 3 (Kd.int .i64)) 43 w' w.heap.size (fun k_ => some k_ ≠ (v191 : Value).ownBlock ∧ some k_ ≠ (v9 : Value).ownBlock) (.slice Ao33 t193.length co33) t193) ∧ Aside0 (w'.heap[gb184]? = some (.cells #[(.slice A0_0 l0_0.length c0_0)] 28 (0,0))) ∧ Aside0 (Below w.heap.size w w'))
      case atStart => exact ⟨(y196),(0),(by first | rfl | (simp;done) | (simp [*];done)),H',⟨Nat.le_refl _⟩,⟨by (with_reducible repeat (first | apply Kd.R_alloc | apply Kd.R_drewN | apply Kd.R_drew));exact Kd.R_mono HO_5.out (fun _ hk => hk.2)⟩,⟨by (with_reducible repeat (first | apply Kd.S_alloc | apply Kd.S_drewN | apply Kd.S_drew));exact HO_6.out⟩,⟨by (with_reducible repeat (first | apply Kd.S_alloc | apply Kd.S_drewN | apply Kd.S_drew));exact HO_7.out⟩,⟨by (with_reducible repeat (first | apply Kd.R_alloc | apply Kd.R_drewN | apply Kd.R_drew));exact Kd.R_mono HO198.out (fun _ hk => hk.2)⟩,⟨by (with_reducible repeat (first | apply Kd.S_alloc | apply Kd.S_drewN | apply Kd.S_drew));exact HO_6.out⟩,⟨by (with_reducible repeat (first | refine blk_drewN ?_ _ | refine blk_drew ?_ | refine blk_alloc ?_ _));exact BK184.out⟩,⟨by repeat (first | (with_reducible first | exact HB.out | apply below_alloc | apply pw_below_drewN | apply below_drew1 | refine below_set ?_ GE184.out) | exact HB.out)⟩⟩
      case round =>
       clear H'
       try clear p2
       try clear c3
       try clear c4
       try clear c6
       try clear c30
       try clear c30b0
       try clear hcz10_0
       try clear hcz12_0
       try clear hcz18_0
       try clear hcz20_0
       try clear hcz22_0
       try clear hcz25_0
       try clear hcz27_0
       try clear hcz29_0
       try clear hcz8_0
       try clear hfz10_0
       try clear hfz12_0
       try clear hfz18_0
       try clear hfz20_0
       try clear hfz22_0
       try clear hfz25_0
       try clear hfz27_0
       try clear hfz29_0
       try clear hfz8_0
       try clear p2
       obtain ⟨x9_2,x46_2,rfl,HA,HK2,HO_5,HO_6,HO_7,HO_9,HO_44,BK184,HB⟩:=hrel
       cases gk with
       | zero => exact absurd HA.out (by simp [spec_l8Loops.l1])
       | succ k2 =>
        have H:=HA.out
        clear HA
        simp only [spec_l8Loops.l1] at H
        by_cases c34 : x46_2 < (t193.length : Int)
        ·rw [if_pos c34] at H
         have c34b0 : decide (x46_2 < (t193.length : Int)) = true:=decide_eq_true c34
         clear c34
         by_cases c35 : 0 ≤ x46_2
         ·rw [if_pos c35] at H
          have c35b0 : decide (0 ≤ x46_2) = true:=decide_eq_true c35
          clear c35
          by_cases c36 : x46_2 < (t193.length : Int)
          ·rw [if_pos c36] at H
           have c36b0 : decide (x46_2 < (t193.length : Int)) = true:=decide_eq_true c36
           clear c36
           by_cases c37 : 1 < ((rd_L1 t193 x46_2).length : Int)
           ·rw [if_pos c37] at H
            have c37b0 : decide (1 < ((rd_L1 t193 x46_2).length : Int)) = true:=decide_eq_true c37
            have c37b1 : decide (1 < (rd_L1 t193 x46_2).length) = true:=decide_eq_true (by omega)
            clear c37
            by_cases c38 : (rd (rd_L1 t193 x46_2) 1) = x39_1
            ·rw [if_pos c38] at H
             have c38b0 : ((rd (rd_L1 t193 x46_2) 1) == x39_1) = true:=beq_iff_eq.mpr c38
             have c38b1 : ((rd (rd_L1 t193 x46_2) 1) != x39_1) = false:=bne_eq_false_iff_eq.mpr c38
             clear c38
             by_cases c39 : 0 < ((rd_L1 t193 x46_2).length : Int)
             ·rw [if_pos c39] at H
              have c39b0 : decide (0 < ((rd_L1 t193 x46_2).length : Int)) = true:=decide_eq_true c39
              have c39b1 : decide (0 < (rd_L1 t193 x46_2).length) = true:=decide_eq_true (by omega)
              clear c39
              replace H:=Option.bind_eq_some_iff.mp H
              obtain ⟨t202,A400,H⟩:=H
              replace H : (spec_l8Loops.l1 k2 t190 t193 x7_1 x39_1 t202 (l0_0.length : Int) x39_1 t193 (t193.length : Int) (wrap64 (x46_2 + 1)) l0_0) = some (r1,r2):=H
              have A40:=Aside0.mk A400
              clear A400
              have H':=Aside0.mk H
              clear H
              have p199 : 0 ≤ (x46_2 : Int):=of_decide_eq_true (by first | (with_reducible assumption) | assumption)
              have q199 : x46_2 < (t193.length : Int):=of_decide_eq_true (by first | (with_reducible assumption) | assumption)
              obtain ⟨ad199,A199_0,c199_0,e199,hx199_0,hl199_0,hi199_0⟩:=at_L1 (Kd.S_reads' HO_44.out).2.2 x46_2 p199 q199
              cases e199
              obtain ⟨ce199,hce199,hMe199,hcc199⟩:=Kd.S_get HO_44.out [] x46_2 p199 (by first | exact q199 | exact of_decide_eq_true (by first | (with_reducible assumption) | assumption) | (have e_:=(Kd.S_reads' HO_44.out).1;omega))
              obtain ⟨ve199_0,rfl,ge199_0⟩:=hMe199
              have hv199_0:=hcc199 0 _ rfl
              rw [Nat.add_zero,show ((Kd.slice 3 (Kd.int .i64))).sz = 1 from rfl,Nat.mul_one] at hv199_0
              replace hv199_0:=Option.some.inj (hv199_0.symm.trans hx199_0)
              rw [hv199_0] at ge199_0
              have HL199_0:=Aside0.mk (show Kd.R (Kd.int .i64) 3 _ _ _ _ (rd_L1 t193 x46_2) from ge199_0)
              clear hv199_0 ge199_0
              clear hcc199 hce199
              have HR199_0:=Aside0.mk hi199_0
              have HC199_0:=Aside0.mk hl199_0
              clear hi199_0 hl199_0
              replace p199:=eq_true p199
              replace q199:=eq_true q199
              have p200 : 0 ≤ (1 : Int):=(by omega)
              have q200 : 1 < ((rd_L1 t193 x46_2).length : Int):=of_decide_eq_true (by first | (with_reducible assumption) | assumption)
              obtain ⟨ad200,e200,hx200_0⟩:=Kd.at_int (by repeat (first | (with_reducible exact HR199_0.out) | (with_reducible refine Kd.C_alloc ?_ _) | (with_reducible refine Kd.C_drewN ?_ _) | (with_reducible refine Kd.C_drew ?_) | exact HR199_0.out)) 1 p200 q200
              cases e200
              (try simp only [show (1 : Int).toNat = 1 from rfl,Nat.reduceMul,Nat.reduceEqDiff,Go.Addr.add,↓reduceIte] at hx200_0)
              have qi200 : (1 < (rd_L1 t193 x46_2).length) = True:=eq_true (by omega)
              (try rw [show ((1 : Int)).toNat = 1 from rfl] at hx200_0)
              replace p200:=eq_true p200
              replace q200:=eq_true q200
              have p201 : 0 ≤ (0 : Int):=(by omega)
              have q201 : 0 < ((rd_L1 t193 x46_2).length : Int):=of_decide_eq_true (by first | (with_reducible assumption) | assumption)
              obtain ⟨ad201,e201,hx201_0⟩:=Kd.at_int (by repeat (first | (with_reducible exact HR199_0.out) | (with_reducible refine Kd.C_alloc ?_ _) | (with_reducible refine Kd.C_drewN ?_ _) | (with_reducible refine Kd.C_drew ?_) | exact HR199_0.out)) 0 p201 q201
              obtain rfl : ad200 = ad201:=(by injection e201)
              have qi201 : (0 < (rd_L1 t193 x46_2).length) = True:=eq_true (by omega)
              (try rw [show ((0 : Int)).toNat = 0 from rfl] at hx201_0)
              (try rw [Addr.add_zero'] at hx201_0)
              replace p201:=eq_true p201
              replace q201:=eq_true q201
              obtain ⟨Ao41,co41,eo41⟩:=Kd.R_slice HO_9.out
              subst eo41
              go_wp2_with (first | (go_at_call 55;(with_reducible refine (spec_l1Put.calls k2 (fun k_ => some k_ = (.slice Ao41 x9_2.length co41 : Value).ownBlock) (.slice Ao41 x9_2.length co41) x9_2 (rd (rd_L1 t193 x46_2) 0) t202 w _ ?side1 ?side2 A40.out).mono ?_);(case side1 => repeat (first | (with_reducible first | exact HB.out | apply below_alloc | apply pw_below_drewN | apply below_drew1 | refine below_set ?_ GE184.out) | exact HB.out));(case side2 => exact Kd.R_tight rfl HO_9.out);rintro e w42 ⟨v203,rfl,ho0,hb,hkp⟩;have n0_:=Aside0.mk (Kd.R_mono (ok':=fun k_ => some k_ ≠ (v203 : Value).ownBlock) (Kd.R_keptB (HO_5.out) hkp (fun k_ hk_ hs_ => (hk_) hs_)) (fun k_ hk_ => fun e_ => Or.elim (ho0.1 k_ e_.symm) (fun hs_ => hk_.2.1 hs_) (fun hn_ => Nat.not_le.2 hk_.2.2 hn_)));have n1_:=Aside0.mk (Kd.S_mono (ok':=fun k_ => some k_ ≠ (v191 : Value).ownBlock ∧ some k_ ≠ (v203 : Value).ownBlock) (Kd.S_keptB (HO_6.out) hkp (fun k_ hk_ hs_ => (hk_.2) hs_)) (fun k_ hk_ => ⟨hk_.1.1,fun e_ => Or.elim (ho0.1 k_ e_.symm) (fun hs_ => hk_.2.1 hs_) (fun hn_ => Nat.not_le.2 hk_.2.2 hn_)⟩));have n2_:=Aside0.mk (Kd.S_mono (ok':=fun k_ => some k_ ≠ (v191 : Value).ownBlock ∧ some k_ ≠ (v203 : Value).ownBlock) (Kd.S_keptB (HO_7.out) hkp (fun k_ hk_ hs_ => (hk_.2) hs_)) (fun k_ hk_ => ⟨hk_.1.1,fun e_ => Or.elim (ho0.1 k_ e_.symm) (fun hs_ => hk_.2.1 hs_) (fun hn_ => Nat.not_le.2 hk_.2.2 hn_)⟩));have n3_:=Aside0.mk (Kd.S_mono (ok':=fun k_ => some k_ ≠ (v191 : Value).ownBlock ∧ some k_ ≠ (v203 : Value).ownBlock) (Kd.S_keptB (HO_44.out) hkp (fun k_ hk_ hs_ => (hk_.2) hs_)) (fun k_ hk_ => ⟨hk_.1.1,fun e_ => Or.elim (ho0.1 k_ e_.symm) (fun hs_ => hk_.2.1 hs_) (fun hn_ => Nat.not_le.2 hk_.2.2 hn_)⟩));have n4_:=Aside0.mk (blk_kept (by (with_reducible repeat (first | refine blk_drewN ?_ _ | refine blk_drew ?_ | refine blk_alloc ?_ _));exact BK184.out) hkp (fun hs_ => (fun e_ => (Kd.R_ne HO_9.out BK184.out (by decide)) e_) hs_));have n5_:=Aside0.mk (Kd.R_mono (ok':=fun k_ => some k_ ≠ (v191 : Value).ownBlock) ho0 (fun k_ hk_ => Or.elim hk_ (fun hs_ => fun e_ => (((HO_5.out).1 k_ e_.symm)) hs_) (fun hn_ => (Kd.fresh' (Kd.R_lt (by (with_reducible repeat (first | apply Kd.R_alloc | apply Kd.R_drewN | apply Kd.R_drew));exact HO_5.out)) k_ hn_))));have n6_:=Aside0.mk (hb);clear HO_5;clear HO_6;clear HO_7;clear HO_44;clear BK184;clear HB;clear HO_9;clear HL199_0;have HO_5:=n0_;have HO_6:=n1_;have HO_7:=n2_;have HO_44:=n3_;have BK184:=n4_;have HO204:=n5_;have HB:=n6_;clear n0_ n1_ n2_ n3_ n4_ n5_ n6_;(try clear hb);(try clear hkp);(try clear ho0)))
              repeat (go_quiet (first | (go_at_call 55;(with_reducible refine (spec_l1Put.calls k2 (fun k_ => some k_ = (.slice Ao41 x9_2.length co41 : Value).ownBlock) (.slice Ao41 x9_2.length co41) x9_2 (rd (rd_L1 t193 x46_2) 0) t202 w _ ?side1 ?side2 A40.out).mono ?_);(case side1 => repeat (first | (with_reducible first | exact HB.out | apply below_alloc | apply pw_below_drewN | apply below_drew1 | refine below_set ?_ GE184.out) | exact HB.out));(case side2 => exact Kd.R_tight rfl HO_9.out);rintro e w42 ⟨v203,rfl,ho0,hb,hkp⟩;have n0_:=Aside0.mk (Kd.R_mono (ok':=fun k_ => some k_ ≠ (v203 : Value).ownBlock) (Kd.R_keptB (HO_5.out) hkp (fun k_ hk_ hs_ => (hk_) hs_)) (fun k_ hk_ => fun e_ => Or.elim (ho0.1 k_ e_.symm) (fun hs_ => hk_.2.1 hs_) (fun hn_ => Nat.not_le.2 hk_.2.2 hn_)));have n1_:=Aside0.mk (Kd.S_mono (ok':=fun k_ => some k_ ≠ (v191 : Value).ownBlock ∧ some k_ ≠ (v203 : Value).ownBlock) (Kd.S_keptB (HO_6.out) hkp (fun k_ hk_ hs_ => (hk_.2) hs_)) (fun k_ hk_ => ⟨hk_.1.1,fun e_ => Or.elim (ho0.1 k_ e_.symm) (fun hs_ => hk_.2.1 hs_) (fun hn_ => Nat.not_le.2 hk_.2.2 hn_)⟩));have n2_:=Aside0.mk (Kd.S_mono (ok':=fun k_ => some k_ ≠ (v191 : Value).ownBlock ∧ some k_ ≠ (v203 : Value).ownBlock) (Kd.S_keptB (HO_7.out) hkp (fun k_ hk_ hs_ => (hk_.2) hs_)) (fun k_ hk_ => ⟨hk_.1.1,fun e_ => Or.elim (ho0.1 k_ e_.symm) (fun hs_ => hk_.2.1 hs_) (fun hn_ => Nat.not_le.2 hk_.2.2 hn_)⟩));have n3_:=Aside0.mk (Kd.S_mono (ok':=fun k_ => some k_ ≠ (v191 : Value).ownBlock ∧ some k_ ≠ (v203 : Value).ownBlock) (Kd.S_keptB (HO_44.out) hkp (fun k_ hk_ hs_ => (hk_.2) hs_)) (fun k_ hk_ => ⟨hk_.1.1,fun e_ => Or.elim (ho0.1 k_ e_.symm) (fun hs_ => hk_.2.1 hs_) (fun hn_ => Nat.not_le.2 hk_.2.2 hn_)⟩));have n4_:=Aside0.mk (blk_kept (by (with_reducible repeat (first | refine blk_drewN ?_ _ | refine blk_drew ?_ | refine blk_alloc ?_ _));exact BK184.out) hkp (fun hs_ => (fun e_ => (Kd.R_ne HO_9.out BK184.out (by decide)) e_) hs_));have n5_:=Aside0.mk (Kd.R_mono (ok':=fun k_ => some k_ ≠ (v191 : Value).ownBlock) ho0 (fun k_ hk_ => Or.elim hk_ (fun hs_ => fun e_ => (((HO_5.out).1 k_ e_.symm)) hs_) (fun hn_ => (Kd.fresh' (Kd.R_lt (by (with_reducible repeat (first | apply Kd.R_alloc | apply Kd.R_drewN | apply Kd.R_drew));exact HO_5.out)) k_ hn_))));have n6_:=Aside0.mk (hb);clear HO_5;clear HO_6;clear HO_7;clear HO_44;clear BK184;clear HB;clear HO_9;clear HL199_0;have HO_5:=n0_;have HO_6:=n1_;have HO_7:=n2_;have HO_44:=n3_;have BK184:=n4_;have HO204:=n5_;have HB:=n6_;clear n0_ n1_ n2_ n3_ n4_ n5_ n6_;(try clear hb);(try clear hkp);(try clear ho0)));try go_wp2_with (first | (go_at_call 55;(with_reducible refine (spec_l1Put.calls k2 (fun k_ => some k_ = (.slice Ao41 x9_2.length co41 : Value).ownBlock) (.slice Ao41 x9_2.length co41) x9_2 (rd (rd_L1 t193 x46_2) 0) t202 w _ ?side1 ?side2 A40.out).mono ?_);(case side1 => repeat (first | (with_reducible first | exact HB.out | apply below_alloc | apply pw_below_drewN | apply below_drew1 | refine below_set ?_ GE184.out) | exact HB.out));(case side2 => exact Kd.R_tight rfl HO_9.out);rintro e w42 ⟨v203,rfl,ho0,hb,hkp⟩;have n0_:=Aside0.mk (Kd.R_mono (ok':=fun k_ => some k_ ≠ (v203 : Value).ownBlock) (Kd.R_keptB (HO_5.out) hkp (fun k_ hk_ hs_ => (hk_) hs_)) (fun k_ hk_ => fun e_ => Or.elim (ho0.1 k_ e_.symm) (fun hs_ => hk_.2.1 hs_) (fun hn_ => Nat.not_le.2 hk_.2.2 hn_)));have n1_:=Aside0.mk (Kd.S_mono (ok':=fun k_ => some k_ ≠ (v191 : Value).ownBlock ∧ some k_ ≠ (v203 : Value).ownBlock) (Kd.S_keptB (HO_6.out) hkp (fun k_ hk_ hs_ => (hk_.2) hs_)) (fun k_ hk_ => ⟨hk_.1.1,fun e_ => Or.elim (ho0.1 k_ e_.symm) (fun hs_ => hk_.2.1 hs_) (fun hn_ => Nat.not_le.2 hk_.2.2 hn_)⟩));have n2_:=Aside0.mk (Kd.S_mono (ok':=fun k_ => some k_ ≠ (v191 : Value).ownBlock ∧ some k_ ≠ (v203 : Value).ownBlock) (Kd.S_keptB (HO_7.out) hkp (fun k_ hk_ hs_ => (hk_.2) hs_)) (fun k_ hk_ => ⟨hk_.1.1,fun e_ => Or.elim (ho0.1 k_ e_.symm) (fun hs_ => hk_.2.1 hs_) (fun hn_ => Nat.not_le.2 hk_.2.2 hn_)⟩));have n3_:=Aside0.mk (Kd.S_mono (ok':=fun k_ => some k_ ≠ (v191 : Value).ownBlock ∧ some k_ ≠ (v203 : Value).ownBlock) (Kd.S_keptB (HO_44.out) hkp (fun k_ hk_ hs_ => (hk_.2) hs_)) (fun k_ hk_ => ⟨hk_.1.1,fun e_ => Or.elim (ho0.1 k_ e_.symm) (fun hs_ => hk_.2.1 hs_) (fun hn_ => Nat.not_le.2 hk_.2.2 hn_)⟩));have n4_:=Aside0.mk (blk_kept (by (with_reducible repeat (first | refine blk_drewN ?_ _ | refine blk_drew ?_ | refine blk_alloc ?_ _));exact BK184.out) hkp (fun hs_ => (fun e_ => (Kd.R_ne HO_9.out BK184.out (by decide)) e_) hs_));have n5_:=Aside0.mk (Kd.R_mono (ok':=fun k_ => some k_ ≠ (v191 : Value).ownBlock) ho0 (fun k_ hk_ => Or.elim hk_ (fun hs_ => fun e_ => (((HO_5.out).1 k_ e_.symm)) hs_) (fun hn_ => (Kd.fresh' (Kd.R_lt (by (with_reducible repeat (first | apply Kd.R_alloc | apply Kd.R_drewN | apply Kd.R_drew));exact HO_5.out)) k_ hn_))));have n6_:=Aside0.mk (hb);clear HO_5;clear HO_6;clear HO_7;clear HO_44;clear BK184;clear HB;clear HO_9;clear HL199_0;have HO_5:=n0_;have HO_6:=n1_;have HO_7:=n2_;have HO_44:=n3_;have BK184:=n4_;have HO204:=n5_;have HB:=n6_;clear n0_ n1_ n2_ n3_ n4_ n5_ n6_;(try clear hb);(try clear hkp);(try clear ho0))))
              go_roundg k2
              case measure => have:=HK1.out;have:=HK2.out;omega
              case rel => exact ⟨(t202),(wrap64 (x46_2 + 1)),(by first | rfl | (simp;done) | (simp [*];done)),H',⟨by have:=HK1.out;have:=HK2.out;omega⟩,⟨by (with_reducible repeat (first | apply Kd.R_alloc | apply Kd.R_drewN | apply Kd.R_drew));exact HO_5.out⟩,⟨by (with_reducible repeat (first | apply Kd.S_alloc | apply Kd.S_drewN | apply Kd.S_drew));exact HO_6.out⟩,⟨by (with_reducible repeat (first | apply Kd.S_alloc | apply Kd.S_drewN | apply Kd.S_drew));exact HO_7.out⟩,⟨by (with_reducible repeat (first | apply Kd.R_alloc | apply Kd.R_drewN | apply Kd.R_drew));exact HO204.out⟩,⟨by (with_reducible repeat (first | apply Kd.S_alloc | apply Kd.S_drewN | apply Kd.S_drew));exact HO_44.out⟩,⟨by (with_reducible repeat (first | refine blk_drewN ?_ _ | refine blk_drew ?_ | refine blk_alloc ?_ _));exact BK184.out⟩,⟨by repeat (first | (with_reducible first | exact HB.out | apply below_alloc | apply pw_below_drewN | apply below_drew1 | refine below_set ?_ GE184.out) | exact HB.out)⟩⟩
             ·rw [if_neg c39] at H
              exact absurd H (by simp)
            ·rw [if_neg c38] at H
             have c38b0 : ((rd (rd_L1 t193 x46_2) 1) == x39_1) = false:=beq_eq_false_iff_ne.mpr c38
             have c38b1 : ((rd (rd_L1 t193 x46_2) 1) != x39_1) = true:=bne_iff_ne.mpr c38
             have H':=Aside0.mk H
             clear H
             have p199 : 0 ≤ (x46_2 : Int):=of_decide_eq_true (by first | (with_reducible assumption) | assumption)
             have q199 : x46_2 < (t193.length : Int):=of_decide_eq_true (by first | (with_reducible assumption) | assumption)
             obtain ⟨ad199,A199_0,c199_0,e199,hx199_0,hl199_0,hi199_0⟩:=at_L1 (Kd.S_reads' HO_44.out).2.2 x46_2 p199 q199
             cases e199
             obtain ⟨ce199,hce199,hMe199,hcc199⟩:=Kd.S_get HO_44.out [] x46_2 p199 (by first | exact q199 | exact of_decide_eq_true (by first | (with_reducible assumption) | assumption) | (have e_:=(Kd.S_reads' HO_44.out).1;omega))
             obtain ⟨ve199_0,rfl,ge199_0⟩:=hMe199
             have hv199_0:=hcc199 0 _ rfl
             rw [Nat.add_zero,show ((Kd.slice 3 (Kd.int .i64))).sz = 1 from rfl,Nat.mul_one] at hv199_0
             replace hv199_0:=Option.some.inj (hv199_0.symm.trans hx199_0)
             rw [hv199_0] at ge199_0
             have HL199_0:=Aside0.mk (show Kd.R (Kd.int .i64) 3 _ _ _ _ (rd_L1 t193 x46_2) from ge199_0)
             clear hv199_0 ge199_0
             clear hcc199 hce199
             have HR199_0:=Aside0.mk hi199_0
             have HC199_0:=Aside0.mk hl199_0
             clear hi199_0 hl199_0
             replace p199:=eq_true p199
             replace q199:=eq_true q199
             have p200 : 0 ≤ (1 : Int):=(by omega)
             have q200 : 1 < ((rd_L1 t193 x46_2).length : Int):=of_decide_eq_true (by first | (with_reducible assumption) | assumption)
             obtain ⟨ad200,e200,hx200_0⟩:=Kd.at_int (by repeat (first | (with_reducible exact HR199_0.out) | (with_reducible refine Kd.C_alloc ?_ _) | (with_reducible refine Kd.C_drewN ?_ _) | (with_reducible refine Kd.C_drew ?_) | exact HR199_0.out)) 1 p200 q200
             cases e200
             (try simp only [show (1 : Int).toNat = 1 from rfl,Nat.reduceMul,Nat.reduceEqDiff,Go.Addr.add,↓reduceIte] at hx200_0)
             have qi200 : (1 < (rd_L1 t193 x46_2).length) = True:=eq_true (by omega)
             (try rw [show ((1 : Int)).toNat = 1 from rfl] at hx200_0)
             replace p200:=eq_true p200
             replace q200:=eq_true q200
             go_wp2
             repeat (go_quiet (fail);try go_wp2)
             go_roundg k2
             case measure => have:=HK1.out;have:=HK2.out;omega
             case rel => exact ⟨(x9_2),(wrap64 (x46_2 + 1)),(by first | rfl | (simp;done) | (simp [*];done)),H',⟨by have:=HK1.out;have:=HK2.out;omega⟩,⟨by (with_reducible repeat (first | apply Kd.R_alloc | apply Kd.R_drewN | apply Kd.R_drew));exact HO_5.out⟩,⟨by (with_reducible repeat (first | apply Kd.S_alloc | apply Kd.S_drewN | apply Kd.S_drew));exact HO_6.out⟩,⟨by (with_reducible repeat (first | apply Kd.S_alloc | apply Kd.S_drewN | apply Kd.S_drew));exact HO_7.out⟩,⟨by (with_reducible repeat (first | apply Kd.R_alloc | apply Kd.R_drewN | apply Kd.R_drew));exact HO_9.out⟩,⟨by (with_reducible repeat (first | apply Kd.S_alloc | apply Kd.S_drewN | apply Kd.S_drew));exact HO_44.out⟩,⟨by (with_reducible repeat (first | refine blk_drewN ?_ _ | refine blk_drew ?_ | refine blk_alloc ?_ _));exact BK184.out⟩,⟨by repeat (first | (with_reducible first | exact HB.out | apply below_alloc | apply pw_below_drewN | apply below_drew1 | refine below_set ?_ GE184.out) | exact HB.out)⟩⟩
           ·rw [if_neg c37] at H
            exact absurd H (by simp)
          ·rw [if_neg c36] at H
           exact absurd H (by simp)
         ·rw [if_neg c35] at H
          exact absurd H (by simp)
        ·rw [if_neg c34] at H
         have c34b0 : decide (x46_2 < (t193.length : Int)) = false:=decide_eq_false c34
         clear c34
         have H':=Aside0.mk H
         clear H
         go_wp2
         repeat (go_quiet (fail);try go_wp2)
         go_loopg [12,63] k2 (fun kq v12 v63 w' => ∃ (x12_3 : Bool) (x63_3 : Int),v12 = .bool x12_3 ∧ v63 = .int .i64 x63_3 ∧ Aside0 (spec_l8Loops.l2 kq t190 t193 x7_1 x39_1 x9_2 x12_3 (l0_0.length : Int) x39_1 t193 (t193.length : Int) x63_3 l0_0 = some (r1,r2)) ∧ Aside0 (kq ≤ k2) ∧ Aside0 (Kd.R (Kd.int .i64) 3 w' w.heap.size (fun k_ => some k_ ≠ (u9 : Value).ownBlock) v191 t190) ∧ Aside0 (Kd.S (Kd.slice 3 (Kd.int .i64)) 43 w' w.heap.size (fun k_ => some k_ ≠ (v191 : Value).ownBlock ∧ some k_ ≠ (u9 : Value).ownBlock) (.slice Ao33 t193.length co33) t193) ∧ Aside0 (Kd.S k58 58 w' w.heap.size (fun k_ => some k_ ≠ (v191 : Value).ownBlock ∧ some k_ ≠ (u9 : Value).ownBlock) u7 x7_1) ∧ Aside0 (Kd.R (Kd.int .i64) 3 w' w.heap.size (fun k_ => some k_ ≠ (v191 : Value).ownBlock) u9 x9_2) ∧ Aside0 (Kd.S (Kd.slice 3 (Kd.int .i64)) 43 w' w.heap.size (fun k_ => some k_ ≠ (v191 : Value).ownBlock ∧ some k_ ≠ (u9 : Value).ownBlock) (.slice Ao33 t193.length co33) t193) ∧ Aside0 (w'.heap[gb184]? = some (.cells #[(.slice A0_0 l0_0.length c0_0)] 28 (0,0))) ∧ Aside0 (Below w.heap.size w w'))
         case atStart => exact ⟨(false),(0),(by first | rfl | (simp;done) | (simp [*];done)),(by first | rfl | (simp;done) | (simp [*];done)),H',⟨Nat.le_refl _⟩,⟨by (with_reducible repeat (first | apply Kd.R_alloc | apply Kd.R_drewN | apply Kd.R_drew));exact HO_5.out⟩,⟨by (with_reducible repeat (first | apply Kd.S_alloc | apply Kd.S_drewN | apply Kd.S_drew));exact HO_6.out⟩,⟨by (with_reducible repeat (first | apply Kd.S_alloc | apply Kd.S_drewN | apply Kd.S_drew));exact HO_7.out⟩,⟨by (with_reducible repeat (first | apply Kd.R_alloc | apply Kd.R_drewN | apply Kd.R_drew));exact HO_9.out⟩,⟨by (with_reducible repeat (first | apply Kd.S_alloc | apply Kd.S_drewN | apply Kd.S_drew));exact HO_6.out⟩,⟨by (with_reducible repeat (first | refine blk_drewN ?_ _ | refine blk_drew ?_ | refine blk_alloc ?_ _));exact BK184.out⟩,⟨by repeat (first | (with_reducible first | exact HB.out | apply below_alloc | apply pw_below_drewN | apply below_drew1 | refine below_set ?_ GE184.out) | exact HB.out)⟩⟩
         case round =>
          clear H'
          try clear c1
          try clear p1
          try clear q1
          try clear hx1
          try clear p2
          try clear q2
          try clear hx2
          try clear qi2
          try clear c3
          try clear c4
          try clear c6
          try clear p6
          try clear c19
          try clear p19
          try clear q19
          try clear hx19
          try clear p20
          try clear q20
          try clear hx20
          try clear qi20
          try clear c30
          try clear c30b0
          try clear c34
          try clear c34b0
          try clear c35
          try clear c35b0
          try clear c36
          try clear c36b0
          try clear c37
          try clear c37b0
          try clear c37b1
          try clear c38
          try clear c38b0
          try clear c38b1
          try clear c39
          try clear c39b0
          try clear c39b1
          try clear hcz10_0
          try clear hcz12_0
          try clear hcz18_0
          try clear hcz20_0
          try clear hcz22_0
          try clear hcz25_0
          try clear hcz27_0
          try clear hcz29_0
          try clear hcz8_0
          try clear hfz10_0
          try clear hfz12_0
          try clear hfz18_0
          try clear hfz20_0
          try clear hfz22_0
          try clear hfz25_0
          try clear hfz27_0
          try clear hfz29_0
          try clear hfz8_0
          try clear hx199_0
          try clear hx200_0
          try clear hx201_0
          try clear p199
          try clear p2
          try clear p200
          try clear p201
          try clear q199
          try clear q200
          try clear q201
          obtain ⟨x12_3,x63_3,rfl,rfl,HA,HK3,HO_5,HO_6,HO_7,HO_9,HO_61,BK184,HB⟩:=hrel
          cases gk with
          | zero => exact absurd HA.out (by simp [spec_l8Loops.l2])
          | succ k3 =>
           have H:=HA.out
           clear HA
           simp only [spec_l8Loops.l2] at H
           by_cases c43 : x63_3 < (t193.length : Int)
           ·rw [if_pos c43] at H
            have c43b0 : decide (x63_3 < (t193.length : Int)) = true:=decide_eq_true c43
            clear c43
            by_cases c44 : 0 ≤ x63_3
            ·rw [if_pos c44] at H
             have c44b0 : decide (0 ≤ x63_3) = true:=decide_eq_true c44
             clear c44
             by_cases c45 : x63_3 < (t193.length : Int)
             ·rw [if_pos c45] at H
              have c45b0 : decide (x63_3 < (t193.length : Int)) = true:=decide_eq_true c45
              clear c45
              by_cases c46 : x12_3 = true
              ·subst c46
               have H1 : (spec_l8Loops.l2 k3 t190 t193 x7_1 x39_1 x9_2 true (l0_0.length : Int) x39_1 t193 (t193.length : Int) (wrap64 (x63_3 + 1)) l0_0) = some (r1,r2):=by rw [if_pos rfl] at H;exact H
               clear H
               have H:=H1
               clear H1
               have H':=Aside0.mk H
               clear H
               have p205 : 0 ≤ (x63_3 : Int):=of_decide_eq_true (by first | (with_reducible assumption) | assumption)
               have q205 : x63_3 < (t193.length : Int):=of_decide_eq_true (by first | (with_reducible assumption) | assumption)
               obtain ⟨ad205,A205_0,c205_0,e205,hx205_0,hl205_0,hi205_0⟩:=at_L1 (Kd.S_reads' HO_61.out).2.2 x63_3 p205 q205
               cases e205
               obtain ⟨ce205,hce205,hMe205,hcc205⟩:=Kd.S_get HO_61.out [] x63_3 p205 (by first | exact q205 | exact of_decide_eq_true (by first | (with_reducible assumption) | assumption) | (have e_:=(Kd.S_reads' HO_61.out).1;omega))
               obtain ⟨ve205_0,rfl,ge205_0⟩:=hMe205
               have hv205_0:=hcc205 0 _ rfl
               rw [Nat.add_zero,show ((Kd.slice 3 (Kd.int .i64))).sz = 1 from rfl,Nat.mul_one] at hv205_0
               replace hv205_0:=Option.some.inj (hv205_0.symm.trans hx205_0)
               rw [hv205_0] at ge205_0
               have HL205_0:=Aside0.mk (show Kd.R (Kd.int .i64) 3 _ _ _ _ (rd_L1 t193 x63_3) from ge205_0)
               clear hv205_0 ge205_0
               clear hcc205 hce205
               have HR205_0:=Aside0.mk hi205_0
               have HC205_0:=Aside0.mk hl205_0
               clear hi205_0 hl205_0
               replace p205:=eq_true p205
               replace q205:=eq_true q205
               go_wp2
               repeat (go_quiet (fail);try go_wp2)
               go_roundg k3
               case measure => have:=HK1.out;have:=HK2.out;have:=HK3.out;omega
               case rel => exact ⟨(true),(wrap64 (x63_3 + 1)),(by first | rfl | (simp;done) | (simp [*];done)),(by first | rfl | (simp;done) | (simp [*];done)),H',⟨by have:=HK1.out;have:=HK2.out;have:=HK3.out;omega⟩,⟨by (with_reducible repeat (first | apply Kd.R_alloc | apply Kd.R_drewN | apply Kd.R_drew));exact HO_5.out⟩,⟨by (with_reducible repeat (first | apply Kd.S_alloc | apply Kd.S_drewN | apply Kd.S_drew));exact HO_6.out⟩,⟨by (with_reducible repeat (first | apply Kd.S_alloc | apply Kd.S_drewN | apply Kd.S_drew));exact HO_7.out⟩,⟨by (with_reducible repeat (first | apply Kd.R_alloc | apply Kd.R_drewN | apply Kd.R_drew));exact HO_9.out⟩,⟨by (with_reducible repeat (first | apply Kd.S_alloc | apply Kd.S_drewN | apply Kd.S_drew));exact HO_61.out⟩,⟨by (with_reducible repeat (first | refine blk_drewN ?_ _ | refine blk_drew ?_ | refine blk_alloc ?_ _));exact BK184.out⟩,⟨by repeat (first | (with_reducible first | exact HB.out | apply below_alloc | apply pw_below_drewN | apply below_drew1 | refine below_set ?_ GE184.out) | exact HB.out)⟩⟩
              ·replace c46:=Bool.eq_false_iff.mpr c46
               subst c46
               have H1 : (if 1 < ((rd_L1 t193 x63_3).length : Int) then (spec_l8Loops.l2 k3 t190 t193 x7_1 x39_1 x9_2 ((rd (rd_L1 t193 x63_3) 1) == x39_1) (l0_0.length : Int) x39_1 t193 (t193.length : Int) (wrap64 (x63_3 + 1)) l0_0) else (none)) = some (r1,r2):=by rw [if_neg (show ¬ (false = true) by decide)] at H;exact H
               clear H
               have H:=H1
               clear H1
               by_cases c47 : 1 < ((rd_L1 t193 x63_3).length : Int)
               ·rw [if_pos c47] at H
                have c47b0 : decide (1 < ((rd_L1 t193 x63_3).length : Int)) = true:=decide_eq_true c47
                have c47b1 : decide (1 < (rd_L1 t193 x63_3).length) = true:=decide_eq_true (by omega)
                clear c47
                have H':=Aside0.mk H
                clear H
                have p205 : 0 ≤ (x63_3 : Int):=of_decide_eq_true (by first | (with_reducible assumption) | assumption)
                have q205 : x63_3 < (t193.length : Int):=of_decide_eq_true (by first | (with_reducible assumption) | assumption)
                obtain ⟨ad205,A205_0,c205_0,e205,hx205_0,hl205_0,hi205_0⟩:=at_L1 (Kd.S_reads' HO_61.out).2.2 x63_3 p205 q205
                cases e205
                obtain ⟨ce205,hce205,hMe205,hcc205⟩:=Kd.S_get HO_61.out [] x63_3 p205 (by first | exact q205 | exact of_decide_eq_true (by first | (with_reducible assumption) | assumption) | (have e_:=(Kd.S_reads' HO_61.out).1;omega))
                obtain ⟨ve205_0,rfl,ge205_0⟩:=hMe205
                have hv205_0:=hcc205 0 _ rfl
                rw [Nat.add_zero,show ((Kd.slice 3 (Kd.int .i64))).sz = 1 from rfl,Nat.mul_one] at hv205_0
                replace hv205_0:=Option.some.inj (hv205_0.symm.trans hx205_0)
                rw [hv205_0] at ge205_0
                have HL205_0:=Aside0.mk (show Kd.R (Kd.int .i64) 3 _ _ _ _ (rd_L1 t193 x63_3) from ge205_0)
                clear hv205_0 ge205_0
                clear hcc205 hce205
                have HR205_0:=Aside0.mk hi205_0
                have HC205_0:=Aside0.mk hl205_0
                clear hi205_0 hl205_0
                replace p205:=eq_true p205
                replace q205:=eq_true q205
                have p206 : 0 ≤ (1 : Int):=(by omega)
                have q206 : 1 < ((rd_L1 t193 x63_3).length : Int):=of_decide_eq_true (by first | (with_reducible assumption) | assumption)
                obtain ⟨ad206,e206,hx206_0⟩:=Kd.at_int (by repeat (first | (with_reducible exact HR205_0.out) | (with_reducible refine Kd.C_alloc ?_ _) | (with_reducible refine Kd.C_drewN ?_ _) | (with_reducible refine Kd.C_drew ?_) | exact HR205_0.out)) 1 p206 q206
                cases e206
                (try simp only [show (1 : Int).toNat = 1 from rfl,Nat.reduceMul,Nat.reduceEqDiff,Go.Addr.add,↓reduceIte] at hx206_0)
                have qi206 : (1 < (rd_L1 t193 x63_3).length) = True:=eq_true (by omega)
                (try rw [show ((1 : Int)).toNat = 1 from rfl] at hx206_0)
                replace p206:=eq_true p206
                replace q206:=eq_true q206
                go_wp2
                repeat (go_quiet (fail);try go_wp2)
                go_roundg k3
                case measure => have:=HK1.out;have:=HK2.out;have:=HK3.out;omega
                case rel => exact ⟨(((rd (rd_L1 t193 x63_3) 1) == x39_1)),(wrap64 (x63_3 + 1)),(by first | rfl | (simp;done) | (simp [*];done)),(by first | rfl | (simp;done) | (simp [*];done)),H',⟨by have:=HK1.out;have:=HK2.out;have:=HK3.out;omega⟩,⟨by (with_reducible repeat (first | apply Kd.R_alloc | apply Kd.R_drewN | apply Kd.R_drew));exact HO_5.out⟩,⟨by (with_reducible repeat (first | apply Kd.S_alloc | apply Kd.S_drewN | apply Kd.S_drew));exact HO_6.out⟩,⟨by (with_reducible repeat (first | apply Kd.S_alloc | apply Kd.S_drewN | apply Kd.S_drew));exact HO_7.out⟩,⟨by (with_reducible repeat (first | apply Kd.R_alloc | apply Kd.R_drewN | apply Kd.R_drew));exact HO_9.out⟩,⟨by (with_reducible repeat (first | apply Kd.S_alloc | apply Kd.S_drewN | apply Kd.S_drew));exact HO_61.out⟩,⟨by (with_reducible repeat (first | refine blk_drewN ?_ _ | refine blk_drew ?_ | refine blk_alloc ?_ _));exact BK184.out⟩,⟨by repeat (first | (with_reducible first | exact HB.out | apply below_alloc | apply pw_below_drewN | apply below_drew1 | refine below_set ?_ GE184.out) | exact HB.out)⟩⟩
               ·rw [if_neg c47] at H
                exact absurd H (by simp)
             ·rw [if_neg c45] at H
              exact absurd H (by simp)
            ·rw [if_neg c44] at H
             exact absurd H (by simp)
           ·rw [if_neg c43] at H
            have c43b0 : decide (x63_3 < (t193.length : Int)) = false:=decide_eq_false c43
            clear c43
            by_cases c48 : x12_3 = true
            ·subst c48
             have H1 : (spec_l8Loops.l3 k3 t190 t193 x7_1 x39_1 x9_2 true (l0_0.length : Int) x39_1 l0_0) = some (r1,r2):=by rw [if_pos rfl] at H;exact H
             clear H
             have H:=H1
             clear H1
             have H':=Aside0.mk H
             clear H
             go_wp2
             repeat (go_quiet (fail);try go_wp2)
             go_loopg [9,15] k3 (fun kq v9 v15 w' => ∃ (x9_4 : List Int) (x15_4 : Bool),v15 = .bool x15_4 ∧ Aside0 (spec_l8Loops.l3 kq t190 t193 x7_1 x39_1 x9_4 x15_4 (l0_0.length : Int) x39_1 l0_0 = some (r1,r2)) ∧ Aside0 (kq ≤ k3) ∧ Aside0 (Kd.R (Kd.int .i64) 3 w' w.heap.size (fun k_ => some k_ ≠ (v9 : Value).ownBlock) v191 t190) ∧ Aside0 (Kd.S (Kd.slice 3 (Kd.int .i64)) 43 w' w.heap.size (fun k_ => some k_ ≠ (v191 : Value).ownBlock ∧ some k_ ≠ (v9 : Value).ownBlock) (.slice Ao33 t193.length co33) t193) ∧ Aside0 (Kd.S k58 58 w' w.heap.size (fun k_ => some k_ ≠ (v191 : Value).ownBlock ∧ some k_ ≠ (v9 : Value).ownBlock) u7 x7_1) ∧ Aside0 (Kd.R (Kd.int .i64) 3 w' w.heap.size (fun k_ => some k_ ≠ (v191 : Value).ownBlock) v9 x9_4) ∧ Aside0 (w'.heap[gb184]? = some (.cells #[(.slice A0_0 l0_0.length c0_0)] 28 (0,0))) ∧ Aside0 (Below w.heap.size w w'))
             case atStart => exact ⟨(x9_2),(true),(by first | rfl | (simp;done) | (simp [*];done)),H',⟨Nat.le_refl _⟩,⟨by (with_reducible repeat (first | apply Kd.R_alloc | apply Kd.R_drewN | apply Kd.R_drew));exact HO_5.out⟩,⟨by (with_reducible repeat (first | apply Kd.S_alloc | apply Kd.S_drewN | apply Kd.S_drew));exact HO_6.out⟩,⟨by (with_reducible repeat (first | apply Kd.S_alloc | apply Kd.S_drewN | apply Kd.S_drew));exact HO_7.out⟩,⟨by (with_reducible repeat (first | apply Kd.R_alloc | apply Kd.R_drewN | apply Kd.R_drew));exact HO_9.out⟩,⟨by (with_reducible repeat (first | refine blk_drewN ?_ _ | refine blk_drew ?_ | refine blk_alloc ?_ _));exact BK184.out⟩,⟨by repeat (first | (with_reducible first | exact HB.out | apply below_alloc | apply pw_below_drewN | apply below_drew1 | refine below_set ?_ GE184.out) | exact HB.out)⟩⟩
             case round =>
              clear H'
              try clear c1
              try clear p1
              try clear q1
              try clear hx1
              try clear c2
              try clear p2
              try clear q2
              try clear hx2
              try clear qi2
              try clear c3
              try clear c4
              try clear c6
              try clear p6
              try clear c19
              try clear p19
              try clear q19
              try clear hx19
              try clear c20
              try clear p20
              try clear q20
              try clear hx20
              try clear qi20
              try clear c30
              try clear c30b0
              try clear c34
              try clear c34b0
              try clear c35
              try clear c35b0
              try clear c36
              try clear c36b0
              try clear c37
              try clear c37b0
              try clear c37b1
              try clear c38
              try clear c38b0
              try clear c38b1
              try clear c39
              try clear c39b0
              try clear c39b1
              try clear c43
              try clear c43b0
              try clear c44
              try clear c44b0
              try clear c45
              try clear c45b0
              try clear c46
              try clear c47
              try clear c47b0
              try clear c47b1
              try clear c48
              try clear hcz10_0
              try clear hcz12_0
              try clear hcz18_0
              try clear hcz20_0
              try clear hcz22_0
              try clear hcz25_0
              try clear hcz27_0
              try clear hcz29_0
              try clear hcz8_0
              try clear hfz10_0
              try clear hfz12_0
              try clear hfz18_0
              try clear hfz20_0
              try clear hfz22_0
              try clear hfz25_0
              try clear hfz27_0
              try clear hfz29_0
              try clear hfz8_0
              try clear hx199_0
              try clear hx200_0
              try clear hx201_0
              try clear hx205_0
              try clear hx206_0
              try clear p1
              try clear p19
              try clear p199
              try clear p2
              try clear p20
              try clear p200
              try clear p201
              try clear p205
              try clear p206
              try clear p6
              try clear q1
              try clear q19
              try clear q199
              try clear q2
              try clear q20
              try clear q200
              try clear q201
              try clear q205
              try clear q206
              obtain ⟨x9_4,x15_4,rfl,HA,HK4,HO_5,HO_6,HO_7,HO_9,BK184,HB⟩:=hrel
              cases gk with
              | zero => exact absurd HA.out (by simp [spec_l8Loops.l3])
              | succ k4 =>
               have H:=HA.out
               clear HA
               simp only [spec_l8Loops.l3] at H
               by_cases c49 : x15_4 = true
               ·subst c49
                have H1 : (spec_l8Loops.l4 k4 t190 t193 x7_1 x39_1 x9_4 false (l0_0.length : Int) x39_1 t190 (t190.length : Int) 0 l0_0) = some (r1,r2):=by rw [if_pos rfl] at H;exact H
                clear H
                have H:=H1
                clear H1
                have H':=Aside0.mk H
                clear H
                obtain ⟨Ao50,co50,eo50⟩:=Kd.R_slice HO_5.out
                subst eo50
                go_wp2
                repeat (go_quiet (fail);try go_wp2)
                go_loopg [9,15,81] k4 (fun kq v9 v15 v81 w' => ∃ (x9_5 : List Int) (x15_5 : Bool) (x81_5 : Int),v15 = .bool x15_5 ∧ v81 = .int .i64 x81_5 ∧ Aside0 (spec_l8Loops.l4 kq t190 t193 x7_1 x39_1 x9_5 x15_5 (l0_0.length : Int) x39_1 t190 (t190.length : Int) x81_5 l0_0 = some (r1,r2)) ∧ Aside0 (kq ≤ k4) ∧ Aside0 (Kd.R (Kd.int .i64) 3 w' w.heap.size (fun k_ => some k_ ≠ (v9 : Value).ownBlock) (.slice Ao50 t190.length co50) t190) ∧ Aside0 (Kd.S (Kd.slice 3 (Kd.int .i64)) 43 w' w.heap.size (fun k_ => some k_ ≠ ((.slice Ao50 t190.length co50) : Value).ownBlock ∧ some k_ ≠ (v9 : Value).ownBlock ∧ some k_ ≠ ((.slice Ao50 t190.length co50) : Value).ownBlock) (.slice Ao33 t193.length co33) t193) ∧ Aside0 (Kd.S k58 58 w' w.heap.size (fun k_ => some k_ ≠ ((.slice Ao50 t190.length co50) : Value).ownBlock ∧ some k_ ≠ (v9 : Value).ownBlock ∧ some k_ ≠ ((.slice Ao50 t190.length co50) : Value).ownBlock) u7 x7_1) ∧ Aside0 (Kd.R (Kd.int .i64) 3 w' w.heap.size (fun k_ => some k_ ≠ ((.slice Ao50 t190.length co50) : Value).ownBlock ∧ some k_ ≠ ((.slice Ao50 t190.length co50) : Value).ownBlock) v9 x9_5) ∧ Aside0 (Kd.R (Kd.int .i64) 3 w' w.heap.size (fun k_ => some k_ ≠ (v9 : Value).ownBlock) (.slice Ao50 t190.length co50) t190) ∧ Aside0 (w'.heap[gb184]? = some (.cells #[(.slice A0_0 l0_0.length c0_0)] 28 (0,0))) ∧ Aside0 (Below w.heap.size w w'))
                case atStart => exact ⟨(x9_4),(false),(0),(by first | rfl | (simp;done) | (simp [*];done)),(by first | rfl | (simp;done) | (simp [*];done)),H',⟨Nat.le_refl _⟩,⟨by (with_reducible repeat (first | apply Kd.R_alloc | apply Kd.R_drewN | apply Kd.R_drew));exact HO_5.out⟩,⟨by (with_reducible repeat (first | apply Kd.S_alloc | apply Kd.S_drewN | apply Kd.S_drew));exact Kd.S_mono HO_6.out (fun _ hk => ⟨hk.1,⟨hk.2,hk.1⟩⟩)⟩,⟨by (with_reducible repeat (first | apply Kd.S_alloc | apply Kd.S_drewN | apply Kd.S_drew));exact Kd.S_mono HO_7.out (fun _ hk => ⟨hk.1,⟨hk.2,hk.1⟩⟩)⟩,⟨by (with_reducible repeat (first | apply Kd.R_alloc | apply Kd.R_drewN | apply Kd.R_drew));exact Kd.R_mono HO_9.out (fun _ hk => ⟨hk,hk⟩)⟩,⟨by (with_reducible repeat (first | apply Kd.R_alloc | apply Kd.R_drewN | apply Kd.R_drew));exact HO_5.out⟩,⟨by (with_reducible repeat (first | refine blk_drewN ?_ _ | refine blk_drew ?_ | refine blk_alloc ?_ _));exact BK184.out⟩,⟨by repeat (first | (with_reducible first | exact HB.out | apply below_alloc | apply pw_below_drewN | apply below_drew1 | refine below_set ?_ GE184.out) | exact HB.out)⟩⟩
                case round =>
                 clear H'
                 try clear c1
                 try clear p1
                 try clear q1
                 try clear hx1
                 try clear c2
                 try clear p2
                 try clear q2
                 try clear hx2
                 try clear qi2
                 try clear c3
                 try clear c4
                 try clear c6
                 try clear p6
                 try clear c19
                 try clear p19
                 try clear q19
                 try clear hx19
                 try clear c20
                 try clear p20
                 try clear q20
                 try clear hx20
                 try clear qi20
                 try clear c30
                 try clear c30b0
                 try clear c34
                 try clear c34b0
                 try clear c35
                 try clear c35b0
                 try clear c36
                 try clear c36b0
                 try clear c37
                 try clear c37b0
                 try clear c37b1
                 try clear c38
                 try clear c38b0
                 try clear c38b1
                 try clear c39
                 try clear c39b0
                 try clear c39b1
                 try clear c43
                 try clear c43b0
                 try clear c44
                 try clear c44b0
                 try clear c45
                 try clear c45b0
                 try clear c46
                 try clear c47
                 try clear c47b0
                 try clear c47b1
                 try clear c48
                 try clear c49
                 try clear hcz10_0
                 try clear hcz12_0
                 try clear hcz18_0
                 try clear hcz20_0
                 try clear hcz22_0
                 try clear hcz25_0
                 try clear hcz27_0
                 try clear hcz29_0
                 try clear hcz8_0
                 try clear hfz10_0
                 try clear hfz12_0
                 try clear hfz18_0
                 try clear hfz20_0
                 try clear hfz22_0
                 try clear hfz25_0
                 try clear hfz27_0
                 try clear hfz29_0
                 try clear hfz8_0
                 try clear hx199_0
                 try clear hx200_0
                 try clear hx201_0
                 try clear hx205_0
                 try clear hx206_0
                 try clear p1
                 try clear p19
                 try clear p199
                 try clear p2
                 try clear p20
                 try clear p200
                 try clear p201
                 try clear p205
                 try clear p206
                 try clear p6
                 try clear q1
                 try clear q19
                 try clear q199
                 try clear q2
                 try clear q20
                 try clear q200
                 try clear q201
                 try clear q205
                 try clear q206
                 obtain ⟨x9_5,x15_5,x81_5,rfl,rfl,HA,HK5,HO_5,HO_6,HO_7,HO_9,HO_79,BK184,HB⟩:=hrel
                 cases gk with
                 | zero => exact absurd HA.out (by simp [spec_l8Loops.l4])
                 | succ k5 =>
                  have H:=HA.out
                  clear HA
                  simp only [spec_l8Loops.l4] at H
                  by_cases c51 : x81_5 < (t190.length : Int)
                  ·rw [if_pos c51] at H
                   have c51b0 : decide (x81_5 < (t190.length : Int)) = true:=decide_eq_true c51
                   clear c51
                   by_cases c52 : 0 ≤ x81_5
                   ·rw [if_pos c52] at H
                    have c52b0 : decide (0 ≤ x81_5) = true:=decide_eq_true c52
                    clear c52
                    by_cases c53 : x81_5 < (t190.length : Int)
                    ·rw [if_pos c53] at H
                     have c53b0 : decide (x81_5 < (t190.length : Int)) = true:=decide_eq_true c53
                     clear c53
                     replace H:=Option.bind_eq_some_iff.mp H
                     obtain ⟨t211,A540,H⟩:=H
                     replace H : (if t211 = true then (spec_l8Loops.l4 k5 t190 t193 x7_1 x39_1 x9_5 x15_5 (l0_0.length : Int) x39_1 t190 (t190.length : Int) (wrap64 (x81_5 + 1)) l0_0) else (if 0 ≤ (rd t190 x81_5) then (if (rd t190 x81_5) < (l0_0.length : Int) then (spec_l8Loops.l5 k5 t190 t193 x7_1 x39_1 x9_5 x15_5 (rd t190 x81_5) (l0_0.length : Int) x39_1 t190 (t190.length : Int) x81_5 (rd_L1 l0_0 (rd t190 x81_5)) ((rd_L1 l0_0 (rd t190 x81_5)).length : Int) 0 l0_0) else (none)) else (none))) = some (r1,r2):=H
                     have A54:=Aside0.mk A540
                     clear A540
                     by_cases c55 : t211 = true
                     ·subst c55
                      have H1 : (spec_l8Loops.l4 k5 t190 t193 x7_1 x39_1 x9_5 x15_5 (l0_0.length : Int) x39_1 t190 (t190.length : Int) (wrap64 (x81_5 + 1)) l0_0) = some (r1,r2):=by rw [if_pos rfl] at H;exact H
                      clear H
                      have H:=H1
                      clear H1
                      have H':=Aside0.mk H
                      clear H
                      have p210 : 0 ≤ (x81_5 : Int):=of_decide_eq_true (by first | (with_reducible assumption) | assumption)
                      have q210 : x81_5 < (t190.length : Int):=of_decide_eq_true (by first | (with_reducible assumption) | assumption)
                      obtain ⟨ad210,e210,hx210_0⟩:=Kd.at_int (Kd.R_reads' HO_79.out).2.2 x81_5 p210 q210
                      cases e210
                      replace p210:=eq_true p210
                      replace q210:=eq_true q210
                      obtain ⟨Ao56,co56,eo56⟩:=Kd.R_slice HO_9.out
                      subst eo56
                      go_wp2_with (first | (go_at_call 45;(with_reducible refine (spec_l1Has.calls k5 _ _ x9_5 (rd t190 x81_5) true _ ?side1 ?side2 A54.out).mono ?_);(case side1 => repeat (first | exact (Kd.R_reads' HO_9.out).2.2 | (with_reducible refine Kd.C_alloc ?_ _) | (with_reducible refine Kd.C_drewN ?_ _) | (with_reducible refine Kd.C_drew ?_)));(case side2 => exact (Kd.R_reads' HO_9.out).2.1);rintro e w' ⟨rfl,⟨nd,rfl⟩⟩;(try first | exact ⟨rfl,_,World.drewN_drewN _ _ _⟩ | exact ⟨rfl,_,Eq.trans (World.drewN_drewN _ _ _) (congrArg (World.drewN _) (Nat.add_assoc _ _ _))⟩)))
                      repeat (go_quiet (first | (go_at_call 45;(with_reducible refine (spec_l1Has.calls k5 _ _ x9_5 (rd t190 x81_5) true _ ?side1 ?side2 A54.out).mono ?_);(case side1 => repeat (first | exact (Kd.R_reads' HO_9.out).2.2 | (with_reducible refine Kd.C_alloc ?_ _) | (with_reducible refine Kd.C_drewN ?_ _) | (with_reducible refine Kd.C_drew ?_)));(case side2 => exact (Kd.R_reads' HO_9.out).2.1);rintro e w' ⟨rfl,⟨nd,rfl⟩⟩;(try first | exact ⟨rfl,_,World.drewN_drewN _ _ _⟩ | exact ⟨rfl,_,Eq.trans (World.drewN_drewN _ _ _) (congrArg (World.drewN _) (Nat.add_assoc _ _ _))⟩)));try go_wp2_with (first | (go_at_call 45;(with_reducible refine (spec_l1Has.calls k5 _ _ x9_5 (rd t190 x81_5) true _ ?side1 ?side2 A54.out).mono ?_);(case side1 => repeat (first | exact (Kd.R_reads' HO_9.out).2.2 | (with_reducible refine Kd.C_alloc ?_ _) | (with_reducible refine Kd.C_drewN ?_ _) | (with_reducible refine Kd.C_drew ?_)));(case side2 => exact (Kd.R_reads' HO_9.out).2.1);rintro e w' ⟨rfl,⟨nd,rfl⟩⟩;(try first | exact ⟨rfl,_,World.drewN_drewN _ _ _⟩ | exact ⟨rfl,_,Eq.trans (World.drewN_drewN _ _ _) (congrArg (World.drewN _) (Nat.add_assoc _ _ _))⟩))))
                      go_roundg k5
                      case measure => have:=HK1.out;have:=HK2.out;have:=HK3.out;have:=HK4.out;have:=HK5.out;omega
                      case rel => exact ⟨(x9_5),(x15_5),(wrap64 (x81_5 + 1)),(by first | rfl | (simp;done) | (simp [*];done)),(by first | rfl | (simp;done) | (simp [*];done)),H',⟨by have:=HK1.out;have:=HK2.out;have:=HK3.out;have:=HK4.out;have:=HK5.out;omega⟩,⟨by (with_reducible repeat (first | apply Kd.R_alloc | apply Kd.R_drewN | apply Kd.R_drew));exact HO_5.out⟩,⟨by (with_reducible repeat (first | apply Kd.S_alloc | apply Kd.S_drewN | apply Kd.S_drew));exact HO_6.out⟩,⟨by (with_reducible repeat (first | apply Kd.S_alloc | apply Kd.S_drewN | apply Kd.S_drew));exact HO_7.out⟩,⟨by (with_reducible repeat (first | apply Kd.R_alloc | apply Kd.R_drewN | apply Kd.R_drew));exact HO_9.out⟩,⟨by (with_reducible repeat (first | apply Kd.R_alloc | apply Kd.R_drewN | apply Kd.R_drew));exact HO_79.out⟩,⟨by (with_reducible repeat (first | refine blk_drewN ?_ _ | refine blk_drew ?_ | refine blk_alloc ?_ _));exact BK184.out⟩,⟨by repeat (first | (with_reducible first | exact HB.out | apply below_alloc | apply pw_below_drewN | apply below_drew1 | refine below_set ?_ GE184.out) | exact HB.out)⟩⟩
                     ·replace c55:=Bool.eq_false_iff.mpr c55
                      subst c55
                      have H1 : (if 0 ≤ (rd t190 x81_5) then (if (rd t190 x81_5) < (l0_0.length : Int) then (spec_l8Loops.l5 k5 t190 t193 x7_1 x39_1 x9_5 x15_5 (rd t190 x81_5) (l0_0.length : Int) x39_1 t190 (t190.length : Int) x81_5 (rd_L1 l0_0 (rd t190 x81_5)) ((rd_L1 l0_0 (rd t190 x81_5)).length : Int) 0 l0_0) else (none)) else (none)) = some (r1,r2):=by rw [if_neg (show ¬ (false = true) by decide)] at H;exact H
                      clear H
                      have H:=H1
                      clear H1
                      by_cases c57 : 0 ≤ (rd t190 x81_5)
                      ·rw [if_pos c57] at H
                       have c57b0 : decide (0 ≤ (rd t190 x81_5)) = true:=decide_eq_true c57
                       clear c57
                       by_cases c58 : (rd t190 x81_5) < (l0_0.length : Int)
                       ·rw [if_pos c58] at H
                        have c58b0 : decide ((rd t190 x81_5) < (l0_0.length : Int)) = true:=decide_eq_true c58
                        clear c58
                        have H':=Aside0.mk H
                        clear H
                        have p210 : 0 ≤ (x81_5 : Int):=of_decide_eq_true (by first | (with_reducible assumption) | assumption)
                        have q210 : x81_5 < (t190.length : Int):=of_decide_eq_true (by first | (with_reducible assumption) | assumption)
                        obtain ⟨ad210,e210,hx210_0⟩:=Kd.at_int (Kd.R_reads' HO_79.out).2.2 x81_5 p210 q210
                        cases e210
                        replace p210:=eq_true p210
                        replace q210:=eq_true q210
                        obtain ⟨Ao59,co59,eo59⟩:=Kd.R_slice HO_9.out
                        subst eo59
                        go_wp2_with (first | (go_at_call 45;(with_reducible refine (spec_l1Has.calls k5 _ _ x9_5 (rd t190 x81_5) false _ ?side1 ?side2 A54.out).mono ?_);(case side1 => repeat (first | exact (Kd.R_reads' HO_9.out).2.2 | (with_reducible refine Kd.C_alloc ?_ _) | (with_reducible refine Kd.C_drewN ?_ _) | (with_reducible refine Kd.C_drew ?_)));(case side2 => exact (Kd.R_reads' HO_9.out).2.1);rintro e w' ⟨rfl,⟨nd,rfl⟩⟩;(try first | exact ⟨rfl,_,World.drewN_drewN _ _ _⟩ | exact ⟨rfl,_,Eq.trans (World.drewN_drewN _ _ _) (congrArg (World.drewN _) (Nat.add_assoc _ _ _))⟩);have hcz60_0 : wr.cell? ⟨gb184,0,none⟩ = some (.slice A0_0 l0_0.length c0_0):=(blk_cell BK184.out 0).trans rfl;have hfz60_0:=blk_frozen BK184.out 0;have p212 : 0 ≤ ((rd t190 x81_5) : Int):=of_decide_eq_true (by first | (with_reducible assumption) | assumption);have q212 : (rd t190 x81_5) < (l0_0.length : Int):=of_decide_eq_true (by first | (with_reducible assumption) | assumption);obtain ⟨ad212,A212_0,c212_0,e212,hx212_0,hl212_0,hi212_0⟩:=at_L1 HR0_0.out (rd t190 x81_5) p212 q212;cases e212;replace hx212_0:=(HB.out.cell (World.block_lt_of_cell? w _ hx212_0)).trans hx212_0;have HR212_0:=Aside0.mk hi212_0;have HC212_0:=Aside0.mk hl212_0;clear hi212_0 hl212_0;replace p212:=eq_true p212;replace q212:=eq_true q212))
                        repeat (go_quiet (first | (go_at_call 45;(with_reducible refine (spec_l1Has.calls k5 _ _ x9_5 (rd t190 x81_5) false _ ?side1 ?side2 A54.out).mono ?_);(case side1 => repeat (first | exact (Kd.R_reads' HO_9.out).2.2 | (with_reducible refine Kd.C_alloc ?_ _) | (with_reducible refine Kd.C_drewN ?_ _) | (with_reducible refine Kd.C_drew ?_)));(case side2 => exact (Kd.R_reads' HO_9.out).2.1);rintro e w' ⟨rfl,⟨nd,rfl⟩⟩;(try first | exact ⟨rfl,_,World.drewN_drewN _ _ _⟩ | exact ⟨rfl,_,Eq.trans (World.drewN_drewN _ _ _) (congrArg (World.drewN _) (Nat.add_assoc _ _ _))⟩);have hcz60_0 : wr.cell? ⟨gb184,0,none⟩ = some (.slice A0_0 l0_0.length c0_0):=(blk_cell BK184.out 0).trans rfl;have hfz60_0:=blk_frozen BK184.out 0;have p212 : 0 ≤ ((rd t190 x81_5) : Int):=of_decide_eq_true (by first | (with_reducible assumption) | assumption);have q212 : (rd t190 x81_5) < (l0_0.length : Int):=of_decide_eq_true (by first | (with_reducible assumption) | assumption);obtain ⟨ad212,A212_0,c212_0,e212,hx212_0,hl212_0,hi212_0⟩:=at_L1 HR0_0.out (rd t190 x81_5) p212 q212;cases e212;replace hx212_0:=(HB.out.cell (World.block_lt_of_cell? w _ hx212_0)).trans hx212_0;have HR212_0:=Aside0.mk hi212_0;have HC212_0:=Aside0.mk hl212_0;clear hi212_0 hl212_0;replace p212:=eq_true p212;replace q212:=eq_true q212));try go_wp2_with (first | (go_at_call 45;(with_reducible refine (spec_l1Has.calls k5 _ _ x9_5 (rd t190 x81_5) false _ ?side1 ?side2 A54.out).mono ?_);(case side1 => repeat (first | exact (Kd.R_reads' HO_9.out).2.2 | (with_reducible refine Kd.C_alloc ?_ _) | (with_reducible refine Kd.C_drewN ?_ _) | (with_reducible refine Kd.C_drew ?_)));(case side2 => exact (Kd.R_reads' HO_9.out).2.1);rintro e w' ⟨rfl,⟨nd,rfl⟩⟩;(try first | exact ⟨rfl,_,World.drewN_drewN _ _ _⟩ | exact ⟨rfl,_,Eq.trans (World.drewN_drewN _ _ _) (congrArg (World.drewN _) (Nat.add_assoc _ _ _))⟩);have hcz60_0 : wr.cell? ⟨gb184,0,none⟩ = some (.slice A0_0 l0_0.length c0_0):=(blk_cell BK184.out 0).trans rfl;have hfz60_0:=blk_frozen BK184.out 0;have p212 : 0 ≤ ((rd t190 x81_5) : Int):=of_decide_eq_true (by first | (with_reducible assumption) | assumption);have q212 : (rd t190 x81_5) < (l0_0.length : Int):=of_decide_eq_true (by first | (with_reducible assumption) | assumption);obtain ⟨ad212,A212_0,c212_0,e212,hx212_0,hl212_0,hi212_0⟩:=at_L1 HR0_0.out (rd t190 x81_5) p212 q212;cases e212;replace hx212_0:=(HB.out.cell (World.block_lt_of_cell? w _ hx212_0)).trans hx212_0;have HR212_0:=Aside0.mk hi212_0;have HC212_0:=Aside0.mk hl212_0;clear hi212_0 hl212_0;replace p212:=eq_true p212;replace q212:=eq_true q212)))
                        go_loopg [9,15,94] k5 (fun kq v9 v15 v94 w' => ∃ (x9_6 : List Int) (x15_6 : Bool) (x94_6 : Int),v15 = .bool x15_6 ∧ v94 = .int .i64 x94_6 ∧ Aside0 (spec_l8Loops.l5 kq t190 t193 x7_1 x39_1 x9_6 x15_6 (rd t190 x81_5) (l0_0.length : Int) x39_1 t190 (t190.length : Int) x81_5 (rd_L1 l0_0 (rd t190 x81_5)) ((rd_L1 l0_0 (rd t190 x81_5)).length : Int) x94_6 l0_0 = some (r1,r2)) ∧ Aside0 (kq ≤ k5) ∧ Aside0 (Kd.R (Kd.int .i64) 3 w' w.heap.size (fun k_ => some k_ ≠ (v9 : Value).ownBlock) (.slice (some ad210) t190.length co50) t190) ∧ Aside0 (Kd.S (Kd.slice 3 (Kd.int .i64)) 43 w' w.heap.size (fun k_ => some k_ ≠ ((.slice (some ad210) t190.length co50) : Value).ownBlock ∧ some k_ ≠ (v9 : Value).ownBlock ∧ some k_ ≠ ((.slice (some ad210) t190.length co50) : Value).ownBlock) (.slice Ao33 t193.length co33) t193) ∧ Aside0 (Kd.S k58 58 w' w.heap.size (fun k_ => some k_ ≠ ((.slice (some ad210) t190.length co50) : Value).ownBlock ∧ some k_ ≠ (v9 : Value).ownBlock ∧ some k_ ≠ ((.slice (some ad210) t190.length co50) : Value).ownBlock) u7 x7_1) ∧ Aside0 (Kd.R (Kd.int .i64) 3 w' w.heap.size (fun k_ => some k_ ≠ ((.slice (some ad210) t190.length co50) : Value).ownBlock ∧ some k_ ≠ ((.slice (some ad210) t190.length co50) : Value).ownBlock) v9 x9_6) ∧ Aside0 (Kd.R (Kd.int .i64) 3 w' w.heap.size (fun k_ => some k_ ≠ (v9 : Value).ownBlock) (.slice (some ad210) t190.length co50) t190) ∧ Aside0 (w'.heap[gb184]? = some (.cells #[(.slice (some ad212) l0_0.length c0_0)] 28 (0,0))) ∧ Aside0 (Below w.heap.size w w'))
                        case atStart => exact ⟨(x9_5),(x15_5),(0),(by first | rfl | (simp;done) | (simp [*];done)),(by first | rfl | (simp;done) | (simp [*];done)),H',⟨Nat.le_refl _⟩,⟨by (with_reducible repeat (first | apply Kd.R_alloc | apply Kd.R_drewN | apply Kd.R_drew));exact HO_5.out⟩,⟨by (with_reducible repeat (first | apply Kd.S_alloc | apply Kd.S_drewN | apply Kd.S_drew));exact HO_6.out⟩,⟨by (with_reducible repeat (first | apply Kd.S_alloc | apply Kd.S_drewN | apply Kd.S_drew));exact HO_7.out⟩,⟨by (with_reducible repeat (first | apply Kd.R_alloc | apply Kd.R_drewN | apply Kd.R_drew));exact HO_9.out⟩,⟨by (with_reducible repeat (first | apply Kd.R_alloc | apply Kd.R_drewN | apply Kd.R_drew));exact HO_79.out⟩,⟨by (with_reducible repeat (first | refine blk_drewN ?_ _ | refine blk_drew ?_ | refine blk_alloc ?_ _));exact BK184.out⟩,⟨by repeat (first | (with_reducible first | exact HB.out | apply below_alloc | apply pw_below_drewN | apply below_drew1 | refine below_set ?_ GE184.out) | exact HB.out)⟩⟩
                        case round =>
                         clear H'
                         try clear c1
                         try clear p1
                         try clear q1
                         try clear hx1
                         try clear c2
                         try clear p2
                         try clear q2
                         try clear hx2
                         try clear qi2
                         try clear c3
                         try clear c4
                         try clear c5
                         try clear c6
                         try clear p6
                         try clear c19
                         try clear p19
                         try clear q19
                         try clear hx19
                         try clear c20
                         try clear p20
                         try clear q20
                         try clear hx20
                         try clear qi20
                         try clear c21
                         try clear p21
                         try clear q21
                         try clear hx21
                         try clear c30
                         try clear c30b0
                         try clear c34
                         try clear c34b0
                         try clear c35
                         try clear c35b0
                         try clear c36
                         try clear c36b0
                         try clear c37
                         try clear c37b0
                         try clear c37b1
                         try clear c38
                         try clear c38b0
                         try clear c38b1
                         try clear c39
                         try clear c39b0
                         try clear c39b1
                         try clear c43
                         try clear c43b0
                         try clear c44
                         try clear c44b0
                         try clear c45
                         try clear c45b0
                         try clear c46
                         try clear c47
                         try clear c47b0
                         try clear c47b1
                         try clear c48
                         try clear c49
                         try clear c51
                         try clear c51b0
                         try clear c52
                         try clear c52b0
                         try clear c53
                         try clear c53b0
                         try clear c55
                         try clear c57
                         try clear c57b0
                         try clear c58
                         try clear c58b0
                         try clear hcz10_0
                         try clear hcz12_0
                         try clear hcz18_0
                         try clear hcz20_0
                         try clear hcz22_0
                         try clear hcz25_0
                         try clear hcz27_0
                         try clear hcz29_0
                         try clear hcz60_0
                         try clear hcz8_0
                         try clear hfz10_0
                         try clear hfz12_0
                         try clear hfz18_0
                         try clear hfz20_0
                         try clear hfz22_0
                         try clear hfz25_0
                         try clear hfz27_0
                         try clear hfz29_0
                         try clear hfz60_0
                         try clear hfz8_0
                         try clear hx199_0
                         try clear hx200_0
                         try clear hx201_0
                         try clear hx205_0
                         try clear hx206_0
                         try clear hx210_0
                         try clear hx212_0
                         try clear p1
                         try clear p19
                         try clear p199
                         try clear p2
                         try clear p20
                         try clear p200
                         try clear p201
                         try clear p205
                         try clear p206
                         try clear p210
                         try clear p212
                         try clear p6
                         try clear q1
                         try clear q19
                         try clear q199
                         try clear q2
                         try clear q20
                         try clear q200
                         try clear q201
                         try clear q205
                         try clear q206
                         try clear q210
                         try clear q212
                         obtain ⟨x9_6,x15_6,x94_6,rfl,rfl,HA,HK6,HO_5,HO_6,HO_7,HO_9,HO_79,BK184,HB⟩:=hrel
                         cases gk with
                         | zero => exact absurd HA.out (by simp [spec_l8Loops.l5])
                         | succ k6 =>
                          have H:=HA.out
                          clear HA
                          simp only [spec_l8Loops.l5] at H
                          by_cases c61 : x94_6 < ((rd_L1 l0_0 (rd t190 x81_5)).length : Int)
                          ·rw [if_pos c61] at H
                           have c61b0 : decide (x94_6 < ((rd_L1 l0_0 (rd t190 x81_5)).length : Int)) = true:=decide_eq_true c61
                           clear c61
                           by_cases c62 : 0 ≤ x94_6
                           ·rw [if_pos c62] at H
                            have c62b0 : decide (0 ≤ x94_6) = true:=decide_eq_true c62
                            clear c62
                            by_cases c63 : x94_6 < ((rd_L1 l0_0 (rd t190 x81_5)).length : Int)
                            ·rw [if_pos c63] at H
                             have c63b0 : decide (x94_6 < ((rd_L1 l0_0 (rd t190 x81_5)).length : Int)) = true:=decide_eq_true c63
                             clear c63
                             by_cases c64 : (rd (rd_L1 l0_0 (rd t190 x81_5)) x94_6) = x39_1
                             ·rw [if_pos c64] at H
                              have c64b0 : ((rd (rd_L1 l0_0 (rd t190 x81_5)) x94_6) == x39_1) = true:=beq_iff_eq.mpr c64
                              have c64b1 : ((rd (rd_L1 l0_0 (rd t190 x81_5)) x94_6) != x39_1) = false:=bne_eq_false_iff_eq.mpr c64
                              clear c64
                              have H':=Aside0.mk H
                              clear H
                              have p213 : 0 ≤ (x94_6 : Int):=of_decide_eq_true (by first | (with_reducible assumption) | assumption)
                              have q213 : x94_6 < ((rd_L1 l0_0 (rd t190 x81_5)).length : Int):=of_decide_eq_true (by first | (with_reducible assumption) | assumption)
                              obtain ⟨ad213,e213,hx213_0⟩:=Kd.at_int HR212_0.out x94_6 p213 q213
                              cases e213
                              replace hx213_0:=(HB.out.cell (World.block_lt_of_cell? w _ hx213_0)).trans hx213_0
                              replace p213:=eq_true p213
                              replace q213:=eq_true q213
                              go_wp2
                              repeat (go_quiet (fail);try go_wp2)
                              go_roundg k6
                              case measure => have:=HK1.out;have:=HK2.out;have:=HK3.out;have:=HK4.out;have:=HK5.out;have:=HK6.out;omega
                              case rel => exact ⟨(x9_6),(x15_6),(wrap64 (x94_6 + 1)),(by first | rfl | (simp;done) | (simp [*];done)),(by first | rfl | (simp;done) | (simp [*];done)),H',⟨by have:=HK1.out;have:=HK2.out;have:=HK3.out;have:=HK4.out;have:=HK5.out;have:=HK6.out;omega⟩,⟨by (with_reducible repeat (first | apply Kd.R_alloc | apply Kd.R_drewN | apply Kd.R_drew));exact HO_5.out⟩,⟨by (with_reducible repeat (first | apply Kd.S_alloc | apply Kd.S_drewN | apply Kd.S_drew));exact HO_6.out⟩,⟨by (with_reducible repeat (first | apply Kd.S_alloc | apply Kd.S_drewN | apply Kd.S_drew));exact HO_7.out⟩,⟨by (with_reducible repeat (first | apply Kd.R_alloc | apply Kd.R_drewN | apply Kd.R_drew));exact HO_9.out⟩,⟨by (with_reducible repeat (first | apply Kd.R_alloc | apply Kd.R_drewN | apply Kd.R_drew));exact HO_79.out⟩,⟨by (with_reducible repeat (first | refine blk_drewN ?_ _ | refine blk_drew ?_ | refine blk_alloc ?_ _));exact BK184.out⟩,⟨by repeat (first | (with_reducible first | exact HB.out | apply below_alloc | apply pw_below_drewN | apply below_drew1 | refine below_set ?_ GE184.out) | exact HB.out)⟩⟩
                             ·rw [if_neg c64] at H
                              have c64b0 : ((rd (rd_L1 l0_0 (rd t190 x81_5)) x94_6) == x39_1) = false:=beq_eq_false_iff_ne.mpr c64
                              have c64b1 : ((rd (rd_L1 l0_0 (rd t190 x81_5)) x94_6) != x39_1) = true:=bne_iff_ne.mpr c64
                              replace H:=Option.bind_eq_some_iff.mp H
                              obtain ⟨t214,A650,H⟩:=H
                              replace H : (if t214 = true then ((spec_l1Put.f k6 x9_6 (rd t190 x81_5)).bind fun t215 => (spec_l8Loops.l5 k6 t190 t193 x7_1 x39_1 t215 true (rd t190 x81_5) (l0_0.length : Int) x39_1 t190 (t190.length : Int) x81_5 (rd_L1 l0_0 (rd t190 x81_5)) ((rd_L1 l0_0 (rd t190 x81_5)).length : Int) (wrap64 (x94_6 + 1)) l0_0)) else (spec_l8Loops.l5 k6 t190 t193 x7_1 x39_1 x9_6 x15_6 (rd t190 x81_5) (l0_0.length : Int) x39_1 t190 (t190.length : Int) x81_5 (rd_L1 l0_0 (rd t190 x81_5)) ((rd_L1 l0_0 (rd t190 x81_5)).length : Int) (wrap64 (x94_6 + 1)) l0_0)) = some (r1,r2):=H
                              have A65:=Aside0.mk A650
                              clear A650
                              by_cases c66 : t214 = true
                              ·subst c66
                               have H1 : ((spec_l1Put.f k6 x9_6 (rd t190 x81_5)).bind fun t215 => (spec_l8Loops.l5 k6 t190 t193 x7_1 x39_1 t215 true (rd t190 x81_5) (l0_0.length : Int) x39_1 t190 (t190.length : Int) x81_5 (rd_L1 l0_0 (rd t190 x81_5)) ((rd_L1 l0_0 (rd t190 x81_5)).length : Int) (wrap64 (x94_6 + 1)) l0_0)) = some (r1,r2):=by rw [if_pos rfl] at H;exact H
                               clear H
                               have H:=H1
                               clear H1
                               replace H:=Option.bind_eq_some_iff.mp H
                               obtain ⟨t215,A670,H⟩:=H
                               replace H : (spec_l8Loops.l5 k6 t190 t193 x7_1 x39_1 t215 true (rd t190 x81_5) (l0_0.length : Int) x39_1 t190 (t190.length : Int) x81_5 (rd_L1 l0_0 (rd t190 x81_5)) ((rd_L1 l0_0 (rd t190 x81_5)).length : Int) (wrap64 (x94_6 + 1)) l0_0) = some (r1,r2):=H
                               have A67:=Aside0.mk A670
                               clear A670
                               have H':=Aside0.mk H
                               clear H
                               have p213 : 0 ≤ (x94_6 : Int):=of_decide_eq_true (by first | (with_reducible assumption) | assumption)
                               have q213 : x94_6 < ((rd_L1 l0_0 (rd t190 x81_5)).length : Int):=of_decide_eq_true (by first | (with_reducible assumption) | assumption)
                               obtain ⟨ad213,e213,hx213_0⟩:=Kd.at_int HR212_0.out x94_6 p213 q213
                               cases e213
                               replace hx213_0:=(HB.out.cell (World.block_lt_of_cell? w _ hx213_0)).trans hx213_0
                               replace p213:=eq_true p213
                               replace q213:=eq_true q213
                               obtain ⟨Ao68,co68,eo68⟩:=Kd.R_slice HO_9.out
                               subst eo68
                               go_wp2_with (first | (go_at_call 45;(with_reducible refine (spec_l1Has.calls k6 _ _ x9_6 (rd (rd_L1 l0_0 (rd t190 x81_5)) x94_6) true _ ?side1 ?side2 A65.out).mono ?_);(case side1 => repeat (first | exact (Kd.R_reads' HO_9.out).2.2 | (with_reducible refine Kd.C_alloc ?_ _) | (with_reducible refine Kd.C_drewN ?_ _) | (with_reducible refine Kd.C_drew ?_)));(case side2 => exact (Kd.R_reads' HO_9.out).2.1);rintro e w' ⟨rfl,⟨nd,rfl⟩⟩;(try first | exact ⟨rfl,_,World.drewN_drewN _ _ _⟩ | exact ⟨rfl,_,Eq.trans (World.drewN_drewN _ _ _) (congrArg (World.drewN _) (Nat.add_assoc _ _ _))⟩)) | (go_at_call 55;(with_reducible refine (spec_l1Put.calls k6 (fun k_ => some k_ = (.slice Ao68 x9_6.length co68 : Value).ownBlock) (.slice Ao68 x9_6.length co68) x9_6 (rd t190 x81_5) t215 w _ ?side1 ?side2 A67.out).mono ?_);(case side1 => repeat (first | (with_reducible first | exact HB.out | apply below_alloc | apply pw_below_drewN | apply below_drew1 | refine below_set ?_ GE184.out) | exact HB.out));(case side2 => exact Kd.R_tight rfl HO_9.out);rintro e w69 ⟨v216,rfl,ho0,hb,hkp⟩;have n0_:=Aside0.mk (Kd.R_mono (ok':=fun k_ => some k_ ≠ (v216 : Value).ownBlock) (Kd.R_keptB (HO_5.out) hkp (fun k_ hk_ hs_ => (hk_) hs_)) (fun k_ hk_ => fun e_ => Or.elim (ho0.1 k_ e_.symm) (fun hs_ => hk_.2.1 hs_) (fun hn_ => Nat.not_le.2 hk_.2.2 hn_)));have n1_:=Aside0.mk (Kd.S_mono (ok':=fun k_ => some k_ ≠ (.slice (some ad210) t190.length co50 : Value).ownBlock ∧ some k_ ≠ (.slice (some ad210) t190.length co50 : Value).ownBlock ∧ some k_ ≠ (v216 : Value).ownBlock) (Kd.S_keptB (HO_6.out) hkp (fun k_ hk_ hs_ => (hk_.2.1) hs_)) (fun k_ hk_ => ⟨hk_.1.1,hk_.1.2.2,fun e_ => Or.elim (ho0.1 k_ e_.symm) (fun hs_ => hk_.2.1 hs_) (fun hn_ => Nat.not_le.2 hk_.2.2 hn_)⟩));have n2_:=Aside0.mk (Kd.S_mono (ok':=fun k_ => some k_ ≠ (.slice (some ad210) t190.length co50 : Value).ownBlock ∧ some k_ ≠ (.slice (some ad210) t190.length co50 : Value).ownBlock ∧ some k_ ≠ (v216 : Value).ownBlock) (Kd.S_keptB (HO_7.out) hkp (fun k_ hk_ hs_ => (hk_.2.1) hs_)) (fun k_ hk_ => ⟨hk_.1.1,hk_.1.2.2,fun e_ => Or.elim (ho0.1 k_ e_.symm) (fun hs_ => hk_.2.1 hs_) (fun hn_ => Nat.not_le.2 hk_.2.2 hn_)⟩));have n3_:=Aside0.mk (Kd.R_mono (ok':=fun k_ => some k_ ≠ (v216 : Value).ownBlock) (Kd.R_keptB (HO_79.out) hkp (fun k_ hk_ hs_ => (hk_) hs_)) (fun k_ hk_ => fun e_ => Or.elim (ho0.1 k_ e_.symm) (fun hs_ => hk_.2.1 hs_) (fun hn_ => Nat.not_le.2 hk_.2.2 hn_)));have n4_:=Aside0.mk (blk_kept (by (with_reducible repeat (first | refine blk_drewN ?_ _ | refine blk_drew ?_ | refine blk_alloc ?_ _));exact BK184.out) hkp (fun hs_ => (fun e_ => (Kd.R_ne HO_9.out BK184.out (by decide)) e_) hs_));have n5_:=Aside0.mk (Kd.R_mono (ok':=fun k_ => some k_ ≠ (.slice (some ad210) t190.length co50 : Value).ownBlock ∧ some k_ ≠ (.slice (some ad210) t190.length co50 : Value).ownBlock) ho0 (fun k_ hk_ => ⟨Or.elim hk_ (fun hs_ => fun e_ => (((HO_5.out).1 k_ e_.symm)) hs_) (fun hn_ => (Kd.fresh' (Kd.R_lt (by (with_reducible repeat (first | apply Kd.R_alloc | apply Kd.R_drewN | apply Kd.R_drew));exact HO_5.out)) k_ hn_)),Or.elim hk_ (fun hs_ => fun e_ => (((HO_79.out).1 k_ e_.symm)) hs_) (fun hn_ => (Kd.fresh' (Kd.R_lt (by (with_reducible repeat (first | apply Kd.R_alloc | apply Kd.R_drewN | apply Kd.R_drew));exact HO_79.out)) k_ hn_))⟩));have n6_:=Aside0.mk (hb);clear HO_5;clear HO_6;clear HO_7;clear HO_79;clear BK184;clear HB;clear HO_9;have HO_5:=n0_;have HO_6:=n1_;have HO_7:=n2_;have HO_79:=n3_;have BK184:=n4_;have HO217:=n5_;have HB:=n6_;clear n0_ n1_ n2_ n3_ n4_ n5_ n6_;(try clear hb);(try clear hkp);(try clear ho0)))
                               repeat (go_quiet (first | (go_at_call 45;(with_reducible refine (spec_l1Has.calls k6 _ _ x9_6 (rd (rd_L1 l0_0 (rd t190 x81_5)) x94_6) true _ ?side1 ?side2 A65.out).mono ?_);(case side1 => repeat (first | exact (Kd.R_reads' HO_9.out).2.2 | (with_reducible refine Kd.C_alloc ?_ _) | (with_reducible refine Kd.C_drewN ?_ _) | (with_reducible refine Kd.C_drew ?_)));(case side2 => exact (Kd.R_reads' HO_9.out).2.1);rintro e w' ⟨rfl,⟨nd,rfl⟩⟩;(try first | exact ⟨rfl,_,World.drewN_drewN _ _ _⟩ | exact ⟨rfl,_,Eq.trans (World.drewN_drewN _ _ _) (congrArg (World.drewN _) (Nat.add_assoc _ _ _))⟩)) | (go_at_call 55;(with_reducible refine (spec_l1Put.calls k6 (fun k_ => some k_ = (.slice Ao68 x9_6.length co68 : Value).ownBlock) (.slice Ao68 x9_6.length co68) x9_6 (rd t190 x81_5) t215 w _ ?side1 ?side2 A67.out).mono ?_);(case side1 => repeat (first | (with_reducible first | exact HB.out | apply below_alloc | apply pw_below_drewN | apply below_drew1 | refine below_set ?_ GE184.out) | exact HB.out));(case side2 => exact Kd.R_tight rfl HO_9.out);rintro e w69 ⟨v216,rfl,ho0,hb,hkp⟩;have n0_:=Aside0.mk (Kd.R_mono (ok':=fun k_ => some k_ ≠ (v216 : Value).ownBlock) (Kd.R_keptB (HO_5.out) hkp (fun k_ hk_ hs_ => (hk_) hs_)) (fun k_ hk_ => fun e_ => Or.elim (ho0.1 k_ e_.symm) (fun hs_ => hk_.2.1 hs_) (fun hn_ => Nat.not_le.2 hk_.2.2 hn_)));have n1_:=Aside0.mk (Kd.S_mono (ok':=fun k_ => some k_ ≠ (.slice (some ad210) t190.length co50 : Value).ownBlock ∧ some k_ ≠ (.slice (some ad210) t190.length co50 : Value).ownBlock ∧ some k_ ≠ (v216 : Value).ownBlock) (Kd.S_keptB (HO_6.out) hkp (fun k_ hk_ hs_ => (hk_.2.1) hs_)) (fun k_ hk_ => ⟨hk_.1.1,hk_.1.2.2,fun e_ => Or.elim (ho0.1 k_ e_.symm) (fun hs_ => hk_.2.1 hs_) (fun hn_ => Nat.not_le.2 hk_.2.2 hn_)⟩));have n2_:=Aside0.mk (Kd.S_mono (ok':=fun k_ => some k_ ≠ (.slice (some ad210) t190.length co50 : Value).ownBlock ∧ some k_ ≠ (.slice (some ad210) t190.length co50 : Value).ownBlock ∧ some k_ ≠ (v216 : Value).ownBlock) (Kd.S_keptB (HO_7.out) hkp (fun k_ hk_ hs_ => (hk_.2.1) hs_)) (fun k_ hk_ => ⟨hk_.1.1,hk_.1.2.2,fun e_ => Or.elim (ho0.1 k_ e_.symm) (fun hs_ => hk_.2.1 hs_) (fun hn_ => Nat.not_le.2 hk_.2.2 hn_)⟩));have n3_:=Aside0.mk (Kd.R_mono (ok':=fun k_ => some k_ ≠ (v216 : Value).ownBlock) (Kd.R_keptB (HO_79.out) hkp (fun k_ hk_ hs_ => (hk_) hs_)) (fun k_ hk_ => fun e_ => Or.elim (ho0.1 k_ e_.symm) (fun hs_ => hk_.2.1 hs_) (fun hn_ => Nat.not_le.2 hk_.2.2 hn_)));have n4_:=Aside0.mk (blk_kept (by (with_reducible repeat (first | refine blk_drewN ?_ _ | refine blk_drew ?_ | refine blk_alloc ?_ _));exact BK184.out) hkp (fun hs_ => (fun e_ => (Kd.R_ne HO_9.out BK184.out (by decide)) e_) hs_));have n5_:=Aside0.mk (Kd.R_mono (ok':=fun k_ => some k_ ≠ (.slice (some ad210) t190.length co50 : Value).ownBlock ∧ some k_ ≠ (.slice (some ad210) t190.length co50 : Value).ownBlock) ho0 (fun k_ hk_ => ⟨Or.elim hk_ (fun hs_ => fun e_ => (((HO_5.out).1 k_ e_.symm)) hs_) (fun hn_ => (Kd.fresh' (Kd.R_lt (by (with_reducible repeat (first | apply Kd.R_alloc | apply Kd.R_drewN | apply Kd.R_drew));exact HO_5.out)) k_ hn_)),Or.elim hk_ (fun hs_ => fun e_ => (((HO_79.out).1 k_ e_.symm)) hs_) (fun hn_ => (Kd.fresh' (Kd.R_lt (by (with_reducible repeat (first | apply Kd.R_alloc | apply Kd.R_drewN | apply Kd.R_drew));exact HO_79.out)) k_ hn_))⟩));have n6_:=Aside0.mk (hb);clear HO_5;clear HO_6;clear HO_7;clear HO_79;clear BK184;clear HB;clear HO_9;have HO_5:=n0_;have HO_6:=n1_;have HO_7:=n2_;have HO_79:=n3_;have BK184:=n4_;have HO217:=n5_;have HB:=n6_;clear n0_ n1_ n2_ n3_ n4_ n5_ n6_;(try clear hb);(try clear hkp);(try clear ho0)));try go_wp2_with (first | (go_at_call 45;(with_reducible refine (spec_l1Has.calls k6 _ _ x9_6 (rd (rd_L1 l0_0 (rd t190 x81_5)) x94_6) true _ ?side1 ?side2 A65.out).mono ?_);(case side1 => repeat (first | exact (Kd.R_reads' HO_9.out).2.2 | (with_reducible refine Kd.C_alloc ?_ _) | (with_reducible refine Kd.C_drewN ?_ _) | (with_reducible refine Kd.C_drew ?_)));(case side2 => exact (Kd.R_reads' HO_9.out).2.1);rintro e w' ⟨rfl,⟨nd,rfl⟩⟩;(try first | exact ⟨rfl,_,World.drewN_drewN _ _ _⟩ | exact ⟨rfl,_,Eq.trans (World.drewN_drewN _ _ _) (congrArg (World.drewN _) (Nat.add_assoc _ _ _))⟩)) | (go_at_call 55;(with_reducible refine (spec_l1Put.calls k6 (fun k_ => some k_ = (.slice Ao68 x9_6.length co68 : Value).ownBlock) (.slice Ao68 x9_6.length co68) x9_6 (rd t190 x81_5) t215 w _ ?side1 ?side2 A67.out).mono ?_);(case side1 => repeat (first | (with_reducible first | exact HB.out | apply below_alloc | apply pw_below_drewN | apply below_drew1 | refine below_set ?_ GE184.out) | exact HB.out));(case side2 => exact Kd.R_tight rfl HO_9.out);rintro e w69 ⟨v216,rfl,ho0,hb,hkp⟩;have n0_:=Aside0.mk (Kd.R_mono (ok':=fun k_ => some k_ ≠ (v216 : Value).ownBlock) (Kd.R_keptB (HO_5.out) hkp (fun k_ hk_ hs_ => (hk_) hs_)) (fun k_ hk_ => fun e_ => Or.elim (ho0.1 k_ e_.symm) (fun hs_ => hk_.2.1 hs_) (fun hn_ => Nat.not_le.2 hk_.2.2 hn_)));have n1_:=Aside0.mk (Kd.S_mono (ok':=fun k_ => some k_ ≠ (.slice (some ad210) t190.length co50 : Value).ownBlock ∧ some k_ ≠ (.slice (some ad210) t190.length co50 : Value).ownBlock ∧ some k_ ≠ (v216 : Value).ownBlock) (Kd.S_keptB (HO_6.out) hkp (fun k_ hk_ hs_ => (hk_.2.1) hs_)) (fun k_ hk_ => ⟨hk_.1.1,hk_.1.2.2,fun e_ => Or.elim (ho0.1 k_ e_.symm) (fun hs_ => hk_.2.1 hs_) (fun hn_ => Nat.not_le.2 hk_.2.2 hn_)⟩));have n2_:=Aside0.mk (Kd.S_mono (ok':=fun k_ => some k_ ≠ (.slice (some ad210) t190.length co50 : Value).ownBlock ∧ some k_ ≠ (.slice (some ad210) t190.length co50 : Value).ownBlock ∧ some k_ ≠ (v216 : Value).ownBlock) (Kd.S_keptB (HO_7.out) hkp (fun k_ hk_ hs_ => (hk_.2.1) hs_)) (fun k_ hk_ => ⟨hk_.1.1,hk_.1.2.2,fun e_ => Or.elim (ho0.1 k_ e_.symm) (fun hs_ => hk_.2.1 hs_) (fun hn_ => Nat.not_le.2 hk_.2.2 hn_)⟩));have n3_:=Aside0.mk (Kd.R_mono (ok':=fun k_ => some k_ ≠ (v216 : Value).ownBlock) (Kd.R_keptB (HO_79.out) hkp (fun k_ hk_ hs_ => (hk_) hs_)) (fun k_ hk_ => fun e_ => Or.elim (ho0.1 k_ e_.symm) (fun hs_ => hk_.2.1 hs_) (fun hn_ => Nat.not_le.2 hk_.2.2 hn_)));have n4_:=Aside0.mk (blk_kept (by (with_reducible repeat (first | refine blk_drewN ?_ _ | refine blk_drew ?_ | refine blk_alloc ?_ _));exact BK184.out) hkp (fun hs_ => (fun e_ => (Kd.R_ne HO_9.out BK184.out (by decide)) e_) hs_));have n5_:=Aside0.mk (Kd.R_mono (ok':=fun k_ => some k_ ≠ (.slice (some ad210) t190.length co50 : Value).ownBlock ∧ some k_ ≠ (.slice (some ad210) t190.length co50 : Value).ownBlock) ho0 (fun k_ hk_ => ⟨Or.elim hk_ (fun hs_ => fun e_ => (((HO_5.out).1 k_ e_.symm)) hs_) (fun hn_ => (Kd.fresh' (Kd.R_lt (by (with_reducible repeat (first | apply Kd.R_alloc | apply Kd.R_drewN | apply Kd.R_drew));exact HO_5.out)) k_ hn_)),Or.elim hk_ (fun hs_ => fun e_ => (((HO_79.out).1 k_ e_.symm)) hs_) (fun hn_ => (Kd.fresh' (Kd.R_lt (by (with_reducible repeat (first | apply Kd.R_alloc | apply Kd.R_drewN | apply Kd.R_drew));exact HO_79.out)) k_ hn_))⟩));have n6_:=Aside0.mk (hb);clear HO_5;clear HO_6;clear HO_7;clear HO_79;clear BK184;clear HB;clear HO_9;have HO_5:=n0_;have HO_6:=n1_;have HO_7:=n2_;have HO_79:=n3_;have BK184:=n4_;have HO217:=n5_;have HB:=n6_;clear n0_ n1_ n2_ n3_ n4_ n5_ n6_;(try clear hb);(try clear hkp);(try clear ho0))))
                               go_roundg k6
                               case measure => have:=HK1.out;have:=HK2.out;have:=HK3.out;have:=HK4.out;have:=HK5.out;have:=HK6.out;omega
                               case rel => exact ⟨(t215),(true),(wrap64 (x94_6 + 1)),(by first | rfl | (simp;done) | (simp [*];done)),(by first | rfl | (simp;done) | (simp [*];done)),H',⟨by have:=HK1.out;have:=HK2.out;have:=HK3.out;have:=HK4.out;have:=HK5.out;have:=HK6.out;omega⟩,⟨by (with_reducible repeat (first | apply Kd.R_alloc | apply Kd.R_drewN | apply Kd.R_drew));exact HO_5.out⟩,⟨by (with_reducible repeat (first | apply Kd.S_alloc | apply Kd.S_drewN | apply Kd.S_drew));exact Kd.S_mono HO_6.out (fun _ hk => ⟨hk.1,⟨hk.2.2,hk.2.1⟩⟩)⟩,⟨by (with_reducible repeat (first | apply Kd.S_alloc | apply Kd.S_drewN | apply Kd.S_drew));exact Kd.S_mono HO_7.out (fun _ hk => ⟨hk.1,⟨hk.2.2,hk.2.1⟩⟩)⟩,⟨by (with_reducible repeat (first | apply Kd.R_alloc | apply Kd.R_drewN | apply Kd.R_drew));exact HO217.out⟩,⟨by (with_reducible repeat (first | apply Kd.R_alloc | apply Kd.R_drewN | apply Kd.R_drew));exact HO_79.out⟩,⟨by (with_reducible repeat (first | refine blk_drewN ?_ _ | refine blk_drew ?_ | refine blk_alloc ?_ _));exact BK184.out⟩,⟨by repeat (first | (with_reducible first | exact HB.out | apply below_alloc | apply pw_below_drewN | apply below_drew1 | refine below_set ?_ GE184.out) | exact HB.out)⟩⟩
                              ·replace c66:=Bool.eq_false_iff.mpr c66
                               subst c66
                               have H1 : (spec_l8Loops.l5 k6 t190 t193 x7_1 x39_1 x9_6 x15_6 (rd t190 x81_5) (l0_0.length : Int) x39_1 t190 (t190.length : Int) x81_5 (rd_L1 l0_0 (rd t190 x81_5)) ((rd_L1 l0_0 (rd t190 x81_5)).length : Int) (wrap64 (x94_6 + 1)) l0_0) = some (r1,r2):=by rw [if_neg (show ¬ (false = true) by decide)] at H;exact H
                               clear H
                               have H:=H1
                               clear H1
                               have H':=Aside0.mk H
                               clear H
                               have p213 : 0 ≤ (x94_6 : Int):=of_decide_eq_true (by first | (with_reducible assumption) | assumption)
                               have q213 : x94_6 < ((rd_L1 l0_0 (rd t190 x81_5)).length : Int):=of_decide_eq_true (by first | (with_reducible assumption) | assumption)
                               obtain ⟨ad213,e213,hx213_0⟩:=Kd.at_int HR212_0.out x94_6 p213 q213
                               cases e213
                               replace hx213_0:=(HB.out.cell (World.block_lt_of_cell? w _ hx213_0)).trans hx213_0
                               replace p213:=eq_true p213
                               replace q213:=eq_true q213
                               obtain ⟨Ao70,co70,eo70⟩:=Kd.R_slice HO_9.out
                               subst eo70
                               go_wp2_with (first | (go_at_call 45;(with_reducible refine (spec_l1Has.calls k6 _ _ x9_6 (rd (rd_L1 l0_0 (rd t190 x81_5)) x94_6) false _ ?side1 ?side2 A65.out).mono ?_);(case side1 => repeat (first | exact (Kd.R_reads' HO_9.out).2.2 | (with_reducible refine Kd.C_alloc ?_ _) | (with_reducible refine Kd.C_drewN ?_ _) | (with_reducible refine Kd.C_drew ?_)));(case side2 => exact (Kd.R_reads' HO_9.out).2.1);rintro e w' ⟨rfl,⟨nd,rfl⟩⟩;(try first | exact ⟨rfl,_,World.drewN_drewN _ _ _⟩ | exact ⟨rfl,_,Eq.trans (World.drewN_drewN _ _ _) (congrArg (World.drewN _) (Nat.add_assoc _ _ _))⟩)))
                               repeat (go_quiet (first | (go_at_call 45;(with_reducible refine (spec_l1Has.calls k6 _ _ x9_6 (rd (rd_L1 l0_0 (rd t190 x81_5)) x94_6) false _ ?side1 ?side2 A65.out).mono ?_);(case side1 => repeat (first | exact (Kd.R_reads' HO_9.out).2.2 | (with_reducible refine Kd.C_alloc ?_ _) | (with_reducible refine Kd.C_drewN ?_ _) | (with_reducible refine Kd.C_drew ?_)));(case side2 => exact (Kd.R_reads' HO_9.out).2.1);rintro e w' ⟨rfl,⟨nd,rfl⟩⟩;(try first | exact ⟨rfl,_,World.drewN_drewN _ _ _⟩ | exact ⟨rfl,_,Eq.trans (World.drewN_drewN _ _ _) (congrArg (World.drewN _) (Nat.add_assoc _ _ _))⟩)));try go_wp2_with (first | (go_at_call 45;(with_reducible refine (spec_l1Has.calls k6 _ _ x9_6 (rd (rd_L1 l0_0 (rd t190 x81_5)) x94_6) false _ ?side1 ?side2 A65.out).mono ?_);(case side1 => repeat (first | exact (Kd.R_reads' HO_9.out).2.2 | (with_reducible refine Kd.C_alloc ?_ _) | (with_reducible refine Kd.C_drewN ?_ _) | (with_reducible refine Kd.C_drew ?_)));(case side2 => exact (Kd.R_reads' HO_9.out).2.1);rintro e w' ⟨rfl,⟨nd,rfl⟩⟩;(try first | exact ⟨rfl,_,World.drewN_drewN _ _ _⟩ | exact ⟨rfl,_,Eq.trans (World.drewN_drewN _ _ _) (congrArg (World.drewN _) (Nat.add_assoc _ _ _))⟩))))
                               go_roundg k6
                               case measure => have:=HK1.out;have:=HK2.out;have:=HK3.out;have:=HK4.out;have:=HK5.out;have:=HK6.out;omega
                               case rel => exact ⟨(x9_6),(x15_6),(wrap64 (x94_6 + 1)),(by first | rfl | (simp;done) | (simp [*];done)),(by first | rfl | (simp;done) | (simp [*];done)),H',⟨by have:=HK1.out;have:=HK2.out;have:=HK3.out;have:=HK4.out;have:=HK5.out;have:=HK6.out;omega⟩,⟨by (with_reducible repeat (first | apply Kd.R_alloc | apply Kd.R_drewN | apply Kd.R_drew));exact HO_5.out⟩,⟨by (with_reducible repeat (first | apply Kd.S_alloc | apply Kd.S_drewN | apply Kd.S_drew));exact HO_6.out⟩,⟨by (with_reducible repeat (first | apply Kd.S_alloc | apply Kd.S_drewN | apply Kd.S_drew));exact HO_7.out⟩,⟨by (with_reducible repeat (first | apply Kd.R_alloc | apply Kd.R_drewN | apply Kd.R_drew));exact HO_9.out⟩,⟨by (with_reducible repeat (first | apply Kd.R_alloc | apply Kd.R_drewN | apply Kd.R_drew));exact HO_79.out⟩,⟨by (with_reducible repeat (first | refine blk_drewN ?_ _ | refine blk_drew ?_ | refine blk_alloc ?_ _));exact BK184.out⟩,⟨by repeat (first | (with_reducible first | exact HB.out | apply below_alloc | apply pw_below_drewN | apply below_drew1 | refine below_set ?_ GE184.out) | exact HB.out)⟩⟩
                            ·rw [if_neg c63] at H
                             exact absurd H (by simp)
                           ·rw [if_neg c62] at H
                            exact absurd H (by simp)
                          ·rw [if_neg c61] at H
                           have c61b0 : decide (x94_6 < ((rd_L1 l0_0 (rd t190 x81_5)).length : Int)) = false:=decide_eq_false c61
                           clear c61
                           have H':=Aside0.mk H
                           clear H
                           go_wp2
                           repeat (go_quiet (fail);try go_wp2)
                           go_roundg k6
                           case measure => have:=HK1.out;have:=HK2.out;have:=HK3.out;have:=HK4.out;have:=HK5.out;have:=HK6.out;omega
                           case rel => exact ⟨(x9_6),(x15_6),(wrap64 (x81_5 + 1)),(by first | rfl | (simp;done) | (simp [*];done)),(by first | rfl | (simp;done) | (simp [*];done)),H',⟨by have:=HK1.out;have:=HK2.out;have:=HK3.out;have:=HK4.out;have:=HK5.out;have:=HK6.out;omega⟩,⟨by (with_reducible repeat (first | apply Kd.R_alloc | apply Kd.R_drewN | apply Kd.R_drew));exact HO_5.out⟩,⟨by (with_reducible repeat (first | apply Kd.S_alloc | apply Kd.S_drewN | apply Kd.S_drew));exact HO_6.out⟩,⟨by (with_reducible repeat (first | apply Kd.S_alloc | apply Kd.S_drewN | apply Kd.S_drew));exact HO_7.out⟩,⟨by (with_reducible repeat (first | apply Kd.R_alloc | apply Kd.R_drewN | apply Kd.R_drew));exact HO_9.out⟩,⟨by (with_reducible repeat (first | apply Kd.R_alloc | apply Kd.R_drewN | apply Kd.R_drew));exact HO_79.out⟩,⟨by (with_reducible repeat (first | refine blk_drewN ?_ _ | refine blk_drew ?_ | refine blk_alloc ?_ _));exact BK184.out⟩,⟨by repeat (first | (with_reducible first | exact HB.out | apply below_alloc | apply pw_below_drewN | apply below_drew1 | refine below_set ?_ GE184.out) | exact HB.out)⟩⟩
                       ·rw [if_neg c58] at H
                        exact absurd H (by simp)
                      ·rw [if_neg c57] at H
                       exact absurd H (by simp)
                    ·rw [if_neg c53] at H
                     exact absurd H (by simp)
                   ·rw [if_neg c52] at H
                    exact absurd H (by simp)
                  ·rw [if_neg c51] at H
                   have c51b0 : decide (x81_5 < (t190.length : Int)) = false:=decide_eq_false c51
                   clear c51
                   have H':=Aside0.mk H
                   clear H
                   go_wp2
                   repeat (go_quiet (fail);try go_wp2)
                   go_roundg k5
                   case measure => have:=HK1.out;have:=HK2.out;have:=HK3.out;have:=HK4.out;have:=HK5.out;omega
                   case rel => exact ⟨(x9_5),(x15_5),(by first | rfl | (simp;done) | (simp [*];done)),H',⟨by have:=HK1.out;have:=HK2.out;have:=HK3.out;have:=HK4.out;have:=HK5.out;omega⟩,⟨by (with_reducible repeat (first | apply Kd.R_alloc | apply Kd.R_drewN | apply Kd.R_drew));exact HO_5.out⟩,⟨by (with_reducible repeat (first | apply Kd.S_alloc | apply Kd.S_drewN | apply Kd.S_drew));exact Kd.S_mono HO_6.out (fun _ hk => ⟨hk.1,hk.2.1⟩)⟩,⟨by (with_reducible repeat (first | apply Kd.S_alloc | apply Kd.S_drewN | apply Kd.S_drew));exact Kd.S_mono HO_7.out (fun _ hk => ⟨hk.1,hk.2.1⟩)⟩,⟨by (with_reducible repeat (first | apply Kd.R_alloc | apply Kd.R_drewN | apply Kd.R_drew));exact Kd.R_mono HO_9.out (fun _ hk => hk.1)⟩,⟨by (with_reducible repeat (first | refine blk_drewN ?_ _ | refine blk_drew ?_ | refine blk_alloc ?_ _));exact BK184.out⟩,⟨by repeat (first | (with_reducible first | exact HB.out | apply below_alloc | apply pw_below_drewN | apply below_drew1 | refine below_set ?_ GE184.out) | exact HB.out)⟩⟩
               ·replace c49:=Bool.eq_false_iff.mpr c49
                subst c49
                have H1 : (if x7_1.length < 3518437208883 then (spec_l8Loops.l0 k4 t190 t193 (x7_1 ++ [(⟨x39_1,x9_4,(-1)⟩ : S58)]) (l0_0.length : Int) (wrap64 (x39_1 + 1)) l0_0) else (none)) = some (r1,r2):=by rw [if_neg (show ¬ (false = true) by decide)] at H;exact H
                clear H
                have H:=H1
                clear H1
                by_cases c71 : x7_1.length < 3518437208883
                ·rw [if_pos c71] at H
                 have LMc71:=Aside0.mk c71
                 clear c71
                 obtain ⟨y207,hy207⟩ : ∃ y_ : List (S58),y_ = (x7_1 ++ [(⟨x39_1,x9_4,(-1)⟩ : S58)]):=⟨_,rfl⟩
                 replace H : (spec_l8Loops.l0 k4 t190 t193 y207 (l0_0.length : Int) (wrap64 (x39_1 + 1)) l0_0) = some (r1,r2):=by first | (rw [hy207];with_reducible exact H) | (have H2_:=(Option.bind_some _ _).symm.trans H;rw [hy207];with_reducible exact H2_) | (have H2_:=(Option.bind_some _ _).symm.trans H;with_reducible exact H2_) | with_reducible exact H | (rw [hy207];exact H) | exact H
                 have Ny207:=Aside0.mk hy207
                 clear hy207
                 have H':=Aside0.mk H
                 clear H
                 obtain ⟨Ao72,co72,eo72⟩:=Kd.R_slice HO_9.out
                 subst eo72
                 go_wp2_with (first | ((with_reducible refine gate_builtin (b:=.append) (xs:=#[.tmp 111,.tmp 115]) rfl ?_);(try (refine gate_guard (by rfl) ?_;dsimp only));at_builtin;refine Kd.S_append k58 (w0:=w) w.heap.size rfl (.tmp 111) (.tmp 115) 37 58 (.agg #[(.int .i64 0),(.slice none 0 0),(.int .i64 0)]) 40 rfl Try.underlying37 info58 rfl (by decide) (by omega) u7 x7_1 (⟨x39_1,x9_4,(-1)⟩ : S58) [.int .i64 x39_1,.slice Ao72 x9_4.length co72,.int .i64 (-1)] (fun k_ => some k_ ≠ (v191 : Value).ownBlock) (fun k_ => some k_ = (.slice Ao72 x9_4.length co72 : Value).ownBlock) rfl rfl ?aP (fun k_ hk_ => ((Kd.R_mono (ok':=fun k_ => ((fun k_ => some k_ ≠ (v191 : Value).ownBlock)) k_ ∧ some k_ ≠ (u7 : Value).ownBlock) (Kd.R_apart' (HO_9.out) (Kd.S_typed HO_7.out) (by decide)) (fun k_ hk => ⟨hk.1,hk.2⟩))).1 k_ hk_.symm) ?aF ?aO ?aB ?aS ?aL ?_;(case aP => exact k58_mkM _ _ _ (⟨x39_1,x9_4,(-1)⟩ : S58) (Kd.R_mono (Kd.R_tight rfl (Kd.R_mono (ok':=fun k_ => ((fun k_ => some k_ ≠ (v191 : Value).ownBlock)) k_ ∧ some k_ ≠ (u7 : Value).ownBlock) (Kd.R_apart' (HO_9.out) (Kd.S_typed HO_7.out) (by decide)) (fun k_ hk => ⟨hk.1,hk.2⟩))) (fun _ h_ => h_)));(case aB => exact (by repeat (first | (with_reducible first | exact HB.out | apply below_alloc | apply pw_below_drewN | apply below_drew1 | refine below_set ?_ GE184.out) | exact HB.out)));(case aF => exact (fun k_ hk => Kd.fresh' (Kd.R_lt (by (with_reducible repeat (first | apply Kd.R_alloc | apply Kd.R_drewN | apply Kd.R_drew));exact HO_5.out)) k_ hk));(case aO => exact (by (with_reducible repeat (first | apply Kd.S_alloc | apply Kd.S_drewN | apply Kd.S_drew));exact Kd.S_mono HO_7.out (fun k_ hk => ⟨hk.1,fun e_ => hk.2 e_⟩)));(case aS => exact (below_size (by repeat (first | (with_reducible first | exact HB.out | apply below_alloc | apply pw_below_drewN | apply below_drew1 | refine below_set ?_ GE184.out) | exact HB.out))));(case aL => have:=LMc71.out;omega);intro v208 w73 ho hb hg hat;rw [← Ny207.out] at ho;have n0_:=Aside0.mk (Kd.R_over' (by (with_reducible repeat (first | apply Kd.R_alloc | apply Kd.R_drewN | apply Kd.R_drew));exact HO_5.out) (Kd.S_typed (by (with_reducible repeat (first | apply Kd.S_alloc | apply Kd.S_drewN | apply Kd.S_drew));exact HO_7.out)) (by decide) hg);have n1_:=Aside0.mk (Kd.S_over' (by (with_reducible repeat (first | apply Kd.S_alloc | apply Kd.S_drewN | apply Kd.S_drew));exact HO_6.out) (Kd.S_typed (by (with_reducible repeat (first | apply Kd.S_alloc | apply Kd.S_drewN | apply Kd.S_drew));exact HO_7.out)) (by decide) hg);have n2_:=Aside0.mk (blk_grown (g:=gb184) (o:=.cells #[.slice A0_0 l0_0.length c0_0] 28 (0,0)) (by (with_reducible repeat (first | refine blk_drewN ?_ _ | refine blk_drew ?_ | refine blk_alloc ?_ _));exact BK184.out) hg (Kd.S_ne HO_7.out BK184.out (by decide)));have n3_:=Aside0.mk (hb);have n4_:=Aside0.mk (ho);clear HO_5;clear HO_6;clear BK184;clear HB;clear HO_7;clear HO_9;have HO_5:=n0_;have HO_6:=n1_;have BK184:=n2_;have HB:=n3_;have HO209:=n4_;clear n0_ n1_ n2_ n3_ n4_;clear ho hb hg hat))
                 repeat (go_quiet (first | ((with_reducible refine gate_builtin (b:=.append) (xs:=#[.tmp 111,.tmp 115]) rfl ?_);(try (refine gate_guard (by rfl) ?_;dsimp only));at_builtin;refine Kd.S_append k58 (w0:=w) w.heap.size rfl (.tmp 111) (.tmp 115) 37 58 (.agg #[(.int .i64 0),(.slice none 0 0),(.int .i64 0)]) 40 rfl Try.underlying37 info58 rfl (by decide) (by omega) u7 x7_1 (⟨x39_1,x9_4,(-1)⟩ : S58) [.int .i64 x39_1,.slice Ao72 x9_4.length co72,.int .i64 (-1)] (fun k_ => some k_ ≠ (v191 : Value).ownBlock) (fun k_ => some k_ = (.slice Ao72 x9_4.length co72 : Value).ownBlock) rfl rfl ?aP (fun k_ hk_ => ((Kd.R_mono (ok':=fun k_ => ((fun k_ => some k_ ≠ (v191 : Value).ownBlock)) k_ ∧ some k_ ≠ (u7 : Value).ownBlock) (Kd.R_apart' (HO_9.out) (Kd.S_typed HO_7.out) (by decide)) (fun k_ hk => ⟨hk.1,hk.2⟩))).1 k_ hk_.symm) ?aF ?aO ?aB ?aS ?aL ?_;(case aP => exact k58_mkM _ _ _ (⟨x39_1,x9_4,(-1)⟩ : S58) (Kd.R_mono (Kd.R_tight rfl (Kd.R_mono (ok':=fun k_ => ((fun k_ => some k_ ≠ (v191 : Value).ownBlock)) k_ ∧ some k_ ≠ (u7 : Value).ownBlock) (Kd.R_apart' (HO_9.out) (Kd.S_typed HO_7.out) (by decide)) (fun k_ hk => ⟨hk.1,hk.2⟩))) (fun _ h_ => h_)));(case aB => exact (by repeat (first | (with_reducible first | exact HB.out | apply below_alloc | apply pw_below_drewN | apply below_drew1 | refine below_set ?_ GE184.out) | exact HB.out)));(case aF => exact (fun k_ hk => Kd.fresh' (Kd.R_lt (by (with_reducible repeat (first | apply Kd.R_alloc | apply Kd.R_drewN | apply Kd.R_drew));exact HO_5.out)) k_ hk));(case aO => exact (by (with_reducible repeat (first | apply Kd.S_alloc | apply Kd.S_drewN | apply Kd.S_drew));exact Kd.S_mono HO_7.out (fun k_ hk => ⟨hk.1,fun e_ => hk.2 e_⟩)));(case aS => exact (below_size (by repeat (first | (with_reducible first | exact HB.out | apply below_alloc | apply pw_below_drewN | apply below_drew1 | refine below_set ?_ GE184.out) | exact HB.out))));(case aL => have:=LMc71.out;omega);intro v208 w73 ho hb hg hat;rw [← Ny207.out] at ho;have n0_:=Aside0.mk (Kd.R_over' (by (with_reducible repeat (first | apply Kd.R_alloc | apply Kd.R_drewN | apply Kd.R_drew));exact HO_5.out) (Kd.S_typed (by (with_reducible repeat (first | apply Kd.S_alloc | apply Kd.S_drewN | apply Kd.S_drew));exact HO_7.out)) (by decide) hg);have n1_:=Aside0.mk (Kd.S_over' (by (with_reducible repeat (first | apply Kd.S_alloc | apply Kd.S_drewN | apply Kd.S_drew));exact HO_6.out) (Kd.S_typed (by (with_reducible repeat (first | apply Kd.S_alloc | apply Kd.S_drewN | apply Kd.S_drew));exact HO_7.out)) (by decide) hg);have n2_:=Aside0.mk (blk_grown (g:=gb184) (o:=.cells #[.slice A0_0 l0_0.length c0_0] 28 (0,0)) (by (with_reducible repeat (first | refine blk_drewN ?_ _ | refine blk_drew ?_ | refine blk_alloc ?_ _));exact BK184.out) hg (Kd.S_ne HO_7.out BK184.out (by decide)));have n3_:=Aside0.mk (hb);have n4_:=Aside0.mk (ho);clear HO_5;clear HO_6;clear BK184;clear HB;clear HO_7;clear HO_9;have HO_5:=n0_;have HO_6:=n1_;have BK184:=n2_;have HB:=n3_;have HO209:=n4_;clear n0_ n1_ n2_ n3_ n4_;clear ho hb hg hat));try go_wp2_with (first | ((with_reducible refine gate_builtin (b:=.append) (xs:=#[.tmp 111,.tmp 115]) rfl ?_);(try (refine gate_guard (by rfl) ?_;dsimp only));at_builtin;refine Kd.S_append k58 (w0:=w) w.heap.size rfl (.tmp 111) (.tmp 115) 37 58 (.agg #[(.int .i64 0),(.slice none 0 0),(.int .i64 0)]) 40 rfl Try.underlying37 info58 rfl (by decide) (by omega) u7 x7_1 (⟨x39_1,x9_4,(-1)⟩ : S58) [.int .i64 x39_1,.slice Ao72 x9_4.length co72,.int .i64 (-1)] (fun k_ => some k_ ≠ (v191 : Value).ownBlock) (fun k_ => some k_ = (.slice Ao72 x9_4.length co72 : Value).ownBlock) rfl rfl ?aP (fun k_ hk_ => ((Kd.R_mono (ok':=fun k_ => ((fun k_ => some k_ ≠ (v191 : Value).ownBlock)) k_ ∧ some k_ ≠ (u7 : Value).ownBlock) (Kd.R_apart' (HO_9.out) (Kd.S_typed HO_7.out) (by decide)) (fun k_ hk => ⟨hk.1,hk.2⟩))).1 k_ hk_.symm) ?aF ?aO ?aB ?aS ?aL ?_;(case aP => exact k58_mkM _ _ _ (⟨x39_1,x9_4,(-1)⟩ : S58) (Kd.R_mono (Kd.R_tight rfl (Kd.R_mono (ok':=fun k_ => ((fun k_ => some k_ ≠ (v191 : Value).ownBlock)) k_ ∧ some k_ ≠ (u7 : Value).ownBlock) (Kd.R_apart' (HO_9.out) (Kd.S_typed HO_7.out) (by decide)) (fun k_ hk => ⟨hk.1,hk.2⟩))) (fun _ h_ => h_)));(case aB => exact (by repeat (first | (with_reducible first | exact HB.out | apply below_alloc | apply pw_below_drewN | apply below_drew1 | refine below_set ?_ GE184.out) | exact HB.out)));(case aF => exact (fun k_ hk => Kd.fresh' (Kd.R_lt (by (with_reducible repeat (first | apply Kd.R_alloc | apply Kd.R_drewN | apply Kd.R_drew));exact HO_5.out)) k_ hk));(case aO => exact (by (with_reducible repeat (first | apply Kd.S_alloc | apply Kd.S_drewN | apply Kd.S_drew));exact Kd.S_mono HO_7.out (fun k_ hk => ⟨hk.1,fun e_ => hk.2 e_⟩)));(case aS => exact (below_size (by repeat (first | (with_reducible first | exact HB.out | apply below_alloc | apply pw_below_drewN | apply below_drew1 | refine below_set ?_ GE184.out) | exact HB.out))));(case aL => have:=LMc71.out;omega);intro v208 w73 ho hb hg hat;rw [← Ny207.out] at ho;have n0_:=Aside0.mk (Kd.R_over' (by (with_reducible repeat (first | apply Kd.R_alloc | apply Kd.R_drewN | apply Kd.R_drew));exact HO_5.out) (Kd.S_typed (by (with_reducible repeat (first | apply Kd.S_alloc | apply Kd.S_drewN | apply Kd.S_drew));exact HO_7.out)) (by decide) hg);have n1_:=Aside0.mk (Kd.S_over' (by (with_reducible repeat (first | apply Kd.S_alloc | apply Kd.S_drewN | apply Kd.S_drew));exact HO_6.out) (Kd.S_typed (by (with_reducible repeat (first | apply Kd.S_alloc | apply Kd.S_drewN | apply Kd.S_drew));exact HO_7.out)) (by decide) hg);have n2_:=Aside0.mk (blk_grown (g:=gb184) (o:=.cells #[.slice A0_0 l0_0.length c0_0] 28 (0,0)) (by (with_reducible repeat (first | refine blk_drewN ?_ _ | refine blk_drew ?_ | refine blk_alloc ?_ _));exact BK184.out) hg (Kd.S_ne HO_7.out BK184.out (by decide)));have n3_:=Aside0.mk (hb);have n4_:=Aside0.mk (ho);clear HO_5;clear HO_6;clear BK184;clear HB;clear HO_7;clear HO_9;have HO_5:=n0_;have HO_6:=n1_;have BK184:=n2_;have HB:=n3_;have HO209:=n4_;clear n0_ n1_ n2_ n3_ n4_;clear ho hb hg hat)))
                 go_roundg k4
                 case measure => have:=HK1.out;have:=HK2.out;have:=HK3.out;have:=HK4.out;omega
                 case rel => exact ⟨(y207),(wrap64 (x39_1 + 1)),(by first | rfl | (simp;done) | (simp [*];done)),H',⟨by have:=HK1.out;have:=HK2.out;have:=HK3.out;have:=HK4.out;omega⟩,⟨by (with_reducible repeat (first | apply Kd.R_alloc | apply Kd.R_drewN | apply Kd.R_drew));exact Kd.R_mono HO_5.out (fun _ hk => trivial)⟩,⟨by (with_reducible repeat (first | apply Kd.S_alloc | apply Kd.S_drewN | apply Kd.S_drew));exact Kd.S_mono HO_6.out (fun _ hk => hk.1)⟩,⟨by (with_reducible repeat (first | apply Kd.S_alloc | apply Kd.S_drewN | apply Kd.S_drew));exact HO209.out⟩,⟨by (with_reducible repeat (first | refine blk_drewN ?_ _ | refine blk_drew ?_ | refine blk_alloc ?_ _));exact BK184.out⟩,⟨by repeat (first | (with_reducible first | exact HB.out | apply below_alloc | apply pw_below_drewN | apply below_drew1 | refine below_set ?_ GE184.out) | exact HB.out)⟩⟩
                ·rw [if_neg c71] at H
                 exact absurd H (by simp)
            ·replace c48:=Bool.eq_false_iff.mpr c48
             subst c48
             have H1 : (spec_l8Loops.l0 k3 t190 t193 x7_1 (l0_0.length : Int) (wrap64 (x39_1 + 1)) l0_0) = some (r1,r2):=by rw [if_neg (show ¬ (false = true) by decide)] at H;exact H
             clear H
             have H:=H1
             clear H1
             have H':=Aside0.mk H
             clear H
             go_wp2
             repeat (go_quiet (fail);try go_wp2)
             go_roundg k3
             case measure => have:=HK1.out;have:=HK2.out;have:=HK3.out;omega
             case rel => exact ⟨(x7_1),(wrap64 (x39_1 + 1)),(by first | rfl | (simp;done) | (simp [*];done)),H',⟨by have:=HK1.out;have:=HK2.out;have:=HK3.out;omega⟩,⟨by (with_reducible repeat (first | apply Kd.R_alloc | apply Kd.R_drewN | apply Kd.R_drew));exact Kd.R_mono HO_5.out (fun _ hk => trivial)⟩,⟨by (with_reducible repeat (first | apply Kd.S_alloc | apply Kd.S_drewN | apply Kd.S_drew));exact Kd.S_mono HO_6.out (fun _ hk => hk.1)⟩,⟨by (with_reducible repeat (first | apply Kd.S_alloc | apply Kd.S_drewN | apply Kd.S_drew));exact Kd.S_mono HO_7.out (fun _ hk => hk.1)⟩,⟨by (with_reducible repeat (first | refine blk_drewN ?_ _ | refine blk_drew ?_ | refine blk_alloc ?_ _));exact BK184.out⟩,⟨by repeat (first | (with_reducible first | exact HB.out | apply below_alloc | apply pw_below_drewN | apply below_drew1 | refine below_set ?_ GE184.out) | exact HB.out)⟩⟩
     ·rw [if_neg c30] at H
      have c30b0 : decide (x39_1 < (l0_0.length : Int)) = false:=decide_eq_false c30
      clear c30
      have H':=Aside0.mk H
      clear H
      obtain ⟨Ao74,co74,eo74⟩:=Kd.S_slice HO_7.out
      subst eo74
      go_wp2
      repeat (go_quiet (fail);try go_wp2)
      go_loopg [120] k1 (fun kq v120 w' => ∃ (x7_2 : List (S58)) (x120_2 : Int),v120 = .int .i64 x120_2 ∧ Aside0 (spec_l8Loops.l6 kq x7_2 (x7_1.length : Int) x120_2 = some (r1,r2)) ∧ Aside0 (kq ≤ k1) ∧ Aside0 (Kd.S k58 58 w' w.heap.size (fun _ => True) (.slice Ao74 x7_1.length co74) x7_2) ∧ Aside0 (w'.heap[gb184]? = some (.cells #[(.slice A0_0 l0_0.length c0_0)] 28 (0,0))) ∧ Aside0 (Below w.heap.size w w'))
      case atStart => exact ⟨(x7_1),(0),(by first | rfl | (simp;done) | (simp [*];done)),H',⟨Nat.le_refl _⟩,⟨by (with_reducible repeat (first | apply Kd.S_alloc | apply Kd.S_drewN | apply Kd.S_drew));exact Kd.S_mono HO_7.out (fun _ hk => trivial)⟩,⟨by (with_reducible repeat (first | refine blk_drewN ?_ _ | refine blk_drew ?_ | refine blk_alloc ?_ _));exact BK184.out⟩,⟨by repeat (first | (with_reducible first | exact HB.out | apply below_alloc | apply pw_below_drewN | apply below_drew1 | refine below_set ?_ GE184.out) | exact HB.out)⟩⟩
      case round =>
       clear H'
       try clear c1
       try clear p1
       try clear q1
       try clear hx1
       try clear c2
       try clear p2
       try clear q2
       try clear hx2
       try clear qi2
       try clear c3
       try clear c4
       try clear c5
       try clear c6
       try clear p6
       try clear c7
       try clear c19
       try clear p19
       try clear q19
       try clear hx19
       try clear c20
       try clear p20
       try clear q20
       try clear hx20
       try clear qi20
       try clear c21
       try clear p21
       try clear q21
       try clear hx21
       try clear c30
       try clear c30b0
       try clear c34
       try clear c34b0
       try clear c35
       try clear c35b0
       try clear c36
       try clear c36b0
       try clear c37
       try clear c37b0
       try clear c37b1
       try clear c38
       try clear c38b0
       try clear c38b1
       try clear c39
       try clear c39b0
       try clear c39b1
       try clear c43
       try clear c43b0
       try clear c44
       try clear c44b0
       try clear c45
       try clear c45b0
       try clear c46
       try clear c47
       try clear c47b0
       try clear c47b1
       try clear c48
       try clear c49
       try clear c51
       try clear c51b0
       try clear c52
       try clear c52b0
       try clear c53
       try clear c53b0
       try clear c55
       try clear c57
       try clear c57b0
       try clear c58
       try clear c58b0
       try clear c61
       try clear c61b0
       try clear c62
       try clear c62b0
       try clear c63
       try clear c63b0
       try clear c64
       try clear c64b0
       try clear c64b1
       try clear p64
       try clear c66
       try clear c71
       try clear hcz10_0
       try clear hcz12_0
       try clear hcz18_0
       try clear hcz20_0
       try clear hcz22_0
       try clear hcz25_0
       try clear hcz27_0
       try clear hcz29_0
       try clear hcz60_0
       try clear hcz8_0
       try clear hfz10_0
       try clear hfz12_0
       try clear hfz18_0
       try clear hfz20_0
       try clear hfz22_0
       try clear hfz25_0
       try clear hfz27_0
       try clear hfz29_0
       try clear hfz60_0
       try clear hfz8_0
       try clear hx199_0
       try clear hx200_0
       try clear hx201_0
       try clear hx205_0
       try clear hx206_0
       try clear hx210_0
       try clear hx212_0
       try clear hx213_0
       try clear p1
       try clear p19
       try clear p199
       try clear p2
       try clear p20
       try clear p200
       try clear p201
       try clear p205
       try clear p206
       try clear p21
       try clear p210
       try clear p212
       try clear p213
       try clear p6
       try clear q1
       try clear q19
       try clear q199
       try clear q2
       try clear q20
       try clear q200
       try clear q201
       try clear q205
       try clear q206
       try clear q21
       try clear q210
       try clear q212
       try clear q213
       obtain ⟨x7_2,x120_2,rfl,HA,HK2,HO_7,BK184,HB⟩:=hrel
       have hl7_2:=(Kd.S_reads' HO_7.out).1
       rw [hl7_2] at HO_7
       (try simp only [hl7_2])
       (try simp only [hl7_2] at BK184)
       cases gk with
       | zero => exact absurd HA.out (by simp [spec_l8Loops.l6])
       | succ k2 =>
        have H:=HA.out
        clear HA
        simp only [spec_l8Loops.l6] at H
        by_cases c75 : x120_2 < (x7_1.length : Int)
        ·rw [if_pos c75] at H
         have c75b0 : decide (x120_2 < (x7_1.length : Int)) = true:=decide_eq_true c75
         (try (have c75b0_h:=c75b0;rw [hl7_2] at c75b0_h))
         clear c75
         have H':=Aside0.mk H
         clear H
         go_wp2
         repeat (go_quiet (fail);try go_wp2)
         go_loopg [125] k2 (fun kq v125 w' => ∃ (x7_3 : List (S58)) (x125_3 : Int),v125 = .int .i64 x125_3 ∧ Aside0 (spec_l8Loops.l7 kq x7_3 x120_2 (x7_1.length : Int) x120_2 (x7_2.length : Int) x125_3 = some (r1,r2)) ∧ Aside0 (kq ≤ k2) ∧ Aside0 (Kd.S k58 58 w' w.heap.size (fun _ => True) (.slice Ao74 x7_2.length co74) x7_3) ∧ Aside0 (w'.heap[gb184]? = some (.cells #[(.slice A0_0 l0_0.length c0_0)] 28 (0,0))) ∧ Aside0 (Below w.heap.size w w'))
         case atStart => exact ⟨(x7_2),(0),(by first | rfl | (simp;done) | (simp [*];done)),H',⟨Nat.le_refl _⟩,⟨by (try simp only [hl7_2]);(with_reducible repeat (first | apply Kd.S_alloc | apply Kd.S_drewN | apply Kd.S_drew));exact HO_7.out⟩,⟨by (try simp only [hl7_2]);(with_reducible repeat (first | refine blk_drewN ?_ _ | refine blk_drew ?_ | refine blk_alloc ?_ _));exact BK184.out⟩,⟨by repeat (first | (with_reducible first | exact HB.out | apply below_alloc | apply pw_below_drewN | apply below_drew1 | refine below_set ?_ GE184.out) | exact HB.out)⟩⟩
         case round =>
          clear H'
          try clear c1
          try clear p1
          try clear q1
          try clear hx1
          try clear c2
          try clear p2
          try clear q2
          try clear hx2
          try clear qi2
          try clear c3
          try clear c4
          try clear c5
          try clear c6
          try clear p6
          try clear c7
          try clear c19
          try clear p19
          try clear q19
          try clear hx19
          try clear c20
          try clear p20
          try clear q20
          try clear hx20
          try clear qi20
          try clear c21
          try clear p21
          try clear q21
          try clear hx21
          try clear c30
          try clear c30b0
          try clear c34
          try clear c34b0
          try clear c35
          try clear c35b0
          try clear c36
          try clear c36b0
          try clear c37
          try clear c37b0
          try clear c37b1
          try clear c38
          try clear c38b0
          try clear c38b1
          try clear c39
          try clear c39b0
          try clear c39b1
          try clear c43
          try clear c43b0
          try clear c44
          try clear c44b0
          try clear c45
          try clear c45b0
          try clear c46
          try clear c47
          try clear c47b0
          try clear c47b1
          try clear c48
          try clear c49
          try clear c51
          try clear c51b0
          try clear c52
          try clear c52b0
          try clear c53
          try clear c53b0
          try clear c55
          try clear c57
          try clear c57b0
          try clear c58
          try clear c58b0
          try clear c61
          try clear c61b0
          try clear c62
          try clear c62b0
          try clear c63
          try clear c63b0
          try clear c64
          try clear c64b0
          try clear c64b1
          try clear p64
          try clear c66
          try clear c71
          try clear c75
          try clear c75b0
          try clear hcz10_0
          try clear hcz12_0
          try clear hcz18_0
          try clear hcz20_0
          try clear hcz22_0
          try clear hcz25_0
          try clear hcz27_0
          try clear hcz29_0
          try clear hcz60_0
          try clear hcz8_0
          try clear hfz10_0
          try clear hfz12_0
          try clear hfz18_0
          try clear hfz20_0
          try clear hfz22_0
          try clear hfz25_0
          try clear hfz27_0
          try clear hfz29_0
          try clear hfz60_0
          try clear hfz8_0
          try clear hx199_0
          try clear hx200_0
          try clear hx201_0
          try clear hx205_0
          try clear hx206_0
          try clear hx210_0
          try clear hx212_0
          try clear hx213_0
          try clear p1
          try clear p19
          try clear p199
          try clear p2
          try clear p20
          try clear p200
          try clear p201
          try clear p205
          try clear p206
          try clear p21
          try clear p210
          try clear p212
          try clear p213
          try clear p6
          try clear p64
          try clear q1
          try clear q19
          try clear q199
          try clear q2
          try clear q20
          try clear q200
          try clear q201
          try clear q205
          try clear q206
          try clear q21
          try clear q210
          try clear q212
          try clear q213
          obtain ⟨x7_3,x125_3,rfl,HA,HK3,HO_7,BK184,HB⟩:=hrel
          have hl7_3:=(Kd.S_reads' HO_7.out).1
          rw [hl7_3] at HO_7
          (try simp only [hl7_3])
          (try simp only [hl7_3] at BK184)
          cases gk with
          | zero => exact absurd HA.out (by simp [spec_l8Loops.l7])
          | succ k3 =>
           have H:=HA.out
           clear HA
           simp only [spec_l8Loops.l7] at H
           by_cases c76 : x125_3 < (x7_2.length : Int)
           ·rw [if_pos c76] at H
            have c76b0 : decide (x125_3 < (x7_2.length : Int)) = true:=decide_eq_true c76
            (try (have c76b0_h:=c76b0;rw [hl7_3] at c76b0_h))
            clear c76
            have HC77:=Aside0.mk H
            clear H
            go_upto_region 49 with (fail)
            repeat (go_quiet (fail);go_upto_region 49 with (fail))
            go_cut [144] (fun v144 wc => ∃ (kq : Nat) (x144_76 : Bool),v144 = .bool x144_76 ∧ Aside0 (spec_l8Loops.j8 kq x7_3 x120_2 x125_3 (x7_1.length : Int) x120_2 (x7_2.length : Int) x125_3 x144_76 = some (r1,r2)) ∧ Aside0 (kq ≤ k3) ∧ Aside0 (Kd.S k58 58 wc w.heap.size (fun _ => True) (.slice Ao74 x7_3.length co74) x7_3) ∧ Aside0 (wc.heap[gb184]? = some (.cells #[(.slice A0_0 l0_0.length c0_0)] 28 (0,0))) ∧ Aside0 (Below w.heap.size w wc))
            case first =>
             have H:=HC77.out
             clear HC77
             by_cases c78 : x120_2 = x125_3
             ·rw [if_pos c78] at H
              have c78b0 : (x120_2 == x125_3) = true:=beq_iff_eq.mpr c78
              have c78b1 : (x120_2 != x125_3) = false:=bne_eq_false_iff_eq.mpr c78
              clear c78
              (first | rw [c78b0] | (simp only [i64_w,i32_w];rw [c78b0]) | skip)
              have H':=Aside0.mk H
              clear H
              go_wp2
              repeat (go_quiet (fail);try go_wp2)
              go_meet
              case rel => exact ⟨_,(true),(by first | rfl | (simp;done) | (simp [*];done)),H',⟨by have:=HK1.out;have:=HK2.out;have:=HK3.out;first | omega | exact Nat.le_refl _⟩,⟨by (try simp only [hl7_2]);(try simp only [hl7_3]);(with_reducible repeat (first | apply Kd.S_alloc | apply Kd.S_drewN | apply Kd.S_drew));exact HO_7.out⟩,⟨by (try simp only [hl7_2]);(try simp only [hl7_3]);(with_reducible repeat (first | refine blk_drewN ?_ _ | refine blk_drew ?_ | refine blk_alloc ?_ _));exact BK184.out⟩,⟨by repeat (first | (with_reducible first | exact HB.out | apply below_alloc | apply pw_below_drewN | apply below_drew1 | refine below_set ?_ GE184.out) | exact HB.out)⟩⟩
             ·rw [if_neg c78] at H
              have c78b0 : (x120_2 == x125_3) = false:=beq_eq_false_iff_ne.mpr c78
              have c78b1 : (x120_2 != x125_3) = true:=bne_iff_ne.mpr c78
              (first | rw [c78b0] | (simp only [i64_w,i32_w];rw [c78b0]) | skip)
              by_cases c79 : 0 ≤ x125_3
              ·rw [if_pos c79] at H
               have c79b0 : decide (0 ≤ x125_3) = true:=decide_eq_true c79
               clear c79
               by_cases c80 : x125_3 < (x7_3.length : Int)
               ·rw [if_pos c80] at H
                have c80b0 : decide (x125_3 < (x7_3.length : Int)) = true:=decide_eq_true c80
                (try (have c80b0_h:=c80b0;rw [hl7_3] at c80b0_h))
                clear c80
                by_cases c81 : 0 ≤ x120_2
                ·rw [if_pos c81] at H
                 have c81b0 : decide (0 ≤ x120_2) = true:=decide_eq_true c81
                 clear c81
                 by_cases c82 : x120_2 < (x7_3.length : Int)
                 ·rw [if_pos c82] at H
                  have c82b0 : decide (x120_2 < (x7_3.length : Int)) = true:=decide_eq_true c82
                  (try (have c82b0_h:=c82b0;rw [hl7_3] at c82b0_h))
                  clear c82
                  replace H:=Option.bind_eq_some_iff.mp H
                  obtain ⟨t220,A830,H⟩:=H
                  replace H : (spec_l8Loops.j8 k3 x7_3 x120_2 x125_3 (x7_1.length : Int) x120_2 (x7_2.length : Int) x125_3 (!t220)) = some (r1,r2):=H
                  have A83:=Aside0.mk A830
                  clear A830
                  have H':=Aside0.mk H
                  clear H
                  have p218 : 0 ≤ (x125_3 : Int):=of_decide_eq_true (by first | (with_reducible assumption) | assumption)
                  have q218 : x125_3 < (x7_3.length : Int):=of_decide_eq_true (by first | (with_reducible assumption) | assumption)
                  obtain ⟨ad218,A218_1,c218_1,e218,hx218_0,hx218_1,hx218_2,hl218_1,hi218_1⟩:=at_T58 (Kd.S_reads' HO_7.out).2.2 x125_3 p218 q218
                  cases e218
                  obtain ⟨ce218,hce218,hMe218,hcc218⟩:=Kd.S_get HO_7.out z58 x125_3 p218 (by first | exact q218 | exact of_decide_eq_true (by first | (with_reducible assumption) | assumption) | (have e_:=(Kd.S_reads' HO_7.out).1;omega))
                  obtain ⟨ve218_1,rfl,ge218_1⟩:=k58_openM hMe218
                  have hv218_1:=hcc218 1 _ rfl
                  rw [add_field _ _ 1 (by omega)] at hv218_1
                  replace hv218_1:=Option.some.inj (hv218_1.symm.trans hx218_1)
                  rw [hv218_1] at ge218_1
                  have HL218_1:=Aside0.mk (show Kd.R (Kd.int .i64) 3 _ _ _ _ ((rd_T58 x7_3 x125_3).f1) from ge218_1)
                  clear hv218_1 ge218_1
                  clear hcc218 hce218
                  have HR218_1:=Aside0.mk hi218_1
                  have HC218_1:=Aside0.mk hl218_1
                  clear hi218_1 hl218_1
                  replace p218:=eq_true p218
                  replace q218:=eq_true q218
                  have p219 : 0 ≤ (x120_2 : Int):=of_decide_eq_true (by first | (with_reducible assumption) | assumption)
                  have q219 : x120_2 < (x7_3.length : Int):=of_decide_eq_true (by first | (with_reducible assumption) | assumption)
                  obtain ⟨ad219,A219_1,c219_1,e219,hx219_0,hx219_1,hx219_2,hl219_1,hi219_1⟩:=at_T58 (Kd.S_reads' HO_7.out).2.2 x120_2 p219 q219
                  obtain rfl : ad218 = ad219:=(by injection e219)
                  obtain ⟨ce219,hce219,hMe219,hcc219⟩:=Kd.S_get HO_7.out z58 x120_2 p219 (by first | exact q219 | exact of_decide_eq_true (by first | (with_reducible assumption) | assumption) | (have e_:=(Kd.S_reads' HO_7.out).1;omega))
                  obtain ⟨ve219_1,rfl,ge219_1⟩:=k58_openM hMe219
                  have hv219_1:=hcc219 1 _ rfl
                  rw [add_field _ _ 1 (by omega)] at hv219_1
                  replace hv219_1:=Option.some.inj (hv219_1.symm.trans hx219_1)
                  rw [hv219_1] at ge219_1
                  have HL219_1:=Aside0.mk (show Kd.R (Kd.int .i64) 3 _ _ _ _ ((rd_T58 x7_3 x120_2).f1) from ge219_1)
                  clear hv219_1 ge219_1
                  clear hcc219 hce219
                  have HR219_1:=Aside0.mk hi219_1
                  have HC219_1:=Aside0.mk hl219_1
                  clear hi219_1 hl219_1
                  replace p219:=eq_true p219
                  replace q219:=eq_true q219
                  go_wp2_with (first | (go_at_call 75;(with_reducible refine (spec_l8Has.calls k3 _ _ ((rd_T58 x7_3 x125_3).f1) _ _ ((rd_T58 x7_3 x120_2).f1) t220 _ ?side1 ?side2 ?side3 ?side4 A83.out).mono ?_);(case side1 => repeat (first | exact (by repeat (first | (with_reducible exact HR218_1.out) | (with_reducible refine Kd.C_alloc ?_ _) | (with_reducible refine Kd.C_drewN ?_ _) | (with_reducible refine Kd.C_drew ?_) | exact HR218_1.out)) | (with_reducible refine Kd.C_alloc ?_ _) | (with_reducible refine Kd.C_drewN ?_ _) | (with_reducible refine Kd.C_drew ?_)));(case side2 => exact HC218_1.out);(case side3 => repeat (first | exact (by repeat (first | (with_reducible exact HR219_1.out) | (with_reducible refine Kd.C_alloc ?_ _) | (with_reducible refine Kd.C_drewN ?_ _) | (with_reducible refine Kd.C_drew ?_) | exact HR219_1.out)) | (with_reducible refine Kd.C_alloc ?_ _) | (with_reducible refine Kd.C_drewN ?_ _) | (with_reducible refine Kd.C_drew ?_)));(case side4 => exact HC219_1.out);rintro e w' ⟨rfl,⟨nd,rfl⟩⟩;(try first | exact ⟨rfl,_,World.drewN_drewN _ _ _⟩ | exact ⟨rfl,_,Eq.trans (World.drewN_drewN _ _ _) (congrArg (World.drewN _) (Nat.add_assoc _ _ _))⟩)))
                  repeat (go_quiet (first | (go_at_call 75;(with_reducible refine (spec_l8Has.calls k3 _ _ ((rd_T58 x7_3 x125_3).f1) _ _ ((rd_T58 x7_3 x120_2).f1) t220 _ ?side1 ?side2 ?side3 ?side4 A83.out).mono ?_);(case side1 => repeat (first | exact (by repeat (first | (with_reducible exact HR218_1.out) | (with_reducible refine Kd.C_alloc ?_ _) | (with_reducible refine Kd.C_drewN ?_ _) | (with_reducible refine Kd.C_drew ?_) | exact HR218_1.out)) | (with_reducible refine Kd.C_alloc ?_ _) | (with_reducible refine Kd.C_drewN ?_ _) | (with_reducible refine Kd.C_drew ?_)));(case side2 => exact HC218_1.out);(case side3 => repeat (first | exact (by repeat (first | (with_reducible exact HR219_1.out) | (with_reducible refine Kd.C_alloc ?_ _) | (with_reducible refine Kd.C_drewN ?_ _) | (with_reducible refine Kd.C_drew ?_) | exact HR219_1.out)) | (with_reducible refine Kd.C_alloc ?_ _) | (with_reducible refine Kd.C_drewN ?_ _) | (with_reducible refine Kd.C_drew ?_)));(case side4 => exact HC219_1.out);rintro e w' ⟨rfl,⟨nd,rfl⟩⟩;(try first | exact ⟨rfl,_,World.drewN_drewN _ _ _⟩ | exact ⟨rfl,_,Eq.trans (World.drewN_drewN _ _ _) (congrArg (World.drewN _) (Nat.add_assoc _ _ _))⟩)));try go_wp2_with (first | (go_at_call 75;(with_reducible refine (spec_l8Has.calls k3 _ _ ((rd_T58 x7_3 x125_3).f1) _ _ ((rd_T58 x7_3 x120_2).f1) t220 _ ?side1 ?side2 ?side3 ?side4 A83.out).mono ?_);(case side1 => repeat (first | exact (by repeat (first | (with_reducible exact HR218_1.out) | (with_reducible refine Kd.C_alloc ?_ _) | (with_reducible refine Kd.C_drewN ?_ _) | (with_reducible refine Kd.C_drew ?_) | exact HR218_1.out)) | (with_reducible refine Kd.C_alloc ?_ _) | (with_reducible refine Kd.C_drewN ?_ _) | (with_reducible refine Kd.C_drew ?_)));(case side2 => exact HC218_1.out);(case side3 => repeat (first | exact (by repeat (first | (with_reducible exact HR219_1.out) | (with_reducible refine Kd.C_alloc ?_ _) | (with_reducible refine Kd.C_drewN ?_ _) | (with_reducible refine Kd.C_drew ?_) | exact HR219_1.out)) | (with_reducible refine Kd.C_alloc ?_ _) | (with_reducible refine Kd.C_drewN ?_ _) | (with_reducible refine Kd.C_drew ?_)));(case side4 => exact HC219_1.out);rintro e w' ⟨rfl,⟨nd,rfl⟩⟩;(try first | exact ⟨rfl,_,World.drewN_drewN _ _ _⟩ | exact ⟨rfl,_,Eq.trans (World.drewN_drewN _ _ _) (congrArg (World.drewN _) (Nat.add_assoc _ _ _))⟩))))
                  go_meet
                  case rel => exact ⟨_,(!t220),(by first | rfl | (simp;done) | (simp [*];done)),H',⟨by have:=HK1.out;have:=HK2.out;have:=HK3.out;first | omega | exact Nat.le_refl _⟩,⟨by (try simp only [hl7_2]);(try simp only [hl7_3]);(with_reducible repeat (first | apply Kd.S_alloc | apply Kd.S_drewN | apply Kd.S_drew));exact HO_7.out⟩,⟨by (try simp only [hl7_2]);(try simp only [hl7_3]);(with_reducible repeat (first | refine blk_drewN ?_ _ | refine blk_drew ?_ | refine blk_alloc ?_ _));exact BK184.out⟩,⟨by repeat (first | (with_reducible first | exact HB.out | apply below_alloc | apply pw_below_drewN | apply below_drew1 | refine below_set ?_ GE184.out) | exact HB.out)⟩⟩
                 ·rw [if_neg c82] at H
                  exact absurd H (by simp)
                ·rw [if_neg c81] at H
                 exact absurd H (by simp)
               ·rw [if_neg c80] at H
                exact absurd H (by simp)
              ·rw [if_neg c79] at H
               exact absurd H (by simp)
            case rest =>
             clear HC77
             try clear c1
             try clear p1
             try clear q1
             try clear hx1
             try clear c2
             try clear p2
             try clear q2
             try clear hx2
             try clear qi2
             try clear c3
             try clear c4
             try clear c5
             try clear c6
             try clear p6
             try clear c7
             try clear c8
             try clear c19
             try clear p19
             try clear q19
             try clear hx19
             try clear c20
             try clear p20
             try clear q20
             try clear hx20
             try clear qi20
             try clear c21
             try clear p21
             try clear q21
             try clear hx21
             try clear c30
             try clear c30b0
             try clear c34
             try clear c34b0
             try clear c35
             try clear c35b0
             try clear c36
             try clear c36b0
             try clear c37
             try clear c37b0
             try clear c37b1
             try clear c38
             try clear c38b0
             try clear c38b1
             try clear c39
             try clear c39b0
             try clear c39b1
             try clear c43
             try clear c43b0
             try clear c44
             try clear c44b0
             try clear c45
             try clear c45b0
             try clear c46
             try clear c47
             try clear c47b0
             try clear c47b1
             try clear c48
             try clear c49
             try clear c51
             try clear c51b0
             try clear c52
             try clear c52b0
             try clear c53
             try clear c53b0
             try clear c55
             try clear c57
             try clear c57b0
             try clear c58
             try clear c58b0
             try clear c61
             try clear c61b0
             try clear c62
             try clear c62b0
             try clear c63
             try clear c63b0
             try clear c64
             try clear c64b0
             try clear c64b1
             try clear p64
             try clear c66
             try clear c71
             try clear c75
             try clear c75b0
             try clear c76
             try clear c76b0
             try clear c78
             try clear c78b0
             try clear c78b1
             try clear c79
             try clear c79b0
             try clear c80
             try clear c80b0
             try clear c81
             try clear c81b0
             try clear c82
             try clear c82b0
             try clear hcz10_0
             try clear hcz12_0
             try clear hcz18_0
             try clear hcz20_0
             try clear hcz22_0
             try clear hcz25_0
             try clear hcz27_0
             try clear hcz29_0
             try clear hcz60_0
             try clear hcz8_0
             try clear hfz10_0
             try clear hfz12_0
             try clear hfz18_0
             try clear hfz20_0
             try clear hfz22_0
             try clear hfz25_0
             try clear hfz27_0
             try clear hfz29_0
             try clear hfz60_0
             try clear hfz8_0
             try clear hx199_0
             try clear hx200_0
             try clear hx201_0
             try clear hx205_0
             try clear hx206_0
             try clear hx210_0
             try clear hx212_0
             try clear hx213_0
             try clear hx218_0
             try clear hx218_1
             try clear hx218_2
             try clear hx219_0
             try clear hx219_1
             try clear hx219_2
             try clear p1
             try clear p19
             try clear p199
             try clear p2
             try clear p20
             try clear p200
             try clear p201
             try clear p205
             try clear p206
             try clear p21
             try clear p210
             try clear p212
             try clear p213
             try clear p218
             try clear p219
             try clear p6
             try clear p64
             try clear q1
             try clear q19
             try clear q199
             try clear q2
             try clear q20
             try clear q200
             try clear q201
             try clear q205
             try clear q206
             try clear q21
             try clear q210
             try clear q212
             try clear q213
             try clear q218
             try clear q219
             obtain ⟨kq,x144_76,rfl,HA,HJ76,HO_7,BK184,HB⟩:=hcut
             cases kq with
             | zero => exact absurd HA.out (by simp [spec_l8Loops.j8])
             | succ kj76 =>
              have H:=HA.out
              clear HA
              simp only [spec_l8Loops.j8] at H
              by_cases c84 : x144_76 = true
              ·subst c84
               have H1 : (spec_l8Loops.l7 kj76 x7_3 x120_2 (x7_1.length : Int) x120_2 (x7_2.length : Int) (wrap64 (x125_3 + 1))) = some (r1,r2):=by rw [if_pos rfl] at H;exact H
               clear H
               have H:=H1
               clear H1
               have H':=Aside0.mk H
               clear H
               go_wp2
               repeat (go_quiet (fail);try go_wp2)
               (try simp only [← hl7_3])
               go_roundg kj76
               case measure => have:=HK1.out;have:=HK2.out;have:=HK3.out;have:=HJ76.out;omega
               case rel => exact ⟨(x7_3),(wrap64 (x125_3 + 1)),(by first | rfl | (simp;done) | (simp [*];done)),H',⟨by have:=HK1.out;have:=HK2.out;have:=HK3.out;have:=HJ76.out;omega⟩,⟨by (try simp only [hl7_2]);(try simp only [hl7_3]);(with_reducible repeat (first | apply Kd.S_alloc | apply Kd.S_drewN | apply Kd.S_drew));exact HO_7.out⟩,⟨by (try simp only [hl7_2]);(try simp only [hl7_3]);(with_reducible repeat (first | refine blk_drewN ?_ _ | refine blk_drew ?_ | refine blk_alloc ?_ _));exact BK184.out⟩,⟨by repeat (first | (with_reducible first | exact HB.out | apply below_alloc | apply pw_below_drewN | apply below_drew1 | refine below_set ?_ GE184.out) | exact HB.out)⟩⟩
              ·replace c84:=Bool.eq_false_iff.mpr c84
               subst c84
               have H1 : (if 0 ≤ x120_2 then (if x120_2 < (x7_3.length : Int) then (if ((rd_T58 x7_3 x120_2).f2) < 0 then (spec_l8Loops.l7 kj76 (x7_3.set (x120_2 : Int).toNat (⟨(rd_T58 x7_3 x120_2).f0,(rd_T58 x7_3 x120_2).f1,x125_3⟩ : S58)) x120_2 (x7_1.length : Int) x120_2 (x7_2.length : Int) (wrap64 (x125_3 + 1))) else (if 0 ≤ x125_3 then (if x125_3 < (x7_3.length : Int) then (if 0 ≤ ((rd_T58 x7_3 x120_2).f2) then (if ((rd_T58 x7_3 x120_2).f2) < (x7_3.length : Int) then (if (((rd_T58 x7_3 x125_3).f1).length : Int) < (((rd_T58 x7_3 ((rd_T58 x7_3 x120_2).f2)).f1).length : Int) then (spec_l8Loops.l7 kj76 (x7_3.set (x120_2 : Int).toNat (⟨(rd_T58 x7_3 x120_2).f0,(rd_T58 x7_3 x120_2).f1,x125_3⟩ : S58)) x120_2 (x7_1.length : Int) x120_2 (x7_2.length : Int) (wrap64 (x125_3 + 1))) else (spec_l8Loops.l7 kj76 x7_3 x120_2 (x7_1.length : Int) x120_2 (x7_2.length : Int) (wrap64 (x125_3 + 1)))) else (none)) else (none)) else (none)) else (none))) else (none)) else (none)) = some (r1,r2):=by rw [if_neg (show ¬ (false = true) by decide)] at H;exact H
               clear H
               have H:=H1
               clear H1
               by_cases c85 : 0 ≤ x120_2
               ·rw [if_pos c85] at H
                have c85b0 : decide (0 ≤ x120_2) = true:=decide_eq_true c85
                clear c85
                by_cases c86 : x120_2 < (x7_3.length : Int)
                ·rw [if_pos c86] at H
                 have c86b0 : decide (x120_2 < (x7_3.length : Int)) = true:=decide_eq_true c86
                 (try (have c86b0_h:=c86b0;rw [hl7_3] at c86b0_h))
                 clear c86
                 by_cases c87 : ((rd_T58 x7_3 x120_2).f2) < 0
                 ·rw [if_pos c87] at H
                  have c87b0 : decide (((rd_T58 x7_3 x120_2).f2) < 0) = true:=decide_eq_true c87
                  clear c87
                  obtain ⟨y222,hy222⟩ : ∃ y_ : List (S58),y_ = (x7_3.set (x120_2 : Int).toNat (⟨(rd_T58 x7_3 x120_2).f0,(rd_T58 x7_3 x120_2).f1,x125_3⟩ : S58)):=⟨_,rfl⟩
                  replace H : (spec_l8Loops.l7 kj76 y222 x120_2 (x7_1.length : Int) x120_2 (x7_2.length : Int) (wrap64 (x125_3 + 1))) = some (r1,r2):=by first | (rw [hy222];with_reducible exact H) | (have H2_:=(Option.bind_some _ _).symm.trans H;rw [hy222];with_reducible exact H2_) | (have H2_:=(Option.bind_some _ _).symm.trans H;with_reducible exact H2_) | with_reducible exact H | (rw [hy222];exact H) | exact H
                  have Ny222:=Aside0.mk hy222
                  clear hy222
                  have H':=Aside0.mk H
                  clear H
                  have p221 : 0 ≤ (x120_2 : Int):=of_decide_eq_true (by first | (with_reducible assumption) | assumption)
                  have q221 : x120_2 < (x7_3.length : Int):=of_decide_eq_true (by first | (with_reducible assumption) | assumption)
                  obtain ⟨ad221,A221_1,c221_1,e221,hx221_0,hx221_1,hx221_2,hl221_1,hi221_1⟩:=at_T58 (Kd.S_reads' HO_7.out).2.2 x120_2 p221 q221
                  cases e221
                  obtain ⟨ce221,hce221,hMe221,hcc221⟩:=Kd.S_get HO_7.out z58 x120_2 p221 (by first | exact q221 | exact of_decide_eq_true (by first | (with_reducible assumption) | assumption) | (have e_:=(Kd.S_reads' HO_7.out).1;omega))
                  obtain ⟨ve221_1,rfl,ge221_1⟩:=k58_openM hMe221
                  have hv221_1:=hcc221 1 _ rfl
                  rw [add_field _ _ 1 (by omega)] at hv221_1
                  replace hv221_1:=Option.some.inj (hv221_1.symm.trans hx221_1)
                  rw [hv221_1] at ge221_1
                  have HL221_1:=Aside0.mk (show Kd.R (Kd.int .i64) 3 _ _ _ _ ((rd_T58 x7_3 x120_2).f1) from ge221_1)
                  clear hv221_1 ge221_1
                  clear hcc221 hce221
                  have HR221_1:=Aside0.mk hi221_1
                  have HC221_1:=Aside0.mk hl221_1
                  clear hi221_1 hl221_1
                  replace p221:=eq_true p221
                  replace q221:=eq_true q221
                  have p88 : 0 ≤ (x120_2 : Int):=of_decide_eq_true (by first | (with_reducible assumption) | assumption)
                  have q88 : (x120_2 : Int) < ((x7_3.length : Int) : Int):=of_decide_eq_true (by first | (with_reducible assumption) | assumption)
                  obtain ⟨go88,co88,eo88,gb88,gl88,cl88,HG88⟩:=Kd.S_form HO_7.out (by omega)
                  (first | cases eo88 | (injection eo88 with ea_ en_ ec_;(first | subst ea_ | (injection ea_ with ea_;subst ea_));subst ec_;clear en_))
                  have GB88:=Aside0.mk gb88
                  have GG88:=Aside0.mk HG88
                  clear gb88 gl88 HG88
                  (first | simp only [add_plain] at hx221_0 | skip)
                  (first | simp only [add_plain] at hx221_1 | skip)
                  (first | simp only [add_plain] at hx221_2 | skip)
                  obtain ⟨_,ce88,hcl88,hM88,hcc88,hfr88,_,_⟩:=Kd.S_elem HO_7.out z58 (x120_2 : Int) p88 q88
                  obtain ⟨ve88_1,rfl,ge88_1⟩:=k58_openM hM88
                  have hx88_0 : wc.cell? ⟨go88,(x120_2 : Int).toNat * 3,none⟩ = some (.int .i64 ((rd_T58 x7_3 x120_2).f0)):=hcc88 0 _ rfl
                  have hx88_1 : wc.cell? ⟨go88,(x120_2 : Int).toNat * 3 + 1,none⟩ = some (ve88_1):=hcc88 1 _ rfl
                  have hx88_2 : wc.cell? ⟨go88,(x120_2 : Int).toNat * 3 + 2,none⟩ = some (.int .i64 ((rd_T58 x7_3 x120_2).f2)):=hcc88 2 _ rfl
                  have hf88_0 : wc.frozen? ⟨go88,(x120_2 : Int).toNat * 3,none⟩ = false:=hfr88 0
                  have hf88_1 : wc.frozen? ⟨go88,(x120_2 : Int).toNat * 3 + 1,none⟩ = false:=hfr88 1
                  have hf88_2 : wc.frozen? ⟨go88,(x120_2 : Int).toNat * 3 + 2,none⟩ = false:=hfr88 2
                  clear hcl88 hcc88 hfr88;(try clear hM88)
                  replace p88:=eq_true p88
                  replace q88:=eq_true q88
                  have HX89:=Aside0.mk (show Kd.S k58 58 wc w.heap.size (fun k_ => ((fun _ => True)) k_ ∧ ¬ ((fun _ => False)) k_) (.slice (some ⟨go88,0,none⟩) x7_3.length co74) x7_3 from (by (with_reducible repeat (first | apply Kd.S_alloc | apply Kd.S_drewN | apply Kd.S_drew));exact Kd.S_mono HO_7.out (fun k_ hk => ⟨trivial,fun e_ => e_⟩)))
                  obtain ⟨oki89,ce89,hcl89,hM89,hcc89,hfr89,hoki89,hH89⟩:=Kd.S_elem HX89.out z58 (x120_2 : Int) (of_decide_eq_true (by first | (with_reducible assumption) | assumption)) (by have h_ : (x120_2 : Int) < ((x7_3.length : Int) : Int):=of_decide_eq_true (by first | (with_reducible assumption) | assumption);first | exact h_ | (have e_:=(Kd.S_reads' HO_7.out).1;omega) | simpa using h_)
                  obtain ⟨ve89_1,rfl,ge89_1⟩:=k58_openM hM89
                  have HP89:=Kd.S_seg hH89 (of_decide_eq_true (by first | (with_reducible assumption) | assumption)) (by have h_ : (x120_2 : Int) < ((x7_3.length : Int) : Int):=of_decide_eq_true (by first | (with_reducible assumption) | assumption);first | exact h_ | (have e_:=(Kd.S_reads' HO_7.out).1;omega) | simpa using h_) (seg:=[.int .i64 x125_3]) (j:=2) (show 3 ≤ 3 from by decide) (x':=(⟨(rd_T58 x7_3 x120_2).f0,(rd_T58 x7_3 x120_2).f1,x125_3⟩ : S58)) (k58_mkM _ _ _ (⟨(rd_T58 x7_3 x120_2).f0,(rd_T58 x7_3 x120_2).f1,x125_3⟩ : S58) (Kd.R_mono ge89_1 (fun _ h_ => Or.inl h_))) (fun _ hk => hk) (fun k_ hk_ => hk_.elim)
                  have hx89_2:=hcc89 2 _ rfl
                  (try simp only [show (k58).sz = 3 from rfl,Nat.mul_one,Nat.add_zero] at hx89_2)
                  have hf89_2:=hfr89 2
                  (try simp only [show (k58).sz = 3 from rfl,Nat.mul_one,Nat.add_zero] at hf89_2)
                  clear hcl89 hcc89 hfr89;(try clear hM89);clear hoki89 hH89
                  go_wp2_with (first | ((with_reducible refine gate_store (t:=3) (p:=171) rfl ?_);(try (rw [drewN_self wc];generalize hq_ : World.drewN wc _ = wc;have n0_:=Aside0.mk (Kd.S_at hq_ HO_7.out);have n1_:=Aside0.mk (Kd.R_at hq_ HL221_1.out);have n2_:=Aside0.mk (blk_at hq_ BK184.out);have n3_:=Aside0.mk (below_at hq_ HB.out);clear hq_ HO_7 HL221_1 BK184 HB;have HO_7:=n0_;have HL221_1:=n1_;have BK184:=n2_;have HB:=n3_;clear n0_ n1_ n2_ n3_;(try (have HX89:=Aside0.mk (show Kd.S k58 58 wc w.heap.size (fun k_ => ((fun _ => True)) k_ ∧ ¬ ((fun _ => False)) k_) (.slice (some ⟨go88,0,none⟩) x7_3.length co74) x7_3 from (by (with_reducible repeat (first | apply Kd.S_alloc | apply Kd.S_drewN | apply Kd.S_drew));exact Kd.S_mono HO_7.out (fun k_ hk => ⟨trivial,fun e_ => e_⟩)))));(try (obtain ⟨oki89,ce89,hcl89,hM89,hcc89,hfr89,hoki89,hH89⟩:=Kd.S_elem HX89.out z58 (x120_2 : Int) (of_decide_eq_true (by first | (with_reducible assumption) | assumption)) (by have h_ : (x120_2 : Int) < ((x7_3.length : Int) : Int):=of_decide_eq_true (by first | (with_reducible assumption) | assumption);first | exact h_ | (have e_:=(Kd.S_reads' HO_7.out).1;omega) | simpa using h_)));(try (obtain ⟨ve89_1,rfl,ge89_1⟩:=k58_openM hM89));(try (have HP89:=Kd.S_seg hH89 (of_decide_eq_true (by first | (with_reducible assumption) | assumption)) (by have h_ : (x120_2 : Int) < ((x7_3.length : Int) : Int):=of_decide_eq_true (by first | (with_reducible assumption) | assumption);first | exact h_ | (have e_:=(Kd.S_reads' HO_7.out).1;omega) | simpa using h_) (seg:=[.int .i64 x125_3]) (j:=2) (show 3 ≤ 3 from by decide) (x':=(⟨(rd_T58 x7_3 x120_2).f0,(rd_T58 x7_3 x120_2).f1,x125_3⟩ : S58)) (k58_mkM _ _ _ (⟨(rd_T58 x7_3 x120_2).f0,(rd_T58 x7_3 x120_2).f1,x125_3⟩ : S58) (Kd.R_mono ge89_1 (fun _ h_ => Or.inl h_))) (fun _ hk => hk) (fun k_ hk_ => hk_.elim)));(try (have hx89_2:=hcc89 2 _ rfl));(try (try simp only [show (k58).sz = 3 from rfl,Nat.mul_one,Nat.add_zero] at hx89_2));(try (have hf89_2:=hfr89 2));(try (try simp only [show (k58).sz = 3 from rfl,Nat.mul_one,Nat.add_zero] at hf89_2));(try (clear hcl89 hcc89 hfr89;(try clear hM89);clear hoki89 hH89))));refine store_event (t:=3) (p:=171) (v:=?vo_w90) (w1:=(wc.setCell ⟨go88,(x120_2 : Int).toNat * 3 + 2,none⟩ (.int .i64 x125_3))) ?hg ?ho ?hn ?hr ?_;(case ho => rfl);(case hg => rfl);(case hn => rfl);(case hr => first | (go_simp;done) | (go_simp;rfl));intro w90 hw;have hg : wc.grownBy w90 (some go88):=(by rw [hw];exact HP89.2);have hp_ : Kd.S k58 58 w90 w.heap.size (fun _ => True) (.slice (some ⟨go88,0,none⟩) x7_3.length co74) y222:=(by rw [hw,Ny222.out];exact HP89.1);clear HP89;have n0_:=Aside0.mk (hp_);have n1_:=Aside0.mk (blk_grown (g:=gb184) (o:=.cells #[.slice A0_0 l0_0.length c0_0] 28 (0,0)) (by (with_reducible repeat (first | refine blk_drewN ?_ _ | refine blk_drew ?_ | refine blk_alloc ?_ _));exact BK184.out) hg (Kd.S_ne HO_7.out BK184.out (by decide)));have n2_:=Aside0.mk (Kd.R_after (v:=(.slice (some ⟨go88,0,none⟩) x7_3.length co74)) (v1:=(.slice (some ⟨go88,0,none⟩) x7_3.length co74)) (ok:=(fun _ => True)) (by (with_reducible repeat (first | apply Kd.R_alloc | apply Kd.R_drewN | apply Kd.R_drew));exact HL221_1.out) hg (.inl rfl));have n3_:=Aside0.mk ((by rw [hw];exact below_set (HB.out) GB88.out : Below w.heap.size w w90));clear HO_7;clear BK184;clear HL221_1;clear HB;have HO_7:=n0_;have BK184:=n1_;have HL221_1:=n2_;have HB:=n3_;clear n0_ n1_ n2_ n3_;clear hg hw hp_))
                  repeat (go_quiet (first | ((with_reducible refine gate_store (t:=3) (p:=171) rfl ?_);(try (rw [drewN_self wc];generalize hq_ : World.drewN wc _ = wc;have n0_:=Aside0.mk (Kd.S_at hq_ HO_7.out);have n1_:=Aside0.mk (Kd.R_at hq_ HL221_1.out);have n2_:=Aside0.mk (blk_at hq_ BK184.out);have n3_:=Aside0.mk (below_at hq_ HB.out);clear hq_ HO_7 HL221_1 BK184 HB;have HO_7:=n0_;have HL221_1:=n1_;have BK184:=n2_;have HB:=n3_;clear n0_ n1_ n2_ n3_;(try (have HX89:=Aside0.mk (show Kd.S k58 58 wc w.heap.size (fun k_ => ((fun _ => True)) k_ ∧ ¬ ((fun _ => False)) k_) (.slice (some ⟨go88,0,none⟩) x7_3.length co74) x7_3 from (by (with_reducible repeat (first | apply Kd.S_alloc | apply Kd.S_drewN | apply Kd.S_drew));exact Kd.S_mono HO_7.out (fun k_ hk => ⟨trivial,fun e_ => e_⟩)))));(try (obtain ⟨oki89,ce89,hcl89,hM89,hcc89,hfr89,hoki89,hH89⟩:=Kd.S_elem HX89.out z58 (x120_2 : Int) (of_decide_eq_true (by first | (with_reducible assumption) | assumption)) (by have h_ : (x120_2 : Int) < ((x7_3.length : Int) : Int):=of_decide_eq_true (by first | (with_reducible assumption) | assumption);first | exact h_ | (have e_:=(Kd.S_reads' HO_7.out).1;omega) | simpa using h_)));(try (obtain ⟨ve89_1,rfl,ge89_1⟩:=k58_openM hM89));(try (have HP89:=Kd.S_seg hH89 (of_decide_eq_true (by first | (with_reducible assumption) | assumption)) (by have h_ : (x120_2 : Int) < ((x7_3.length : Int) : Int):=of_decide_eq_true (by first | (with_reducible assumption) | assumption);first | exact h_ | (have e_:=(Kd.S_reads' HO_7.out).1;omega) | simpa using h_) (seg:=[.int .i64 x125_3]) (j:=2) (show 3 ≤ 3 from by decide) (x':=(⟨(rd_T58 x7_3 x120_2).f0,(rd_T58 x7_3 x120_2).f1,x125_3⟩ : S58)) (k58_mkM _ _ _ (⟨(rd_T58 x7_3 x120_2).f0,(rd_T58 x7_3 x120_2).f1,x125_3⟩ : S58) (Kd.R_mono ge89_1 (fun _ h_ => Or.inl h_))) (fun _ hk => hk) (fun k_ hk_ => hk_.elim)));(try (have hx89_2:=hcc89 2 _ rfl));(try (try simp only [show (k58).sz = 3 from rfl,Nat.mul_one,Nat.add_zero] at hx89_2));(try (have hf89_2:=hfr89 2));(try (try simp only [show (k58).sz = 3 from rfl,Nat.mul_one,Nat.add_zero] at hf89_2));(try (clear hcl89 hcc89 hfr89;(try clear hM89);clear hoki89 hH89))));refine store_event (t:=3) (p:=171) (v:=?vo_w90) (w1:=(wc.setCell ⟨go88,(x120_2 : Int).toNat * 3 + 2,none⟩ (.int .i64 x125_3))) ?hg ?ho ?hn ?hr ?_;(case ho => rfl);(case hg => rfl);(case hn => rfl);(case hr => first | (go_simp;done) | (go_simp;rfl));intro w90 hw;have hg : wc.grownBy w90 (some go88):=(by rw [hw];exact HP89.2);have hp_ : Kd.S k58 58 w90 w.heap.size (fun _ => True) (.slice (some ⟨go88,0,none⟩) x7_3.length co74) y222:=(by rw [hw,Ny222.out];exact HP89.1);clear HP89;have n0_:=Aside0.mk (hp_);have n1_:=Aside0.mk (blk_grown (g:=gb184) (o:=.cells #[.slice A0_0 l0_0.length c0_0] 28 (0,0)) (by (with_reducible repeat (first | refine blk_drewN ?_ _ | refine blk_drew ?_ | refine blk_alloc ?_ _));exact BK184.out) hg (Kd.S_ne HO_7.out BK184.out (by decide)));have n2_:=Aside0.mk (Kd.R_after (v:=(.slice (some ⟨go88,0,none⟩) x7_3.length co74)) (v1:=(.slice (some ⟨go88,0,none⟩) x7_3.length co74)) (ok:=(fun _ => True)) (by (with_reducible repeat (first | apply Kd.R_alloc | apply Kd.R_drewN | apply Kd.R_drew));exact HL221_1.out) hg (.inl rfl));have n3_:=Aside0.mk ((by rw [hw];exact below_set (HB.out) GB88.out : Below w.heap.size w w90));clear HO_7;clear BK184;clear HL221_1;clear HB;have HO_7:=n0_;have BK184:=n1_;have HL221_1:=n2_;have HB:=n3_;clear n0_ n1_ n2_ n3_;clear hg hw hp_));try go_wp2_with (first | ((with_reducible refine gate_store (t:=3) (p:=171) rfl ?_);(try (rw [drewN_self wc];generalize hq_ : World.drewN wc _ = wc;have n0_:=Aside0.mk (Kd.S_at hq_ HO_7.out);have n1_:=Aside0.mk (Kd.R_at hq_ HL221_1.out);have n2_:=Aside0.mk (blk_at hq_ BK184.out);have n3_:=Aside0.mk (below_at hq_ HB.out);clear hq_ HO_7 HL221_1 BK184 HB;have HO_7:=n0_;have HL221_1:=n1_;have BK184:=n2_;have HB:=n3_;clear n0_ n1_ n2_ n3_;(try (have HX89:=Aside0.mk (show Kd.S k58 58 wc w.heap.size (fun k_ => ((fun _ => True)) k_ ∧ ¬ ((fun _ => False)) k_) (.slice (some ⟨go88,0,none⟩) x7_3.length co74) x7_3 from (by (with_reducible repeat (first | apply Kd.S_alloc | apply Kd.S_drewN | apply Kd.S_drew));exact Kd.S_mono HO_7.out (fun k_ hk => ⟨trivial,fun e_ => e_⟩)))));(try (obtain ⟨oki89,ce89,hcl89,hM89,hcc89,hfr89,hoki89,hH89⟩:=Kd.S_elem HX89.out z58 (x120_2 : Int) (of_decide_eq_true (by first | (with_reducible assumption) | assumption)) (by have h_ : (x120_2 : Int) < ((x7_3.length : Int) : Int):=of_decide_eq_true (by first | (with_reducible assumption) | assumption);first | exact h_ | (have e_:=(Kd.S_reads' HO_7.out).1;omega) | simpa using h_)));(try (obtain ⟨ve89_1,rfl,ge89_1⟩:=k58_openM hM89));(try (have HP89:=Kd.S_seg hH89 (of_decide_eq_true (by first | (with_reducible assumption) | assumption)) (by have h_ : (x120_2 : Int) < ((x7_3.length : Int) : Int):=of_decide_eq_true (by first | (with_reducible assumption) | assumption);first | exact h_ | (have e_:=(Kd.S_reads' HO_7.out).1;omega) | simpa using h_) (seg:=[.int .i64 x125_3]) (j:=2) (show 3 ≤ 3 from by decide) (x':=(⟨(rd_T58 x7_3 x120_2).f0,(rd_T58 x7_3 x120_2).f1,x125_3⟩ : S58)) (k58_mkM _ _ _ (⟨(rd_T58 x7_3 x120_2).f0,(rd_T58 x7_3 x120_2).f1,x125_3⟩ : S58) (Kd.R_mono ge89_1 (fun _ h_ => Or.inl h_))) (fun _ hk => hk) (fun k_ hk_ => hk_.elim)));(try (have hx89_2:=hcc89 2 _ rfl));(try (try simp only [show (k58).sz = 3 from rfl,Nat.mul_one,Nat.add_zero] at hx89_2));(try (have hf89_2:=hfr89 2));(try (try simp only [show (k58).sz = 3 from rfl,Nat.mul_one,Nat.add_zero] at hf89_2));(try (clear hcl89 hcc89 hfr89;(try clear hM89);clear hoki89 hH89))));refine store_event (t:=3) (p:=171) (v:=?vo_w90) (w1:=(wc.setCell ⟨go88,(x120_2 : Int).toNat * 3 + 2,none⟩ (.int .i64 x125_3))) ?hg ?ho ?hn ?hr ?_;(case ho => rfl);(case hg => rfl);(case hn => rfl);(case hr => first | (go_simp;done) | (go_simp;rfl));intro w90 hw;have hg : wc.grownBy w90 (some go88):=(by rw [hw];exact HP89.2);have hp_ : Kd.S k58 58 w90 w.heap.size (fun _ => True) (.slice (some ⟨go88,0,none⟩) x7_3.length co74) y222:=(by rw [hw,Ny222.out];exact HP89.1);clear HP89;have n0_:=Aside0.mk (hp_);have n1_:=Aside0.mk (blk_grown (g:=gb184) (o:=.cells #[.slice A0_0 l0_0.length c0_0] 28 (0,0)) (by (with_reducible repeat (first | refine blk_drewN ?_ _ | refine blk_drew ?_ | refine blk_alloc ?_ _));exact BK184.out) hg (Kd.S_ne HO_7.out BK184.out (by decide)));have n2_:=Aside0.mk (Kd.R_after (v:=(.slice (some ⟨go88,0,none⟩) x7_3.length co74)) (v1:=(.slice (some ⟨go88,0,none⟩) x7_3.length co74)) (ok:=(fun _ => True)) (by (with_reducible repeat (first | apply Kd.R_alloc | apply Kd.R_drewN | apply Kd.R_drew));exact HL221_1.out) hg (.inl rfl));have n3_:=Aside0.mk ((by rw [hw];exact below_set (HB.out) GB88.out : Below w.heap.size w w90));clear HO_7;clear BK184;clear HL221_1;clear HB;have HO_7:=n0_;have BK184:=n1_;have HL221_1:=n2_;have HB:=n3_;clear n0_ n1_ n2_ n3_;clear hg hw hp_)))
                  (try simp only [← hl7_3])
                  go_roundg kj76
                  case measure => have:=HK1.out;have:=HK2.out;have:=HK3.out;have:=HJ76.out;omega
                  case rel => exact ⟨(y222),(wrap64 (x125_3 + 1)),(by first | rfl | (simp;done) | (simp [*];done)),H',⟨by have:=HK1.out;have:=HK2.out;have:=HK3.out;have:=HJ76.out;omega⟩,⟨by (try simp only [hl7_2]);(try simp only [hl7_3]);(with_reducible repeat (first | apply Kd.S_alloc | apply Kd.S_drewN | apply Kd.S_drew));exact HO_7.out⟩,⟨by (try simp only [hl7_2]);(try simp only [hl7_3]);(with_reducible repeat (first | refine blk_drewN ?_ _ | refine blk_drew ?_ | refine blk_alloc ?_ _));exact BK184.out⟩,⟨by repeat (first | (with_reducible first | exact HB.out | apply below_alloc | apply pw_below_drewN | apply below_drew1 | refine below_set ?_ GE184.out) | exact HB.out)⟩⟩
                 ·rw [if_neg c87] at H
                  have c87b0 : decide (((rd_T58 x7_3 x120_2).f2) < 0) = false:=decide_eq_false c87
                  clear c87
                  by_cases c91 : 0 ≤ x125_3
                  ·rw [if_pos c91] at H
                   have c91b0 : decide (0 ≤ x125_3) = true:=decide_eq_true c91
                   clear c91
                   by_cases c92 : x125_3 < (x7_3.length : Int)
                   ·rw [if_pos c92] at H
                    have c92b0 : decide (x125_3 < (x7_3.length : Int)) = true:=decide_eq_true c92
                    (try (have c92b0_h:=c92b0;rw [hl7_3] at c92b0_h))
                    clear c92
                    by_cases c93 : 0 ≤ ((rd_T58 x7_3 x120_2).f2)
                    ·rw [if_pos c93] at H
                     have c93b0 : decide (0 ≤ ((rd_T58 x7_3 x120_2).f2)) = true:=decide_eq_true c93
                     clear c93
                     by_cases c94 : ((rd_T58 x7_3 x120_2).f2) < (x7_3.length : Int)
                     ·rw [if_pos c94] at H
                      have c94b0 : decide (((rd_T58 x7_3 x120_2).f2) < (x7_3.length : Int)) = true:=decide_eq_true c94
                      (try (have c94b0_h:=c94b0;rw [hl7_3] at c94b0_h))
                      clear c94
                      by_cases c95 : (((rd_T58 x7_3 x125_3).f1).length : Int) < (((rd_T58 x7_3 ((rd_T58 x7_3 x120_2).f2)).f1).length : Int)
                      ·rw [if_pos c95] at H
                       have c95b0 : decide ((((rd_T58 x7_3 x125_3).f1).length : Int) < (((rd_T58 x7_3 ((rd_T58 x7_3 x120_2).f2)).f1).length : Int)) = true:=decide_eq_true c95
                       (try (have c95b0_h:=c95b0;rw [hl7_3] at c95b0_h))
                       have c95b1 : decide (((rd_T58 x7_3 x125_3).f1).length < ((rd_T58 x7_3 ((rd_T58 x7_3 x120_2).f2)).f1).length) = true:=decide_eq_true (Int.ofNat_lt.mp c95)
                       (try (have c95b1_h:=c95b1;rw [hl7_3] at c95b1_h))
                       clear c95
                       obtain ⟨y225,hy225⟩ : ∃ y_ : List (S58),y_ = (x7_3.set (x120_2 : Int).toNat (⟨(rd_T58 x7_3 x120_2).f0,(rd_T58 x7_3 x120_2).f1,x125_3⟩ : S58)):=⟨_,rfl⟩
                       replace H : (spec_l8Loops.l7 kj76 y225 x120_2 (x7_1.length : Int) x120_2 (x7_2.length : Int) (wrap64 (x125_3 + 1))) = some (r1,r2):=by first | (rw [hy225];with_reducible exact H) | (have H2_:=(Option.bind_some _ _).symm.trans H;rw [hy225];with_reducible exact H2_) | (have H2_:=(Option.bind_some _ _).symm.trans H;with_reducible exact H2_) | with_reducible exact H | (rw [hy225];exact H) | exact H
                       have Ny225:=Aside0.mk hy225
                       clear hy225
                       have H':=Aside0.mk H
                       clear H
                       have p221 : 0 ≤ (x120_2 : Int):=of_decide_eq_true (by first | (with_reducible assumption) | assumption)
                       have q221 : x120_2 < (x7_3.length : Int):=of_decide_eq_true (by first | (with_reducible assumption) | assumption)
                       obtain ⟨ad221,A221_1,c221_1,e221,hx221_0,hx221_1,hx221_2,hl221_1,hi221_1⟩:=at_T58 (Kd.S_reads' HO_7.out).2.2 x120_2 p221 q221
                       cases e221
                       obtain ⟨ce221,hce221,hMe221,hcc221⟩:=Kd.S_get HO_7.out z58 x120_2 p221 (by first | exact q221 | exact of_decide_eq_true (by first | (with_reducible assumption) | assumption) | (have e_:=(Kd.S_reads' HO_7.out).1;omega))
                       obtain ⟨ve221_1,rfl,ge221_1⟩:=k58_openM hMe221
                       have hv221_1:=hcc221 1 _ rfl
                       rw [add_field _ _ 1 (by omega)] at hv221_1
                       replace hv221_1:=Option.some.inj (hv221_1.symm.trans hx221_1)
                       rw [hv221_1] at ge221_1
                       have HL221_1:=Aside0.mk (show Kd.R (Kd.int .i64) 3 _ _ _ _ ((rd_T58 x7_3 x120_2).f1) from ge221_1)
                       clear hv221_1 ge221_1
                       clear hcc221 hce221
                       have HR221_1:=Aside0.mk hi221_1
                       have HC221_1:=Aside0.mk hl221_1
                       clear hi221_1 hl221_1
                       replace p221:=eq_true p221
                       replace q221:=eq_true q221
                       have p223 : 0 ≤ (x125_3 : Int):=of_decide_eq_true (by first | (with_reducible assumption) | assumption)
                       have q223 : x125_3 < (x7_3.length : Int):=of_decide_eq_true (by first | (with_reducible assumption) | assumption)
                       obtain ⟨ad223,A223_1,c223_1,e223,hx223_0,hx223_1,hx223_2,hl223_1,hi223_1⟩:=at_T58 (Kd.S_reads' HO_7.out).2.2 x125_3 p223 q223
                       obtain rfl : ad221 = ad223:=(by injection e223)
                       obtain ⟨ce223,hce223,hMe223,hcc223⟩:=Kd.S_get HO_7.out z58 x125_3 p223 (by first | exact q223 | exact of_decide_eq_true (by first | (with_reducible assumption) | assumption) | (have e_:=(Kd.S_reads' HO_7.out).1;omega))
                       obtain ⟨ve223_1,rfl,ge223_1⟩:=k58_openM hMe223
                       have hv223_1:=hcc223 1 _ rfl
                       rw [add_field _ _ 1 (by omega)] at hv223_1
                       replace hv223_1:=Option.some.inj (hv223_1.symm.trans hx223_1)
                       rw [hv223_1] at ge223_1
                       have HL223_1:=Aside0.mk (show Kd.R (Kd.int .i64) 3 _ _ _ _ ((rd_T58 x7_3 x125_3).f1) from ge223_1)
                       clear hv223_1 ge223_1
                       clear hcc223 hce223
                       have HR223_1:=Aside0.mk hi223_1
                       have HC223_1:=Aside0.mk hl223_1
                       clear hi223_1 hl223_1
                       replace p223:=eq_true p223
                       replace q223:=eq_true q223
                       have p224 : 0 ≤ (((rd_T58 x7_3 x120_2).f2) : Int):=of_decide_eq_true (by first | (with_reducible assumption) | assumption)
                       have q224 : ((rd_T58 x7_3 x120_2).f2) < (x7_3.length : Int):=of_decide_eq_true (by first | (with_reducible assumption) | assumption)
                       obtain ⟨ad224,A224_1,c224_1,e224,hx224_0,hx224_1,hx224_2,hl224_1,hi224_1⟩:=at_T58 (Kd.S_reads' HO_7.out).2.2 ((rd_T58 x7_3 x120_2).f2) p224 q224
                       obtain rfl : ad221 = ad224:=(by injection e224)
                       obtain ⟨ce224,hce224,hMe224,hcc224⟩:=Kd.S_get HO_7.out z58 ((rd_T58 x7_3 x120_2).f2) p224 (by first | exact q224 | exact of_decide_eq_true (by first | (with_reducible assumption) | assumption) | (have e_:=(Kd.S_reads' HO_7.out).1;omega))
                       obtain ⟨ve224_1,rfl,ge224_1⟩:=k58_openM hMe224
                       have hv224_1:=hcc224 1 _ rfl
                       rw [add_field _ _ 1 (by omega)] at hv224_1
                       replace hv224_1:=Option.some.inj (hv224_1.symm.trans hx224_1)
                       rw [hv224_1] at ge224_1
                       have HL224_1:=Aside0.mk (show Kd.R (Kd.int .i64) 3 _ _ _ _ ((rd_T58 x7_3 ((rd_T58 x7_3 x120_2).f2)).f1) from ge224_1)
                       clear hv224_1 ge224_1
                       clear hcc224 hce224
                       have HR224_1:=Aside0.mk hi224_1
                       have HC224_1:=Aside0.mk hl224_1
                       clear hi224_1 hl224_1
                       replace p224:=eq_true p224
                       replace q224:=eq_true q224
                       have p96 : 0 ≤ (x120_2 : Int):=of_decide_eq_true (by first | (with_reducible assumption) | assumption)
                       have q96 : (x120_2 : Int) < ((x7_3.length : Int) : Int):=of_decide_eq_true (by first | (with_reducible assumption) | assumption)
                       obtain ⟨go96,co96,eo96,gb96,gl96,cl96,HG96⟩:=Kd.S_form HO_7.out (by omega)
                       (first | cases eo96 | (injection eo96 with ea_ en_ ec_;(first | subst ea_ | (injection ea_ with ea_;subst ea_));subst ec_;clear en_))
                       have GB96:=Aside0.mk gb96
                       have GG96:=Aside0.mk HG96
                       clear gb96 gl96 HG96
                       (first | simp only [add_plain] at hx221_0 | skip)
                       (first | simp only [add_plain] at hx221_1 | skip)
                       (first | simp only [add_plain] at hx221_2 | skip)
                       (first | simp only [add_plain] at hx223_0 | skip)
                       (first | simp only [add_plain] at hx223_1 | skip)
                       (first | simp only [add_plain] at hx223_2 | skip)
                       (first | simp only [add_plain] at hx224_0 | skip)
                       (first | simp only [add_plain] at hx224_1 | skip)
                       (first | simp only [add_plain] at hx224_2 | skip)
                       obtain ⟨_,ce96,hcl96,hM96,hcc96,hfr96,_,_⟩:=Kd.S_elem HO_7.out z58 (x120_2 : Int) p96 q96
                       obtain ⟨ve96_1,rfl,ge96_1⟩:=k58_openM hM96
                       have hx96_0 : wc.cell? ⟨go96,(x120_2 : Int).toNat * 3,none⟩ = some (.int .i64 ((rd_T58 x7_3 x120_2).f0)):=hcc96 0 _ rfl
                       have hx96_1 : wc.cell? ⟨go96,(x120_2 : Int).toNat * 3 + 1,none⟩ = some (ve96_1):=hcc96 1 _ rfl
                       have hx96_2 : wc.cell? ⟨go96,(x120_2 : Int).toNat * 3 + 2,none⟩ = some (.int .i64 ((rd_T58 x7_3 x120_2).f2)):=hcc96 2 _ rfl
                       have hf96_0 : wc.frozen? ⟨go96,(x120_2 : Int).toNat * 3,none⟩ = false:=hfr96 0
                       have hf96_1 : wc.frozen? ⟨go96,(x120_2 : Int).toNat * 3 + 1,none⟩ = false:=hfr96 1
                       have hf96_2 : wc.frozen? ⟨go96,(x120_2 : Int).toNat * 3 + 2,none⟩ = false:=hfr96 2
                       clear hcl96 hcc96 hfr96;(try clear hM96)
                       replace p96:=eq_true p96
                       replace q96:=eq_true q96
                       have HX97:=Aside0.mk (show Kd.S k58 58 wc w.heap.size (fun k_ => ((fun _ => True)) k_ ∧ ¬ ((fun _ => False)) k_) (.slice (some ⟨go96,0,none⟩) x7_3.length co74) x7_3 from (by (with_reducible repeat (first | apply Kd.S_alloc | apply Kd.S_drewN | apply Kd.S_drew));exact Kd.S_mono HO_7.out (fun k_ hk => ⟨trivial,fun e_ => e_⟩)))
                       obtain ⟨oki97,ce97,hcl97,hM97,hcc97,hfr97,hoki97,hH97⟩:=Kd.S_elem HX97.out z58 (x120_2 : Int) (of_decide_eq_true (by first | (with_reducible assumption) | assumption)) (by have h_ : (x120_2 : Int) < ((x7_3.length : Int) : Int):=of_decide_eq_true (by first | (with_reducible assumption) | assumption);first | exact h_ | (have e_:=(Kd.S_reads' HO_7.out).1;omega) | simpa using h_)
                       obtain ⟨ve97_1,rfl,ge97_1⟩:=k58_openM hM97
                       have HP97:=Kd.S_seg hH97 (of_decide_eq_true (by first | (with_reducible assumption) | assumption)) (by have h_ : (x120_2 : Int) < ((x7_3.length : Int) : Int):=of_decide_eq_true (by first | (with_reducible assumption) | assumption);first | exact h_ | (have e_:=(Kd.S_reads' HO_7.out).1;omega) | simpa using h_) (seg:=[.int .i64 x125_3]) (j:=2) (show 3 ≤ 3 from by decide) (x':=(⟨(rd_T58 x7_3 x120_2).f0,(rd_T58 x7_3 x120_2).f1,x125_3⟩ : S58)) (k58_mkM _ _ _ (⟨(rd_T58 x7_3 x120_2).f0,(rd_T58 x7_3 x120_2).f1,x125_3⟩ : S58) (Kd.R_mono ge97_1 (fun _ h_ => Or.inl h_))) (fun _ hk => hk) (fun k_ hk_ => hk_.elim)
                       have hx97_2:=hcc97 2 _ rfl
                       (try simp only [show (k58).sz = 3 from rfl,Nat.mul_one,Nat.add_zero] at hx97_2)
                       have hf97_2:=hfr97 2
                       (try simp only [show (k58).sz = 3 from rfl,Nat.mul_one,Nat.add_zero] at hf97_2)
                       clear hcl97 hcc97 hfr97;(try clear hM97);clear hoki97 hH97
                       go_wp2_with (first | ((with_reducible refine gate_store (t:=3) (p:=171) rfl ?_);(try (rw [drewN_self wc];generalize hq_ : World.drewN wc _ = wc;have n0_:=Aside0.mk (Kd.S_at hq_ HO_7.out);have n1_:=Aside0.mk (Kd.R_at hq_ HL221_1.out);have n2_:=Aside0.mk (Kd.R_at hq_ HL223_1.out);have n3_:=Aside0.mk (Kd.R_at hq_ HL224_1.out);have n4_:=Aside0.mk (blk_at hq_ BK184.out);have n5_:=Aside0.mk (below_at hq_ HB.out);clear hq_ HO_7 HL221_1 HL223_1 HL224_1 BK184 HB;have HO_7:=n0_;have HL221_1:=n1_;have HL223_1:=n2_;have HL224_1:=n3_;have BK184:=n4_;have HB:=n5_;clear n0_ n1_ n2_ n3_ n4_ n5_;(try (have HX97:=Aside0.mk (show Kd.S k58 58 wc w.heap.size (fun k_ => ((fun _ => True)) k_ ∧ ¬ ((fun _ => False)) k_) (.slice (some ⟨go96,0,none⟩) x7_3.length co74) x7_3 from (by (with_reducible repeat (first | apply Kd.S_alloc | apply Kd.S_drewN | apply Kd.S_drew));exact Kd.S_mono HO_7.out (fun k_ hk => ⟨trivial,fun e_ => e_⟩)))));(try (obtain ⟨oki97,ce97,hcl97,hM97,hcc97,hfr97,hoki97,hH97⟩:=Kd.S_elem HX97.out z58 (x120_2 : Int) (of_decide_eq_true (by first | (with_reducible assumption) | assumption)) (by have h_ : (x120_2 : Int) < ((x7_3.length : Int) : Int):=of_decide_eq_true (by first | (with_reducible assumption) | assumption);first | exact h_ | (have e_:=(Kd.S_reads' HO_7.out).1;omega) | simpa using h_)));(try (obtain ⟨ve97_1,rfl,ge97_1⟩:=k58_openM hM97));(try (have HP97:=Kd.S_seg hH97 (of_decide_eq_true (by first | (with_reducible assumption) | assumption)) (by have h_ : (x120_2 : Int) < ((x7_3.length : Int) : Int):=of_decide_eq_true (by first | (with_reducible assumption) | assumption);first | exact h_ | (have e_:=(Kd.S_reads' HO_7.out).1;omega) | simpa using h_) (seg:=[.int .i64 x125_3]) (j:=2) (show 3 ≤ 3 from by decide) (x':=(⟨(rd_T58 x7_3 x120_2).f0,(rd_T58 x7_3 x120_2).f1,x125_3⟩ : S58)) (k58_mkM _ _ _ (⟨(rd_T58 x7_3 x120_2).f0,(rd_T58 x7_3 x120_2).f1,x125_3⟩ : S58) (Kd.R_mono ge97_1 (fun _ h_ => Or.inl h_))) (fun _ hk => hk) (fun k_ hk_ => hk_.elim)));(try (have hx97_2:=hcc97 2 _ rfl));(try (try simp only [show (k58).sz = 3 from rfl,Nat.mul_one,Nat.add_zero] at hx97_2));(try (have hf97_2:=hfr97 2));(try (try simp only [show (k58).sz = 3 from rfl,Nat.mul_one,Nat.add_zero] at hf97_2));(try (clear hcl97 hcc97 hfr97;(try clear hM97);clear hoki97 hH97))));refine store_event (t:=3) (p:=171) (v:=?vo_w98) (w1:=(wc.setCell ⟨go96,(x120_2 : Int).toNat * 3 + 2,none⟩ (.int .i64 x125_3))) ?hg ?ho ?hn ?hr ?_;(case ho => rfl);(case hg => rfl);(case hn => rfl);(case hr => first | (go_simp;done) | (go_simp;rfl));intro w98 hw;have hg : wc.grownBy w98 (some go96):=(by rw [hw];exact HP97.2);have hp_ : Kd.S k58 58 w98 w.heap.size (fun _ => True) (.slice (some ⟨go96,0,none⟩) x7_3.length co74) y225:=(by rw [hw,Ny225.out];exact HP97.1);clear HP97;have n0_:=Aside0.mk (hp_);have n1_:=Aside0.mk (blk_grown (g:=gb184) (o:=.cells #[.slice A0_0 l0_0.length c0_0] 28 (0,0)) (by (with_reducible repeat (first | refine blk_drewN ?_ _ | refine blk_drew ?_ | refine blk_alloc ?_ _));exact BK184.out) hg (Kd.S_ne HO_7.out BK184.out (by decide)));have n2_:=Aside0.mk (Kd.R_after (v:=(.slice (some ⟨go96,0,none⟩) x7_3.length co74)) (v1:=(.slice (some ⟨go96,0,none⟩) x7_3.length co74)) (ok:=(fun _ => True)) (by (with_reducible repeat (first | apply Kd.R_alloc | apply Kd.R_drewN | apply Kd.R_drew));exact HL221_1.out) hg (.inl rfl));have n3_:=Aside0.mk (Kd.R_after (v:=(.slice (some ⟨go96,0,none⟩) x7_3.length co74)) (v1:=(.slice (some ⟨go96,0,none⟩) x7_3.length co74)) (ok:=(fun _ => True)) (by (with_reducible repeat (first | apply Kd.R_alloc | apply Kd.R_drewN | apply Kd.R_drew));exact HL223_1.out) hg (.inl rfl));have n4_:=Aside0.mk (Kd.R_after (v:=(.slice (some ⟨go96,0,none⟩) x7_3.length co74)) (v1:=(.slice (some ⟨go96,0,none⟩) x7_3.length co74)) (ok:=(fun _ => True)) (by (with_reducible repeat (first | apply Kd.R_alloc | apply Kd.R_drewN | apply Kd.R_drew));exact HL224_1.out) hg (.inl rfl));have n5_:=Aside0.mk ((by rw [hw];exact below_set (HB.out) GB96.out : Below w.heap.size w w98));clear HO_7;clear BK184;clear HL221_1;clear HL223_1;clear HL224_1;clear HB;have HO_7:=n0_;have BK184:=n1_;have HL221_1:=n2_;have HL223_1:=n3_;have HL224_1:=n4_;have HB:=n5_;clear n0_ n1_ n2_ n3_ n4_ n5_;clear hg hw hp_))
                       repeat (go_quiet (first | ((with_reducible refine gate_store (t:=3) (p:=171) rfl ?_);(try (rw [drewN_self wc];generalize hq_ : World.drewN wc _ = wc;have n0_:=Aside0.mk (Kd.S_at hq_ HO_7.out);have n1_:=Aside0.mk (Kd.R_at hq_ HL221_1.out);have n2_:=Aside0.mk (Kd.R_at hq_ HL223_1.out);have n3_:=Aside0.mk (Kd.R_at hq_ HL224_1.out);have n4_:=Aside0.mk (blk_at hq_ BK184.out);have n5_:=Aside0.mk (below_at hq_ HB.out);clear hq_ HO_7 HL221_1 HL223_1 HL224_1 BK184 HB;have HO_7:=n0_;have HL221_1:=n1_;have HL223_1:=n2_;have HL224_1:=n3_;have BK184:=n4_;have HB:=n5_;clear n0_ n1_ n2_ n3_ n4_ n5_;(try (have HX97:=Aside0.mk (show Kd.S k58 58 wc w.heap.size (fun k_ => ((fun _ => True)) k_ ∧ ¬ ((fun _ => False)) k_) (.slice (some ⟨go96,0,none⟩) x7_3.length co74) x7_3 from (by (with_reducible repeat (first | apply Kd.S_alloc | apply Kd.S_drewN | apply Kd.S_drew));exact Kd.S_mono HO_7.out (fun k_ hk => ⟨trivial,fun e_ => e_⟩)))));(try (obtain ⟨oki97,ce97,hcl97,hM97,hcc97,hfr97,hoki97,hH97⟩:=Kd.S_elem HX97.out z58 (x120_2 : Int) (of_decide_eq_true (by first | (with_reducible assumption) | assumption)) (by have h_ : (x120_2 : Int) < ((x7_3.length : Int) : Int):=of_decide_eq_true (by first | (with_reducible assumption) | assumption);first | exact h_ | (have e_:=(Kd.S_reads' HO_7.out).1;omega) | simpa using h_)));(try (obtain ⟨ve97_1,rfl,ge97_1⟩:=k58_openM hM97));(try (have HP97:=Kd.S_seg hH97 (of_decide_eq_true (by first | (with_reducible assumption) | assumption)) (by have h_ : (x120_2 : Int) < ((x7_3.length : Int) : Int):=of_decide_eq_true (by first | (with_reducible assumption) | assumption);first | exact h_ | (have e_:=(Kd.S_reads' HO_7.out).1;omega) | simpa using h_) (seg:=[.int .i64 x125_3]) (j:=2) (show 3 ≤ 3 from by decide) (x':=(⟨(rd_T58 x7_3 x120_2).f0,(rd_T58 x7_3 x120_2).f1,x125_3⟩ : S58)) (k58_mkM _ _ _ (⟨(rd_T58 x7_3 x120_2).f0,(rd_T58 x7_3 x120_2).f1,x125_3⟩ : S58) (Kd.R_mono ge97_1 (fun _ h_ => Or.inl h_))) (fun _ hk => hk) (fun k_ hk_ => hk_.elim)));(try (have hx97_2:=hcc97 2 _ rfl));(try (try simp only [show (k58).sz = 3 from rfl,Nat.mul_one,Nat.add_zero] at hx97_2));(try (have hf97_2:=hfr97 2));(try (try simp only [show (k58).sz = 3 from rfl,Nat.mul_one,Nat.add_zero] at hf97_2));(try (clear hcl97 hcc97 hfr97;(try clear hM97);clear hoki97 hH97))));refine store_event (t:=3) (p:=171) (v:=?vo_w98) (w1:=(wc.setCell ⟨go96,(x120_2 : Int).toNat * 3 + 2,none⟩ (.int .i64 x125_3))) ?hg ?ho ?hn ?hr ?_;(case ho => rfl);(case hg => rfl);(case hn => rfl);(case hr => first | (go_simp;done) | (go_simp;rfl));intro w98 hw;have hg : wc.grownBy w98 (some go96):=(by rw [hw];exact HP97.2);have hp_ : Kd.S k58 58 w98 w.heap.size (fun _ => True) (.slice (some ⟨go96,0,none⟩) x7_3.length co74) y225:=(by rw [hw,Ny225.out];exact HP97.1);clear HP97;have n0_:=Aside0.mk (hp_);have n1_:=Aside0.mk (blk_grown (g:=gb184) (o:=.cells #[.slice A0_0 l0_0.length c0_0] 28 (0,0)) (by (with_reducible repeat (first | refine blk_drewN ?_ _ | refine blk_drew ?_ | refine blk_alloc ?_ _));exact BK184.out) hg (Kd.S_ne HO_7.out BK184.out (by decide)));have n2_:=Aside0.mk (Kd.R_after (v:=(.slice (some ⟨go96,0,none⟩) x7_3.length co74)) (v1:=(.slice (some ⟨go96,0,none⟩) x7_3.length co74)) (ok:=(fun _ => True)) (by (with_reducible repeat (first | apply Kd.R_alloc | apply Kd.R_drewN | apply Kd.R_drew));exact HL221_1.out) hg (.inl rfl));have n3_:=Aside0.mk (Kd.R_after (v:=(.slice (some ⟨go96,0,none⟩) x7_3.length co74)) (v1:=(.slice (some ⟨go96,0,none⟩) x7_3.length co74)) (ok:=(fun _ => True)) (by (with_reducible repeat (first | apply Kd.R_alloc | apply Kd.R_drewN | apply Kd.R_drew));exact HL223_1.out) hg (.inl rfl));have n4_:=Aside0.mk (Kd.R_after (v:=(.slice (some ⟨go96,0,none⟩) x7_3.length co74)) (v1:=(.slice (some ⟨go96,0,none⟩) x7_3.length co74)) (ok:=(fun _ => True)) (by (with_reducible repeat (first | apply Kd.R_alloc | apply Kd.R_drewN | apply Kd.R_drew));exact HL224_1.out) hg (.inl rfl));have n5_:=Aside0.mk ((by rw [hw];exact below_set (HB.out) GB96.out : Below w.heap.size w w98));clear HO_7;clear BK184;clear HL221_1;clear HL223_1;clear HL224_1;clear HB;have HO_7:=n0_;have BK184:=n1_;have HL221_1:=n2_;have HL223_1:=n3_;have HL224_1:=n4_;have HB:=n5_;clear n0_ n1_ n2_ n3_ n4_ n5_;clear hg hw hp_));try go_wp2_with (first | ((with_reducible refine gate_store (t:=3) (p:=171) rfl ?_);(try (rw [drewN_self wc];generalize hq_ : World.drewN wc _ = wc;have n0_:=Aside0.mk (Kd.S_at hq_ HO_7.out);have n1_:=Aside0.mk (Kd.R_at hq_ HL221_1.out);have n2_:=Aside0.mk (Kd.R_at hq_ HL223_1.out);have n3_:=Aside0.mk (Kd.R_at hq_ HL224_1.out);have n4_:=Aside0.mk (blk_at hq_ BK184.out);have n5_:=Aside0.mk (below_at hq_ HB.out);clear hq_ HO_7 HL221_1 HL223_1 HL224_1 BK184 HB;have HO_7:=n0_;have HL221_1:=n1_;have HL223_1:=n2_;have HL224_1:=n3_;have BK184:=n4_;have HB:=n5_;clear n0_ n1_ n2_ n3_ n4_ n5_;(try (have HX97:=Aside0.mk (show Kd.S k58 58 wc w.heap.size (fun k_ => ((fun _ => True)) k_ ∧ ¬ ((fun _ => False)) k_) (.slice (some ⟨go96,0,none⟩) x7_3.length co74) x7_3 from (by (with_reducible repeat (first | apply Kd.S_alloc | apply Kd.S_drewN | apply Kd.S_drew));exact Kd.S_mono HO_7.out (fun k_ hk => ⟨trivial,fun e_ => e_⟩)))));(try (obtain ⟨oki97,ce97,hcl97,hM97,hcc97,hfr97,hoki97,hH97⟩:=Kd.S_elem HX97.out z58 (x120_2 : Int) (of_decide_eq_true (by first | (with_reducible assumption) | assumption)) (by have h_ : (x120_2 : Int) < ((x7_3.length : Int) : Int):=of_decide_eq_true (by first | (with_reducible assumption) | assumption);first | exact h_ | (have e_:=(Kd.S_reads' HO_7.out).1;omega) | simpa using h_)));(try (obtain ⟨ve97_1,rfl,ge97_1⟩:=k58_openM hM97));(try (have HP97:=Kd.S_seg hH97 (of_decide_eq_true (by first | (with_reducible assumption) | assumption)) (by have h_ : (x120_2 : Int) < ((x7_3.length : Int) : Int):=of_decide_eq_true (by first | (with_reducible assumption) | assumption);first | exact h_ | (have e_:=(Kd.S_reads' HO_7.out).1;omega) | simpa using h_) (seg:=[.int .i64 x125_3]) (j:=2) (show 3 ≤ 3 from by decide) (x':=(⟨(rd_T58 x7_3 x120_2).f0,(rd_T58 x7_3 x120_2).f1,x125_3⟩ : S58)) (k58_mkM _ _ _ (⟨(rd_T58 x7_3 x120_2).f0,(rd_T58 x7_3 x120_2).f1,x125_3⟩ : S58) (Kd.R_mono ge97_1 (fun _ h_ => Or.inl h_))) (fun _ hk => hk) (fun k_ hk_ => hk_.elim)));(try (have hx97_2:=hcc97 2 _ rfl));(try (try simp only [show (k58).sz = 3 from rfl,Nat.mul_one,Nat.add_zero] at hx97_2));(try (have hf97_2:=hfr97 2));(try (try simp only [show (k58).sz = 3 from rfl,Nat.mul_one,Nat.add_zero] at hf97_2));(try (clear hcl97 hcc97 hfr97;(try clear hM97);clear hoki97 hH97))));refine store_event (t:=3) (p:=171) (v:=?vo_w98) (w1:=(wc.setCell ⟨go96,(x120_2 : Int).toNat * 3 + 2,none⟩ (.int .i64 x125_3))) ?hg ?ho ?hn ?hr ?_;(case ho => rfl);(case hg => rfl);(case hn => rfl);(case hr => first | (go_simp;done) | (go_simp;rfl));intro w98 hw;have hg : wc.grownBy w98 (some go96):=(by rw [hw];exact HP97.2);have hp_ : Kd.S k58 58 w98 w.heap.size (fun _ => True) (.slice (some ⟨go96,0,none⟩) x7_3.length co74) y225:=(by rw [hw,Ny225.out];exact HP97.1);clear HP97;have n0_:=Aside0.mk (hp_);have n1_:=Aside0.mk (blk_grown (g:=gb184) (o:=.cells #[.slice A0_0 l0_0.length c0_0] 28 (0,0)) (by (with_reducible repeat (first | refine blk_drewN ?_ _ | refine blk_drew ?_ | refine blk_alloc ?_ _));exact BK184.out) hg (Kd.S_ne HO_7.out BK184.out (by decide)));have n2_:=Aside0.mk (Kd.R_after (v:=(.slice (some ⟨go96,0,none⟩) x7_3.length co74)) (v1:=(.slice (some ⟨go96,0,none⟩) x7_3.length co74)) (ok:=(fun _ => True)) (by (with_reducible repeat (first | apply Kd.R_alloc | apply Kd.R_drewN | apply Kd.R_drew));exact HL221_1.out) hg (.inl rfl));have n3_:=Aside0.mk (Kd.R_after (v:=(.slice (some ⟨go96,0,none⟩) x7_3.length co74)) (v1:=(.slice (some ⟨go96,0,none⟩) x7_3.length co74)) (ok:=(fun _ => True)) (by (with_reducible repeat (first | apply Kd.R_alloc | apply Kd.R_drewN | apply Kd.R_drew));exact HL223_1.out) hg (.inl rfl));have n4_:=Aside0.mk (Kd.R_after (v:=(.slice (some ⟨go96,0,none⟩) x7_3.length co74)) (v1:=(.slice (some ⟨go96,0,none⟩) x7_3.length co74)) (ok:=(fun _ => True)) (by (with_reducible repeat (first | apply Kd.R_alloc | apply Kd.R_drewN | apply Kd.R_drew));exact HL224_1.out) hg (.inl rfl));have n5_:=Aside0.mk ((by rw [hw];exact below_set (HB.out) GB96.out : Below w.heap.size w w98));clear HO_7;clear BK184;clear HL221_1;clear HL223_1;clear HL224_1;clear HB;have HO_7:=n0_;have BK184:=n1_;have HL221_1:=n2_;have HL223_1:=n3_;have HL224_1:=n4_;have HB:=n5_;clear n0_ n1_ n2_ n3_ n4_ n5_;clear hg hw hp_)))
                       (try simp only [← hl7_3])
                       go_roundg kj76
                       case measure => have:=HK1.out;have:=HK2.out;have:=HK3.out;have:=HJ76.out;omega
                       case rel => exact ⟨(y225),(wrap64 (x125_3 + 1)),(by first | rfl | (simp;done) | (simp [*];done)),H',⟨by have:=HK1.out;have:=HK2.out;have:=HK3.out;have:=HJ76.out;omega⟩,⟨by (try simp only [hl7_2]);(try simp only [hl7_3]);(with_reducible repeat (first | apply Kd.S_alloc | apply Kd.S_drewN | apply Kd.S_drew));exact HO_7.out⟩,⟨by (try simp only [hl7_2]);(try simp only [hl7_3]);(with_reducible repeat (first | refine blk_drewN ?_ _ | refine blk_drew ?_ | refine blk_alloc ?_ _));exact BK184.out⟩,⟨by repeat (first | (with_reducible first | exact HB.out | apply below_alloc | apply pw_below_drewN | apply below_drew1 | refine below_set ?_ GE184.out) | exact HB.out)⟩⟩
                      ·rw [if_neg c95] at H
                       have c95b0 : decide ((((rd_T58 x7_3 x125_3).f1).length : Int) < (((rd_T58 x7_3 ((rd_T58 x7_3 x120_2).f2)).f1).length : Int)) = false:=decide_eq_false c95
                       (try (have c95b0_h:=c95b0;rw [hl7_3] at c95b0_h))
                       have c95b1 : decide (((rd_T58 x7_3 x125_3).f1).length < ((rd_T58 x7_3 ((rd_T58 x7_3 x120_2).f2)).f1).length) = false:=decide_eq_false (fun h => c95 (Int.ofNat_lt.mpr h))
                       (try (have c95b1_h:=c95b1;rw [hl7_3] at c95b1_h))
                       clear c95
                       have H':=Aside0.mk H
                       clear H
                       have p221 : 0 ≤ (x120_2 : Int):=of_decide_eq_true (by first | (with_reducible assumption) | assumption)
                       have q221 : x120_2 < (x7_3.length : Int):=of_decide_eq_true (by first | (with_reducible assumption) | assumption)
                       obtain ⟨ad221,A221_1,c221_1,e221,hx221_0,hx221_1,hx221_2,hl221_1,hi221_1⟩:=at_T58 (Kd.S_reads' HO_7.out).2.2 x120_2 p221 q221
                       cases e221
                       obtain ⟨ce221,hce221,hMe221,hcc221⟩:=Kd.S_get HO_7.out z58 x120_2 p221 (by first | exact q221 | exact of_decide_eq_true (by first | (with_reducible assumption) | assumption) | (have e_:=(Kd.S_reads' HO_7.out).1;omega))
                       obtain ⟨ve221_1,rfl,ge221_1⟩:=k58_openM hMe221
                       have hv221_1:=hcc221 1 _ rfl
                       rw [add_field _ _ 1 (by omega)] at hv221_1
                       replace hv221_1:=Option.some.inj (hv221_1.symm.trans hx221_1)
                       rw [hv221_1] at ge221_1
                       have HL221_1:=Aside0.mk (show Kd.R (Kd.int .i64) 3 _ _ _ _ ((rd_T58 x7_3 x120_2).f1) from ge221_1)
                       clear hv221_1 ge221_1
                       clear hcc221 hce221
                       have HR221_1:=Aside0.mk hi221_1
                       have HC221_1:=Aside0.mk hl221_1
                       clear hi221_1 hl221_1
                       replace p221:=eq_true p221
                       replace q221:=eq_true q221
                       have p223 : 0 ≤ (x125_3 : Int):=of_decide_eq_true (by first | (with_reducible assumption) | assumption)
                       have q223 : x125_3 < (x7_3.length : Int):=of_decide_eq_true (by first | (with_reducible assumption) | assumption)
                       obtain ⟨ad223,A223_1,c223_1,e223,hx223_0,hx223_1,hx223_2,hl223_1,hi223_1⟩:=at_T58 (Kd.S_reads' HO_7.out).2.2 x125_3 p223 q223
                       obtain rfl : ad221 = ad223:=(by injection e223)
                       obtain ⟨ce223,hce223,hMe223,hcc223⟩:=Kd.S_get HO_7.out z58 x125_3 p223 (by first | exact q223 | exact of_decide_eq_true (by first | (with_reducible assumption) | assumption) | (have e_:=(Kd.S_reads' HO_7.out).1;omega))
                       obtain ⟨ve223_1,rfl,ge223_1⟩:=k58_openM hMe223
                       have hv223_1:=hcc223 1 _ rfl
                       rw [add_field _ _ 1 (by omega)] at hv223_1
                       replace hv223_1:=Option.some.inj (hv223_1.symm.trans hx223_1)
                       rw [hv223_1] at ge223_1
                       have HL223_1:=Aside0.mk (show Kd.R (Kd.int .i64) 3 _ _ _ _ ((rd_T58 x7_3 x125_3).f1) from ge223_1)
                       clear hv223_1 ge223_1
                       clear hcc223 hce223
                       have HR223_1:=Aside0.mk hi223_1
                       have HC223_1:=Aside0.mk hl223_1
                       clear hi223_1 hl223_1
                       replace p223:=eq_true p223
                       replace q223:=eq_true q223
                       have p224 : 0 ≤ (((rd_T58 x7_3 x120_2).f2) : Int):=of_decide_eq_true (by first | (with_reducible assumption) | assumption)
                       have q224 : ((rd_T58 x7_3 x120_2).f2) < (x7_3.length : Int):=of_decide_eq_true (by first | (with_reducible assumption) | assumption)
                       obtain ⟨ad224,A224_1,c224_1,e224,hx224_0,hx224_1,hx224_2,hl224_1,hi224_1⟩:=at_T58 (Kd.S_reads' HO_7.out).2.2 ((rd_T58 x7_3 x120_2).f2) p224 q224
                       obtain rfl : ad221 = ad224:=(by injection e224)
                       obtain ⟨ce224,hce224,hMe224,hcc224⟩:=Kd.S_get HO_7.out z58 ((rd_T58 x7_3 x120_2).f2) p224 (by first | exact q224 | exact of_decide_eq_true (by first | (with_reducible assumption) | assumption) | (have e_:=(Kd.S_reads' HO_7.out).1;omega))
                       obtain ⟨ve224_1,rfl,ge224_1⟩:=k58_openM hMe224
                       have hv224_1:=hcc224 1 _ rfl
                       rw [add_field _ _ 1 (by omega)] at hv224_1
                       replace hv224_1:=Option.some.inj (hv224_1.symm.trans hx224_1)
                       rw [hv224_1] at ge224_1
                       have HL224_1:=Aside0.mk (show Kd.R (Kd.int .i64) 3 _ _ _ _ ((rd_T58 x7_3 ((rd_T58 x7_3 x120_2).f2)).f1) from ge224_1)
                       clear hv224_1 ge224_1
                       clear hcc224 hce224
                       have HR224_1:=Aside0.mk hi224_1
                       have HC224_1:=Aside0.mk hl224_1
                       clear hi224_1 hl224_1
                       replace p224:=eq_true p224
                       replace q224:=eq_true q224
                       go_wp2
                       repeat (go_quiet (fail);try go_wp2)
                       (try simp only [← hl7_3])
                       go_roundg kj76
                       case measure => have:=HK1.out;have:=HK2.out;have:=HK3.out;have:=HJ76.out;omega
                       case rel => exact ⟨(x7_3),(wrap64 (x125_3 + 1)),(by first | rfl | (simp;done) | (simp [*];done)),H',⟨by have:=HK1.out;have:=HK2.out;have:=HK3.out;have:=HJ76.out;omega⟩,⟨by (try simp only [hl7_2]);(try simp only [hl7_3]);(with_reducible repeat (first | apply Kd.S_alloc | apply Kd.S_drewN | apply Kd.S_drew));exact HO_7.out⟩,⟨by (try simp only [hl7_2]);(try simp only [hl7_3]);(with_reducible repeat (first | refine blk_drewN ?_ _ | refine blk_drew ?_ | refine blk_alloc ?_ _));exact BK184.out⟩,⟨by repeat (first | (with_reducible first | exact HB.out | apply below_alloc | apply pw_below_drewN | apply below_drew1 | refine below_set ?_ GE184.out) | exact HB.out)⟩⟩
                     ·rw [if_neg c94] at H
                      exact absurd H (by simp)
                    ·rw [if_neg c93] at H
                     exact absurd H (by simp)
                   ·rw [if_neg c92] at H
                    exact absurd H (by simp)
                  ·rw [if_neg c91] at H
                   exact absurd H (by simp)
                ·rw [if_neg c86] at H
                 exact absurd H (by simp)
               ·rw [if_neg c85] at H
                exact absurd H (by simp)
           ·rw [if_neg c76] at H
            have c76b0 : decide (x125_3 < (x7_2.length : Int)) = false:=decide_eq_false c76
            (try (have c76b0_h:=c76b0;rw [hl7_3] at c76b0_h))
            clear c76
            have H':=Aside0.mk H
            clear H
            go_wp2
            repeat (go_quiet (fail);try go_wp2)
            (try simp only [← hl7_2,← hl7_3])
            go_roundg k3
            case measure => have:=HK1.out;have:=HK2.out;have:=HK3.out;omega
            case rel => exact ⟨(x7_3),(wrap64 (x120_2 + 1)),(by first | rfl | (simp;done) | (simp [*];done)),H',⟨by have:=HK1.out;have:=HK2.out;have:=HK3.out;omega⟩,⟨by (try simp only [hl7_2]);(try simp only [hl7_3]);(with_reducible repeat (first | apply Kd.S_alloc | apply Kd.S_drewN | apply Kd.S_drew));exact HO_7.out⟩,⟨by (try simp only [hl7_2]);(try simp only [hl7_3]);(with_reducible repeat (first | refine blk_drewN ?_ _ | refine blk_drew ?_ | refine blk_alloc ?_ _));exact BK184.out⟩,⟨by repeat (first | (with_reducible first | exact HB.out | apply below_alloc | apply pw_below_drewN | apply below_drew1 | refine below_set ?_ GE184.out) | exact HB.out)⟩⟩
        ·rw [if_neg c75] at H
         have c75b0 : decide (x120_2 < (x7_1.length : Int)) = false:=decide_eq_false c75
         (try (have c75b0_h:=c75b0;rw [hl7_2] at c75b0_h))
         clear c75
         simp only [Option.some.injEq,Prod.mk.injEq] at H
         obtain ⟨rfl,rfl⟩:=H
         go_wp2
         repeat (go_quiet (fail);try go_wp2)
         go_ret2
         exact ⟨_,by first | rfl | (simp [errW_none,errW_some] <;> rfl) | (simp [*,errW_none,errW_some] <;> rfl),by (with_reducible repeat (first | apply Kd.S_alloc | apply Kd.S_drewN | apply Kd.S_drew));exact HO_7.out,by repeat (first | (with_reducible first | exact HB.out | apply below_alloc | apply pw_below_drewN | apply below_drew1 | refine below_set ?_ GE184.out) | exact HB.out)⟩
 ·replace c3:=Bool.eq_false_iff.mpr c3
  subst c3
  have H1 : (some (([] : List (S58)),false)) = some (r1,r2):=by rw [if_neg (show ¬ (false = true) by decide)] at H;exact H
  clear H
  have H:=H1
  clear H1
  simp only [Option.some.injEq,Prod.mk.injEq] at H
  obtain ⟨rfl,rfl⟩:=H
  go_enter Try.func43,Try.ntmps43
  go_wp2_with (first | ((with_reducible refine gate_dst (N:=1) rfl ?_);(try (refine gate_guard (by rfl) ?_;dsimp only));refine box_event ?hg (N:=1) ?hd (cs:=#[.slice A0_0 l0_0.length c0_0]) (t:=28) ?hr ?_;(case hd => rfl);(case hg => rfl);(case hr => first | (go_simp;done) | (go_simp;rfl));intro gb184 hg w99 hbox hb;have n0_:=Aside0.mk (below_step (by repeat (first | (with_reducible first | exact HB.out | apply below_alloc | apply pw_below_drewN | apply below_drew1) | exact HB.out)) hb);have n1_:=Aside0.mk (hbox);have n2_:=Aside0.mk ((by rw [hg];exact (below_size (by repeat (first | (with_reducible first | exact HB.out | apply below_alloc | apply pw_below_drewN | apply below_drew1) | exact HB.out))) : w.heap.size ≤ gb184));have n3_:=Aside0.mk ((by rw [hg];exact (below_size (by repeat (first | (with_reducible first | exact HB.out | apply below_alloc | apply pw_below_drewN | apply below_drew1) | exact HB.out))) : w.heap.size ≤ gb184));clear HB;have HB:=n0_;have BK184:=n1_;have GW184:=n2_;have GE184:=n3_;clear n0_ n1_ n2_ n3_;clear hb hbox hg;have hcz100_0 : w99.cell? ⟨gb184,0,none⟩ = some (.slice A0_0 l0_0.length c0_0):=(blk_cell BK184.out 0).trans rfl;have hfz100_0:=blk_frozen BK184.out 0) | (go_at_call 71;(with_reducible refine (spec_GoodGraph.calls k _ _ l0_0 false _ ?side1 ?side2 A2.out).mono ?_);(case side1 => repeat (first | exact (Kd.C_below HR0_0.out HB.out) | (with_reducible refine Kd.C_alloc ?_ _) | (with_reducible refine Kd.C_drewN ?_ _) | (with_reducible refine Kd.C_drew ?_)));(case side2 => exact HC0_0.out);rintro e w101 ⟨rfl,hb⟩;have n0_:=Aside0.mk (blk_below (g:=gb184) (o:=.cells #[.slice A0_0 l0_0.length c0_0] 28 (0,0)) (by (with_reducible repeat (first | refine blk_drewN ?_ _ | refine blk_drew ?_ | refine blk_alloc ?_ _));exact BK184.out) hb);have n1_:=Aside0.mk (below_step (by repeat (first | (with_reducible first | exact HB.out | apply below_alloc | apply pw_below_drewN | apply below_drew1 | refine below_set ?_ GE184.out) | exact HB.out)) hb);clear BK184;clear HB;have BK184:=n0_;have HB:=n1_;clear n0_ n1_;(try clear hb);(try clear hb2);(try clear hk);(try clear hi)))
  repeat (go_quiet (first | ((with_reducible refine gate_dst (N:=1) rfl ?_);(try (refine gate_guard (by rfl) ?_;dsimp only));refine box_event ?hg (N:=1) ?hd (cs:=#[.slice A0_0 l0_0.length c0_0]) (t:=28) ?hr ?_;(case hd => rfl);(case hg => rfl);(case hr => first | (go_simp;done) | (go_simp;rfl));intro gb184 hg w99 hbox hb;have n0_:=Aside0.mk (below_step (by repeat (first | (with_reducible first | exact HB.out | apply below_alloc | apply pw_below_drewN | apply below_drew1) | exact HB.out)) hb);have n1_:=Aside0.mk (hbox);have n2_:=Aside0.mk ((by rw [hg];exact (below_size (by repeat (first | (with_reducible first | exact HB.out | apply below_alloc | apply pw_below_drewN | apply below_drew1) | exact HB.out))) : w.heap.size ≤ gb184));have n3_:=Aside0.mk ((by rw [hg];exact (below_size (by repeat (first | (with_reducible first | exact HB.out | apply below_alloc | apply pw_below_drewN | apply below_drew1) | exact HB.out))) : w.heap.size ≤ gb184));clear HB;have HB:=n0_;have BK184:=n1_;have GW184:=n2_;have GE184:=n3_;clear n0_ n1_ n2_ n3_;clear hb hbox hg;have hcz100_0 : w99.cell? ⟨gb184,0,none⟩ = some (.slice A0_0 l0_0.length c0_0):=(blk_cell BK184.out 0).trans rfl;have hfz100_0:=blk_frozen BK184.out 0) | (go_at_call 71;(with_reducible refine (spec_GoodGraph.calls k _ _ l0_0 false _ ?side1 ?side2 A2.out).mono ?_);(case side1 => repeat (first | exact (Kd.C_below HR0_0.out HB.out) | (with_reducible refine Kd.C_alloc ?_ _) | (with_reducible refine Kd.C_drewN ?_ _) | (with_reducible refine Kd.C_drew ?_)));(case side2 => exact HC0_0.out);rintro e w101 ⟨rfl,hb⟩;have n0_:=Aside0.mk (blk_below (g:=gb184) (o:=.cells #[.slice A0_0 l0_0.length c0_0] 28 (0,0)) (by (with_reducible repeat (first | refine blk_drewN ?_ _ | refine blk_drew ?_ | refine blk_alloc ?_ _));exact BK184.out) hb);have n1_:=Aside0.mk (below_step (by repeat (first | (with_reducible first | exact HB.out | apply below_alloc | apply pw_below_drewN | apply below_drew1 | refine below_set ?_ GE184.out) | exact HB.out)) hb);clear BK184;clear HB;have BK184:=n0_;have HB:=n1_;clear n0_ n1_;(try clear hb);(try clear hb2);(try clear hk);(try clear hi)));try go_wp2_with (first | ((with_reducible refine gate_dst (N:=1) rfl ?_);(try (refine gate_guard (by rfl) ?_;dsimp only));refine box_event ?hg (N:=1) ?hd (cs:=#[.slice A0_0 l0_0.length c0_0]) (t:=28) ?hr ?_;(case hd => rfl);(case hg => rfl);(case hr => first | (go_simp;done) | (go_simp;rfl));intro gb184 hg w99 hbox hb;have n0_:=Aside0.mk (below_step (by repeat (first | (with_reducible first | exact HB.out | apply below_alloc | apply pw_below_drewN | apply below_drew1) | exact HB.out)) hb);have n1_:=Aside0.mk (hbox);have n2_:=Aside0.mk ((by rw [hg];exact (below_size (by repeat (first | (with_reducible first | exact HB.out | apply below_alloc | apply pw_below_drewN | apply below_drew1) | exact HB.out))) : w.heap.size ≤ gb184));have n3_:=Aside0.mk ((by rw [hg];exact (below_size (by repeat (first | (with_reducible first | exact HB.out | apply below_alloc | apply pw_below_drewN | apply below_drew1) | exact HB.out))) : w.heap.size ≤ gb184));clear HB;have HB:=n0_;have BK184:=n1_;have GW184:=n2_;have GE184:=n3_;clear n0_ n1_ n2_ n3_;clear hb hbox hg;have hcz100_0 : w99.cell? ⟨gb184,0,none⟩ = some (.slice A0_0 l0_0.length c0_0):=(blk_cell BK184.out 0).trans rfl;have hfz100_0:=blk_frozen BK184.out 0) | (go_at_call 71;(with_reducible refine (spec_GoodGraph.calls k _ _ l0_0 false _ ?side1 ?side2 A2.out).mono ?_);(case side1 => repeat (first | exact (Kd.C_below HR0_0.out HB.out) | (with_reducible refine Kd.C_alloc ?_ _) | (with_reducible refine Kd.C_drewN ?_ _) | (with_reducible refine Kd.C_drew ?_)));(case side2 => exact HC0_0.out);rintro e w101 ⟨rfl,hb⟩;have n0_:=Aside0.mk (blk_below (g:=gb184) (o:=.cells #[.slice A0_0 l0_0.length c0_0] 28 (0,0)) (by (with_reducible repeat (first | refine blk_drewN ?_ _ | refine blk_drew ?_ | refine blk_alloc ?_ _));exact BK184.out) hb);have n1_:=Aside0.mk (below_step (by repeat (first | (with_reducible first | exact HB.out | apply below_alloc | apply pw_below_drewN | apply below_drew1 | refine below_set ?_ GE184.out) | exact HB.out)) hb);clear BK184;clear HB;have BK184:=n0_;have HB:=n1_;clear n0_ n1_;(try clear hb);(try clear hb2);(try clear hk);(try clear hi))))
  go_ret2
  exact ⟨_,by first | rfl | (simp [errW_none,errW_some] <;> rfl) | (simp [*,errW_none,errW_some] <;> rfl),by first | exact Kd.S_nil _ _ _ _ _ | exact Kd.N_nil _ _ _ _ _ | exact Kd.V_nil _ _ _ _ _ | exact Kd.Q_nil _ _ _ _ _ | exact Kd.R_nil _ _ _ _ _,by repeat (first | (with_reducible first | exact HB.out | apply below_alloc | apply pw_below_drewN | apply below_drew1 | refine below_set ?_ GE184.out) | exact HB.out)⟩

end Go.Proofs.Ytbmnoenbhlfjaaa.Q
