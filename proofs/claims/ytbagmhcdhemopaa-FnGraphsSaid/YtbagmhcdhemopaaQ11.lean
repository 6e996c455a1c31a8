-- WRITTEN BY A PROGRAM OF THIS SESSION
import Derived.Test.YtbagmhcdhemopaaQ0
import Derived.Test.YtbagmhcdhemopaaQ2
import Derived.Test.YtbagmhcdhemopaaQ3
import Derived.Test.YtbagmhcdhemopaaQ5
import Derived.Test.YtbagmhcdhemopaaQ7
import Derived.Test.YtbagmhcdhemopaaQ8
import Derived.Test.YtbagmhcdhemopaaQ9
import Derived.Test.YtbagmhcdhemopaaQ10
namespace Go.Proofs.Ytbagmhcdhemopaa.Q
open Go.RowKit Go.Proofs.YtbagmhcdhemopaaW.PrintWords Go.Proofs.YtbagmhcdhemopaaW.PrintLast Go.Proofs.YtbagmhcdhemopaaW.PrintMore
attribute [local go_sem] max2_int min2_int max_two min_two max_three min_three max_four min_four   -- for this text's walks alone
set_option linter.unusedVariables false
set_option linter.unusedSimpArgs false

/-! ### laws_FnGraphs: function 10 -/
mutual
def laws_FnGraphs.j0 : Nat → List Int → Bool → List (List Int) → List (List Int) → Bool → List (List Int) → Option (Bool)
  | 0, _, _, _, _, _, _ => none
  | k + 1, x4, x5, x8, x12, x95, x326000 => if x95 = true then (none) else (if x5 = true then (if 0 ≤ (x326000.length : Int) then (if ((x326000.length : Int) : Int).toNat ≤ 35184372088832 then ((some (List.replicate ((x326000.length : Int) : Int).toNat 0 : List Int)).bind fun y353 => (laws_FnGraphs.l0 k x4 x8 x12 y353 (y353.length : Int) 0 x326000)) else (none)) else (none)) else (some ((x4.length : Int) == 0)))
def laws_FnGraphs.l0 : Nat → List Int → List (List Int) → List (List Int) → List Int → Int → Int → List (List Int) → Option (Bool)
  | 0, _, _, _, _, _, _, _ => none
  | k + 1, x4, x8, x12, x16, x106, x107, x326000 => if x107 < x106 then (if 0 ≤ x107 then (if x107 < (x16.length : Int) then (laws_FnGraphs.l0 k x4 x8 x12 (x16.set (x107 : Int).toNat (-1)) x106 (wrap64 (x107 + 1)) x326000) else (none)) else (none)) else (laws_FnGraphs.l1 k x4 x8 x12 x16 x4 (x4.length : Int) 0 x326000)
def laws_FnGraphs.l1 : Nat → List Int → List (List Int) → List (List Int) → List Int → List Int → Int → Int → List (List Int) → Option (Bool)
  | 0, _, _, _, _, _, _, _, _ => none
  | k + 1, x4, x8, x12, x16, x114, x115, x116, x326000 => if x116 < x115 then (if 0 ≤ x116 then (if x116 < (x114.length : Int) then (if 0 ≤ (rd x114 x116) then (if (rd x114 x116) < (x16.length : Int) then (if (rd x16 (rd x114 x116)) ≥ 0 then (none) else (laws_FnGraphs.l1 k x4 x8 x12 (x16.set ((rd x114 x116) : Int).toNat x116) x114 x115 (wrap64 (x116 + 1)) x326000)) else (none)) else (none)) else (none)) else (none)) else ((impl_IsReducible.f k x326000).bind fun bt360 => (if bt360.2 = true then (if 0 < (x4.length : Int) then (laws_FnGraphs.j3 k x8 x12 x16 bt360.1 ((rd x4 0) != 0) x326000) else (none)) else (none)))
def laws_FnGraphs.j3 : Nat → List (List Int) → List (List Int) → List Int → Bool → Bool → List (List Int) → Option (Bool)
  | 0, _, _, _, _, _, _ => none
  | k + 1, x8, x12, x16, x20, x143, x326000 => if x143 = true then (none) else (laws_FnGraphs.l2 k x8 x12 x16 x20 x8 (x8.length : Int) 0 x326000)
def laws_FnGraphs.l2 : Nat → List (List Int) → List (List Int) → List Int → Bool → List (List Int) → Int → Int → List (List Int) → Option (Bool)
  | 0, _, _, _, _, _, _, _, _ => none
  | k + 1, x8, x12, x16, x20, x144, x145, x146, x326000 => if x146 < x145 then (if 0 ≤ x146 then (if x146 < (x144.length : Int) then (if x146 < (x16.length : Int) then (if ((decide (((rd_L1 x144 x146).length : Int) > 0)) != (decide ((rd x16 x146) ≥ 0))) = true then (none) else (laws_FnGraphs.l3 k x8 x12 x16 x20 x146 x144 x145 x146 (rd_L1 x144 x146) ((rd_L1 x144 x146).length : Int) 0 x326000)) else (none)) else (none)) else (none)) else (laws_FnGraphs.l5 k x8 x12 (x12.length : Int) 0 x326000)
def laws_FnGraphs.l3 : Nat → List (List Int) → List (List Int) → List Int → Bool → Int → List (List Int) → Int → Int → List Int → Int → Int → List (List Int) → Option (Bool)
  | 0, _, _, _, _, _, _, _, _, _, _, _, _ => none
  | k + 1, x8, x12, x16, x20, x22, x144, x145, x146, x160, x161, x162, x326000 => if x162 < x161 then (if 0 ≤ x162 then (if x162 < (x160.length : Int) then (if 0 ≤ (rd x160 x162) then (if (rd x160 x162) < (x16.length : Int) then (if 0 ≤ x22 then (if x22 < (x16.length : Int) then (if (rd x16 (rd x160 x162)) > (rd x16 x22) then (none) else (laws_FnGraphs.l3 k x8 x12 x16 x20 x22 x144 x145 x146 x160 x161 (wrap64 (x162 + 1)) x326000)) else (none)) else (none)) else (none)) else (none)) else (none)) else (none)) else (if 0 ≤ x22 then (if x22 < (x326000.length : Int) then (laws_FnGraphs.l4 k x8 x12 x16 x20 x22 x144 x145 x146 (rd_L1 x326000 x22) ((rd_L1 x326000 x22).length : Int) 0 x326000) else (none)) else (none))
def laws_FnGraphs.l4 : Nat → List (List Int) → List (List Int) → List Int → Bool → Int → List (List Int) → Int → Int → List Int → Int → Int → List (List Int) → Option (Bool)
  | 0, _, _, _, _, _, _, _, _, _, _, _, _ => none
  | k + 1, x8, x12, x16, x20, x22, x144, x145, x146, x180, x181, x182, x326000 => if x182 < x181 then (if 0 ≤ x182 then (if x182 < (x180.length : Int) then (if 0 ≤ x22 then (if x22 < (x16.length : Int) then (if (rd x16 x22) ≥ 0 then (if 0 ≤ (rd x180 x182) then (if (rd x180 x182) < (x16.length : Int) then (if (rd x16 (rd x180 x182)) ≤ (rd x16 x22) then (if x20 = true then (if x22 < (x8.length : Int) then ((laws_has.f k (rd_L1 x8 x22) (rd x180 x182)).bind fun t374 => (if t374 = true then (laws_FnGraphs.l4 k x8 x12 x16 x20 x22 x144 x145 x146 x180 x181 (wrap64 (x182 + 1)) x326000) else (none))) else (none)) else (laws_FnGraphs.l4 k x8 x12 x16 x20 x22 x144 x145 x146 x180 x181 (wrap64 (x182 + 1)) x326000)) else (laws_FnGraphs.l4 k x8 x12 x16 x20 x22 x144 x145 x146 x180 x181 (wrap64 (x182 + 1)) x326000)) else (none)) else (none)) else (laws_FnGraphs.l4 k x8 x12 x16 x20 x22 x144 x145 x146 x180 x181 (wrap64 (x182 + 1)) x326000)) else (none)) else (none)) else (none)) else (none)) else (laws_FnGraphs.l2 k x8 x12 x16 x20 x144 x145 (wrap64 (x146 + 1)) x326000)
def laws_FnGraphs.l5 : Nat → List (List Int) → List (List Int) → Int → Int → List (List Int) → Option (Bool)
  | 0, _, _, _, _, _ => none
  | k + 1, x8, x216, x217, x218, x326000 => if x218 < x217 then (if 0 ≤ x218 then (if x218 < (x216.length : Int) then (if 0 < ((rd_L1 x216 x218).length : Int) then (if 0 ≤ (rd (rd_L1 x216 x218) 0) then (if (rd (rd_L1 x216 x218) 0) < (x8.length : Int) then (if 1 < ((rd_L1 x216 x218).length : Int) then ((laws_has.f k (rd_L1 x8 (rd (rd_L1 x216 x218) 0)) (rd (rd_L1 x216 x218) 1)).bind fun t379 => (if t379 = true then (if (rd (rd_L1 x216 x218) 0) < (x326000.length : Int) then ((laws_has.f k (rd_L1 x326000 (rd (rd_L1 x216 x218) 0)) (rd (rd_L1 x216 x218) 1)).bind fun t383 => (if t383 = true then (laws_FnGraphs.l5 k x8 x216 x217 (wrap64 (x218 + 1)) x326000) else (none))) else (none)) else (none))) else (none)) else (none)) else (none)) else (none)) else (none)) else (none)) else (some true)
end
def laws_FnGraphs.f (k : Nat) (l0 : List Int) : Option (Bool) := if (l0.length : Int) > 1048576 then (some true) else ((spec_DrawOrderOf.f k l0).bind fun t322 => ((impl_OrderOf.f k t322).bind fun bt326 => ((spec_OrderOf.f k t322).bind fun bt330 => ((impl_DominatorsIn.f k t322).bind fun bt334 => ((spec_DominatorsIn.f k t322).bind fun bt338 => ((impl_BackEdgesIn.f k t322).bind fun bt342 => ((spec_BackEdgesIn.f k t322).bind fun bt346 => (if (bt326.2 != bt330.2) = true then (none) else ((laws_sameInts.f k bt326.1 bt330.1).bind fun t350 => (if t350 = true then (if (bt334.2 != bt338.2) = true then (none) else ((laws_sameLists.f k bt334.1 bt338.1).bind fun t351 => (if t351 = true then (if (bt342.2 != bt346.2) = true then (none) else ((laws_sameLists.f k bt342.1 bt346.1).bind fun t352 => (laws_FnGraphs.j0 k bt326.1 bt326.2 bt334.1 bt342.1 (!t352) t322))) else (none)))) else (none)))))))))))
theorem laws_FnGraphs.mono_l : ∀ k, (∀ y0 y1 y2 y3 y4 y5, LeO (laws_FnGraphs.j0 k y0 y1 y2 y3 y4 y5) (laws_FnGraphs.j0 (k + 1) y0 y1 y2 y3 y4 y5)) ∧ (∀ y0 y1 y2 y3 y4 y5 y6, LeO (laws_FnGraphs.l0 k y0 y1 y2 y3 y4 y5 y6) (laws_FnGraphs.l0 (k + 1) y0 y1 y2 y3 y4 y5 y6)) ∧ (∀ y0 y1 y2 y3 y4 y5 y6 y7, LeO (laws_FnGraphs.l1 k y0 y1 y2 y3 y4 y5 y6 y7) (laws_FnGraphs.l1 (k + 1) y0 y1 y2 y3 y4 y5 y6 y7)) ∧ (∀ y0 y1 y2 y3 y4 y5, LeO (laws_FnGraphs.j3 k y0 y1 y2 y3 y4 y5) (laws_FnGraphs.j3 (k + 1) y0 y1 y2 y3 y4 y5)) ∧ (∀ y0 y1 y2 y3 y4 y5 y6 y7, LeO (laws_FnGraphs.l2 k y0 y1 y2 y3 y4 y5 y6 y7) (laws_FnGraphs.l2 (k + 1) y0 y1 y2 y3 y4 y5 y6 y7)) ∧ (∀ y0 y1 y2 y3 y4 y5 y6 y7 y8 y9 y10 y11, LeO (laws_FnGraphs.l3 k y0 y1 y2 y3 y4 y5 y6 y7 y8 y9 y10 y11) (laws_FnGraphs.l3 (k + 1) y0 y1 y2 y3 y4 y5 y6 y7 y8 y9 y10 y11)) ∧ (∀ y0 y1 y2 y3 y4 y5 y6 y7 y8 y9 y10 y11, LeO (laws_FnGraphs.l4 k y0 y1 y2 y3 y4 y5 y6 y7 y8 y9 y10 y11) (laws_FnGraphs.l4 (k + 1) y0 y1 y2 y3 y4 y5 y6 y7 y8 y9 y10 y11)) ∧ (∀ y0 y1 y2 y3 y4, LeO (laws_FnGraphs.l5 k y0 y1 y2 y3 y4) (laws_FnGraphs.l5 (k + 1) y0 y1 y2 y3 y4))
  | 0 => ⟨fun _ _ _ _ _ _ r h => by simp [laws_FnGraphs.j0] at h, fun _ _ _ _ _ _ _ r h => by simp [laws_FnGraphs.l0] at h, fun _ _ _ _ _ _ _ _ r h => by simp [laws_FnGraphs.l1] at h, fun _ _ _ _ _ _ r h => by simp [laws_FnGraphs.j3] at h, fun _ _ _ _ _ _ _ _ r h => by simp [laws_FnGraphs.l2] at h, fun _ _ _ _ _ _ _ _ _ _ _ _ r h => by simp [laws_FnGraphs.l3] at h, fun _ _ _ _ _ _ _ _ _ _ _ _ r h => by simp [laws_FnGraphs.l4] at h, fun _ _ _ _ _ r h => by simp [laws_FnGraphs.l5] at h⟩
  | k + 1 => by
    obtain ⟨ih0, ih1, ih2, ih3, ih4, ih5, ih6, ih7⟩ := laws_FnGraphs.mono_l k
    refine ⟨?_, ?_, ?_, ?_, ?_, ?_, ?_, ?_⟩
    · intro y0 y1 y2 y3 y4 y5
      unfold laws_FnGraphs.j0
      repeat' first
      | (with_reducible exact ih0 _ _ _ _ _ _)
      | (with_reducible exact ih1 _ _ _ _ _ _ _)
      | (with_reducible exact ih2 _ _ _ _ _ _ _ _)
      | (with_reducible exact ih3 _ _ _ _ _ _)
      | (with_reducible exact ih4 _ _ _ _ _ _ _ _)
      | (with_reducible exact ih5 _ _ _ _ _ _ _ _ _ _ _ _)
      | (with_reducible exact ih6 _ _ _ _ _ _ _ _ _ _ _ _)
      | (with_reducible exact ih7 _ _ _ _ _)
      | (with_reducible exact impl_BackEdgesIn.mono _ _)
      | (with_reducible exact impl_DominatorsIn.mono _ _)
      | (with_reducible exact impl_IsReducible.mono _ _)
      | (with_reducible exact impl_OrderOf.mono _ _)
      | (with_reducible exact laws_has.mono _ _ _)
      | (with_reducible exact laws_sameInts.mono _ _ _)
      | (with_reducible exact laws_sameLists.mono _ _ _)
      | (with_reducible exact spec_BackEdgesIn.mono _ _)
      | (with_reducible exact spec_DominatorsIn.mono _ _)
      | (with_reducible exact spec_DrawOrderOf.mono _ _)
      | (with_reducible exact spec_OrderOf.mono _ _)
      | (with_reducible exact LeO.refl _)
      | (with_reducible exact LeO.none _)
      | (with_reducible refine LeO.ite ?_ ?_)
      | (with_reducible refine LeO.bind ?_ (fun _ => ?_))
      | exact ih0 _ _ _ _ _ _
      | exact ih1 _ _ _ _ _ _ _
      | exact ih2 _ _ _ _ _ _ _ _
      | exact ih3 _ _ _ _ _ _
      | exact ih4 _ _ _ _ _ _ _ _
      | exact ih5 _ _ _ _ _ _ _ _ _ _ _ _
      | exact ih6 _ _ _ _ _ _ _ _ _ _ _ _
      | exact ih7 _ _ _ _ _
      | exact impl_BackEdgesIn.mono _ _
      | exact impl_DominatorsIn.mono _ _
      | exact impl_IsReducible.mono _ _
      | exact impl_OrderOf.mono _ _
      | exact laws_has.mono _ _ _
      | exact laws_sameInts.mono _ _ _
      | exact laws_sameLists.mono _ _ _
      | exact spec_BackEdgesIn.mono _ _
      | exact spec_DominatorsIn.mono _ _
      | exact spec_DrawOrderOf.mono _ _
      | exact spec_OrderOf.mono _ _
      | exact LeO.none _
      | refine LeO.ite ?_ ?_
      | refine LeO.bind ?_ (fun _ => ?_)
    · intro y0 y1 y2 y3 y4 y5 y6
      unfold laws_FnGraphs.l0
      repeat' first
      | (with_reducible exact ih0 _ _ _ _ _ _)
      | (with_reducible exact ih1 _ _ _ _ _ _ _)
      | (with_reducible exact ih2 _ _ _ _ _ _ _ _)
      | (with_reducible exact ih3 _ _ _ _ _ _)
      | (with_reducible exact ih4 _ _ _ _ _ _ _ _)
      | (with_reducible exact ih5 _ _ _ _ _ _ _ _ _ _ _ _)
      | (with_reducible exact ih6 _ _ _ _ _ _ _ _ _ _ _ _)
      | (with_reducible exact ih7 _ _ _ _ _)
      | (with_reducible exact impl_BackEdgesIn.mono _ _)
      | (with_reducible exact impl_DominatorsIn.mono _ _)
      | (with_reducible exact impl_IsReducible.mono _ _)
      | (with_reducible exact impl_OrderOf.mono _ _)
      | (with_reducible exact laws_has.mono _ _ _)
      | (with_reducible exact laws_sameInts.mono _ _ _)
      | (with_reducible exact laws_sameLists.mono _ _ _)
      | (with_reducible exact spec_BackEdgesIn.mono _ _)
      | (with_reducible exact spec_DominatorsIn.mono _ _)
      | (with_reducible exact spec_DrawOrderOf.mono _ _)
      | (with_reducible exact spec_OrderOf.mono _ _)
      | (with_reducible exact LeO.refl _)
      | (with_reducible exact LeO.none _)
      | (with_reducible refine LeO.ite ?_ ?_)
      | (with_reducible refine LeO.bind ?_ (fun _ => ?_))
      | exact ih0 _ _ _ _ _ _
      | exact ih1 _ _ _ _ _ _ _
      | exact ih2 _ _ _ _ _ _ _ _
      | exact ih3 _ _ _ _ _ _
      | exact ih4 _ _ _ _ _ _ _ _
      | exact ih5 _ _ _ _ _ _ _ _ _ _ _ _
      | exact ih6 _ _ _ _ _ _ _ _ _ _ _ _
      | exact ih7 _ _ _ _ _
      | exact impl_BackEdgesIn.mono _ _
      | exact impl_DominatorsIn.mono _ _
      | exact impl_IsReducible.mono _ _
      | exact impl_OrderOf.mono _ _
      | exact laws_has.mono _ _ _
      | exact laws_sameInts.mono _ _ _
      | exact laws_sameLists.mono _ _ _
      | exact spec_BackEdgesIn.mono _ _
      | exact spec_DominatorsIn.mono _ _
      | exact spec_DrawOrderOf.mono _ _
      | exact spec_OrderOf.mono _ _
      | exact LeO.none _
      | refine LeO.ite ?_ ?_
      | refine LeO.bind ?_ (fun _ => ?_)
    · intro y0 y1 y2 y3 y4 y5 y6 y7
      unfold laws_FnGraphs.l1
      repeat' first
      | (with_reducible exact ih0 _ _ _ _ _ _)
      | (with_reducible exact ih1 _ _ _ _ _ _ _)
      | (with_reducible exact ih2 _ _ _ _ _ _ _ _)
      | (with_reducible exact ih3 _ _ _ _ _ _)
      | (with_reducible exact ih4 _ _ _ _ _ _ _ _)
      | (with_reducible exact ih5 _ _ _ _ _ _ _ _ _ _ _ _)
      | (with_reducible exact ih6 _ _ _ _ _ _ _ _ _ _ _ _)
      | (with_reducible exact ih7 _ _ _ _ _)
      | (with_reducible exact impl_BackEdgesIn.mono _ _)
      | (with_reducible exact impl_DominatorsIn.mono _ _)
      | (with_reducible exact impl_IsReducible.mono _ _)
      | (with_reducible exact impl_OrderOf.mono _ _)
      | (with_reducible exact laws_has.mono _ _ _)
      | (with_reducible exact laws_sameInts.mono _ _ _)
      | (with_reducible exact laws_sameLists.mono _ _ _)
      | (with_reducible exact spec_BackEdgesIn.mono _ _)
      | (with_reducible exact spec_DominatorsIn.mono _ _)
      | (with_reducible exact spec_DrawOrderOf.mono _ _)
      | (with_reducible exact spec_OrderOf.mono _ _)
      | (with_reducible exact LeO.refl _)
      | (with_reducible exact LeO.none _)
      | (with_reducible refine LeO.ite ?_ ?_)
      | (with_reducible refine LeO.bind ?_ (fun _ => ?_))
      | exact ih0 _ _ _ _ _ _
      | exact ih1 _ _ _ _ _ _ _
      | exact ih2 _ _ _ _ _ _ _ _
      | exact ih3 _ _ _ _ _ _
      | exact ih4 _ _ _ _ _ _ _ _
      | exact ih5 _ _ _ _ _ _ _ _ _ _ _ _
      | exact ih6 _ _ _ _ _ _ _ _ _ _ _ _
      | exact ih7 _ _ _ _ _
      | exact impl_BackEdgesIn.mono _ _
      | exact impl_DominatorsIn.mono _ _
      | exact impl_IsReducible.mono _ _
      | exact impl_OrderOf.mono _ _
      | exact laws_has.mono _ _ _
      | exact laws_sameInts.mono _ _ _
      | exact laws_sameLists.mono _ _ _
      | exact spec_BackEdgesIn.mono _ _
      | exact spec_DominatorsIn.mono _ _
      | exact spec_DrawOrderOf.mono _ _
      | exact spec_OrderOf.mono _ _
      | exact LeO.none _
      | refine LeO.ite ?_ ?_
      | refine LeO.bind ?_ (fun _ => ?_)
    · intro y0 y1 y2 y3 y4 y5
      unfold laws_FnGraphs.j3
      repeat' first
      | (with_reducible exact ih0 _ _ _ _ _ _)
      | (with_reducible exact ih1 _ _ _ _ _ _ _)
      | (with_reducible exact ih2 _ _ _ _ _ _ _ _)
      | (with_reducible exact ih3 _ _ _ _ _ _)
      | (with_reducible exact ih4 _ _ _ _ _ _ _ _)
      | (with_reducible exact ih5 _ _ _ _ _ _ _ _ _ _ _ _)
      | (with_reducible exact ih6 _ _ _ _ _ _ _ _ _ _ _ _)
      | (with_reducible exact ih7 _ _ _ _ _)
      | (with_reducible exact impl_BackEdgesIn.mono _ _)
      | (with_reducible exact impl_DominatorsIn.mono _ _)
      | (with_reducible exact impl_IsReducible.mono _ _)
      | (with_reducible exact impl_OrderOf.mono _ _)
      | (with_reducible exact laws_has.mono _ _ _)
      | (with_reducible exact laws_sameInts.mono _ _ _)
      | (with_reducible exact laws_sameLists.mono _ _ _)
      | (with_reducible exact spec_BackEdgesIn.mono _ _)
      | (with_reducible exact spec_DominatorsIn.mono _ _)
      | (with_reducible exact spec_DrawOrderOf.mono _ _)
      | (with_reducible exact spec_OrderOf.mono _ _)
      | (with_reducible exact LeO.refl _)
      | (with_reducible exact LeO.none _)
      | (with_reducible refine LeO.ite ?_ ?_)
      | (with_reducible refine LeO.bind ?_ (fun _ => ?_))
      | exact ih0 _ _ _ _ _ _
      | exact ih1 _ _ _ _ _ _ _
      | exact ih2 _ _ _ _ _ _ _ _
      | exact ih3 _ _ _ _ _ _
      | exact ih4 _ _ _ _ _ _ _ _
      | exact ih5 _ _ _ _ _ _ _ _ _ _ _ _
      | exact ih6 _ _ _ _ _ _ _ _ _ _ _ _
      | exact ih7 _ _ _ _ _
      | exact impl_BackEdgesIn.mono _ _
      | exact impl_DominatorsIn.mono _ _
      | exact impl_IsReducible.mono _ _
      | exact impl_OrderOf.mono _ _
      | exact laws_has.mono _ _ _
      | exact laws_sameInts.mono _ _ _
      | exact laws_sameLists.mono _ _ _
      | exact spec_BackEdgesIn.mono _ _
      | exact spec_DominatorsIn.mono _ _
      | exact spec_DrawOrderOf.mono _ _
      | exact spec_OrderOf.mono _ _
      | exact LeO.none _
      | refine LeO.ite ?_ ?_
      | refine LeO.bind ?_ (fun _ => ?_)
    · intro y0 y1 y2 y3 y4 y5 y6 y7
      unfold laws_FnGraphs.l2
      repeat' first
      | (with_reducible exact ih0 _ _ _ _ _ _)
      | (with_reducible exact ih1 _ _ _ _ _ _ _)
      | (with_reducible exact ih2 _ _ _ _ _ _ _ _)
      | (with_reducible exact ih3 _ _ _ _ _ _)
      | (with_reducible exact ih4 _ _ _ _ _ _ _ _)
      | (with_reducible exact ih5 _ _ _ _ _ _ _ _ _ _ _ _)
      | (with_reducible exact ih6 _ _ _ _ _ _ _ _ _ _ _ _)
      | (with_reducible exact ih7 _ _ _ _ _)
      | (with_reducible exact impl_BackEdgesIn.mono _ _)
      | (with_reducible exact impl_DominatorsIn.mono _ _)
      | (with_reducible exact impl_IsReducible.mono _ _)
      | (with_reducible exact impl_OrderOf.mono _ _)
      | (with_reducible exact laws_has.mono _ _ _)
      | (with_reducible exact laws_sameInts.mono _ _ _)
      | (with_reducible exact laws_sameLists.mono _ _ _)
      | (with_reducible exact spec_BackEdgesIn.mono _ _)
      | (with_reducible exact spec_DominatorsIn.mono _ _)
      | (with_reducible exact spec_DrawOrderOf.mono _ _)
      | (with_reducible exact spec_OrderOf.mono _ _)
      | (with_reducible exact LeO.refl _)
      | (with_reducible exact LeO.none _)
      | (with_reducible refine LeO.ite ?_ ?_)
      | (with_reducible refine LeO.bind ?_ (fun _ => ?_))
      | exact ih0 _ _ _ _ _ _
      | exact ih1 _ _ _ _ _ _ _
      | exact ih2 _ _ _ _ _ _ _ _
      | exact ih3 _ _ _ _ _ _
      | exact ih4 _ _ _ _ _ _ _ _
      | exact ih5 _ _ _ _ _ _ _ _ _ _ _ _
      | exact ih6 _ _ _ _ _ _ _ _ _ _ _ _
      | exact ih7 _ _ _ _ _
      | exact impl_BackEdgesIn.mono _ _
      | exact impl_DominatorsIn.mono _ _
      | exact impl_IsReducible.mono _ _
      | exact impl_OrderOf.mono _ _
      | exact laws_has.mono _ _ _
      | exact laws_sameInts.mono _ _ _
      | exact laws_sameLists.mono _ _ _
      | exact spec_BackEdgesIn.mono _ _
      | exact spec_DominatorsIn.mono _ _
      | exact spec_DrawOrderOf.mono _ _
      | exact spec_OrderOf.mono _ _
      | exact LeO.none _
      | refine LeO.ite ?_ ?_
      | refine LeO.bind ?_ (fun _ => ?_)
    · intro y0 y1 y2 y3 y4 y5 y6 y7 y8 y9 y10 y11
      unfold laws_FnGraphs.l3
      repeat' first
      | (with_reducible exact ih0 _ _ _ _ _ _)
      | (with_reducible exact ih1 _ _ _ _ _ _ _)
      | (with_reducible exact ih2 _ _ _ _ _ _ _ _)
      | (with_reducible exact ih3 _ _ _ _ _ _)
      | (with_reducible exact ih4 _ _ _ _ _ _ _ _)
      | (with_reducible exact ih5 _ _ _ _ _ _ _ _ _ _ _ _)
      | (with_reducible exact ih6 _ _ _ _ _ _ _ _ _ _ _ _)
      | (with_reducible exact ih7 _ _ _ _ _)
      | (with_reducible exact impl_BackEdgesIn.mono _ _)
      | (with_reducible exact impl_DominatorsIn.mono _ _)
      | (with_reducible exact impl_IsReducible.mono _ _)
      | (with_reducible exact impl_OrderOf.mono _ _)
      | (with_reducible exact laws_has.mono _ _ _)
      | (with_reducible exact laws_sameInts.mono _ _ _)
      | (with_reducible exact laws_sameLists.mono _ _ _)
      | (with_reducible exact spec_BackEdgesIn.mono _ _)
      | (with_reducible exact spec_DominatorsIn.mono _ _)
      | (with_reducible exact spec_DrawOrderOf.mono _ _)
      | (with_reducible exact spec_OrderOf.mono _ _)
      | (with_reducible exact LeO.refl _)
      | (with_reducible exact LeO.none _)
      | (with_reducible refine LeO.ite ?_ ?_)
      | (with_reducible refine LeO.bind ?_ (fun _ => ?_))
      | exact ih0 _ _ _ _ _ _
      | exact ih1 _ _ _ _ _ _ _
      | exact ih2 _ _ _ _ _ _ _ _
      | exact ih3 _ _ _ _ _ _
      | exact ih4 _ _ _ _ _ _ _ _
      | exact ih5 _ _ _ _ _ _ _ _ _ _ _ _
      | exact ih6 _ _ _ _ _ _ _ _ _ _ _ _
      | exact ih7 _ _ _ _ _
      | exact impl_BackEdgesIn.mono _ _
      | exact impl_DominatorsIn.mono _ _
      | exact impl_IsReducible.mono _ _
      | exact impl_OrderOf.mono _ _
      | exact laws_has.mono _ _ _
      | exact laws_sameInts.mono _ _ _
      | exact laws_sameLists.mono _ _ _
      | exact spec_BackEdgesIn.mono _ _
      | exact spec_DominatorsIn.mono _ _
      | exact spec_DrawOrderOf.mono _ _
      | exact spec_OrderOf.mono _ _
      | exact LeO.none _
      | refine LeO.ite ?_ ?_
      | refine LeO.bind ?_ (fun _ => ?_)
    · intro y0 y1 y2 y3 y4 y5 y6 y7 y8 y9 y10 y11
      unfold laws_FnGraphs.l4
      repeat' first
      | (with_reducible exact ih0 _ _ _ _ _ _)
      | (with_reducible exact ih1 _ _ _ _ _ _ _)
      | (with_reducible exact ih2 _ _ _ _ _ _ _ _)
      | (with_reducible exact ih3 _ _ _ _ _ _)
      | (with_reducible exact ih4 _ _ _ _ _ _ _ _)
      | (with_reducible exact ih5 _ _ _ _ _ _ _ _ _ _ _ _)
      | (with_reducible exact ih6 _ _ _ _ _ _ _ _ _ _ _ _)
      | (with_reducible exact ih7 _ _ _ _ _)
      | (with_reducible exact impl_BackEdgesIn.mono _ _)
      | (with_reducible exact impl_DominatorsIn.mono _ _)
      | (with_reducible exact impl_IsReducible.mono _ _)
      | (with_reducible exact impl_OrderOf.mono _ _)
      | (with_reducible exact laws_has.mono _ _ _)
      | (with_reducible exact laws_sameInts.mono _ _ _)
      | (with_reducible exact laws_sameLists.mono _ _ _)
      | (with_reducible exact spec_BackEdgesIn.mono _ _)
      | (with_reducible exact spec_DominatorsIn.mono _ _)
      | (with_reducible exact spec_DrawOrderOf.mono _ _)
      | (with_reducible exact spec_OrderOf.mono _ _)
      | (with_reducible exact LeO.refl _)
      | (with_reducible exact LeO.none _)
      | (with_reducible refine LeO.ite ?_ ?_)
      | (with_reducible refine LeO.bind ?_ (fun _ => ?_))
      | exact ih0 _ _ _ _ _ _
      | exact ih1 _ _ _ _ _ _ _
      | exact ih2 _ _ _ _ _ _ _ _
      | exact ih3 _ _ _ _ _ _
      | exact ih4 _ _ _ _ _ _ _ _
      | exact ih5 _ _ _ _ _ _ _ _ _ _ _ _
      | exact ih6 _ _ _ _ _ _ _ _ _ _ _ _
      | exact ih7 _ _ _ _ _
      | exact impl_BackEdgesIn.mono _ _
      | exact impl_DominatorsIn.mono _ _
      | exact impl_IsReducible.mono _ _
      | exact impl_OrderOf.mono _ _
      | exact laws_has.mono _ _ _
      | exact laws_sameInts.mono _ _ _
      | exact laws_sameLists.mono _ _ _
      | exact spec_BackEdgesIn.mono _ _
      | exact spec_DominatorsIn.mono _ _
      | exact spec_DrawOrderOf.mono _ _
      | exact spec_OrderOf.mono _ _
      | exact LeO.none _
      | refine LeO.ite ?_ ?_
      | refine LeO.bind ?_ (fun _ => ?_)
    · intro y0 y1 y2 y3 y4
      unfold laws_FnGraphs.l5
      repeat' first
      | (with_reducible exact ih0 _ _ _ _ _ _)
      | (with_reducible exact ih1 _ _ _ _ _ _ _)
      | (with_reducible exact ih2 _ _ _ _ _ _ _ _)
      | (with_reducible exact ih3 _ _ _ _ _ _)
      | (with_reducible exact ih4 _ _ _ _ _ _ _ _)
      | (with_reducible exact ih5 _ _ _ _ _ _ _ _ _ _ _ _)
      | (with_reducible exact ih6 _ _ _ _ _ _ _ _ _ _ _ _)
      | (with_reducible exact ih7 _ _ _ _ _)
      | (with_reducible exact impl_BackEdgesIn.mono _ _)
      | (with_reducible exact impl_DominatorsIn.mono _ _)
      | (with_reducible exact impl_IsReducible.mono _ _)
      | (with_reducible exact impl_OrderOf.mono _ _)
      | (with_reducible exact laws_has.mono _ _ _)
      | (with_reducible exact laws_sameInts.mono _ _ _)
      | (with_reducible exact laws_sameLists.mono _ _ _)
      | (with_reducible exact spec_BackEdgesIn.mono _ _)
      | (with_reducible exact spec_DominatorsIn.mono _ _)
      | (with_reducible exact spec_DrawOrderOf.mono _ _)
      | (with_reducible exact spec_OrderOf.mono _ _)
      | (with_reducible exact LeO.refl _)
      | (with_reducible exact LeO.none _)
      | (with_reducible refine LeO.ite ?_ ?_)
      | (with_reducible refine LeO.bind ?_ (fun _ => ?_))
      | exact ih0 _ _ _ _ _ _
      | exact ih1 _ _ _ _ _ _ _
      | exact ih2 _ _ _ _ _ _ _ _
      | exact ih3 _ _ _ _ _ _
      | exact ih4 _ _ _ _ _ _ _ _
      | exact ih5 _ _ _ _ _ _ _ _ _ _ _ _
      | exact ih6 _ _ _ _ _ _ _ _ _ _ _ _
      | exact ih7 _ _ _ _ _
      | exact impl_BackEdgesIn.mono _ _
      | exact impl_DominatorsIn.mono _ _
      | exact impl_IsReducible.mono _ _
      | exact impl_OrderOf.mono _ _
      | exact laws_has.mono _ _ _
      | exact laws_sameInts.mono _ _ _
      | exact laws_sameLists.mono _ _ _
      | exact spec_BackEdgesIn.mono _ _
      | exact spec_DominatorsIn.mono _ _
      | exact spec_DrawOrderOf.mono _ _
      | exact spec_OrderOf.mono _ _
      | exact LeO.none _
      | refine LeO.ite ?_ ?_
      | refine LeO.bind ?_ (fun _ => ?_)
theorem laws_FnGraphs.mono : ∀ a0 k, LeO (laws_FnGraphs.f k a0) (laws_FnGraphs.f (k + 1) a0) := by
  intro a0 k
  obtain ⟨ih0, ih1, ih2, ih3, ih4, ih5, ih6, ih7⟩ := laws_FnGraphs.mono_l k
  unfold laws_FnGraphs.f
  repeat' first
      | (with_reducible exact ih0 _ _ _ _ _ _)
      | (with_reducible exact ih1 _ _ _ _ _ _ _)
      | (with_reducible exact ih2 _ _ _ _ _ _ _ _)
      | (with_reducible exact ih3 _ _ _ _ _ _)
      | (with_reducible exact ih4 _ _ _ _ _ _ _ _)
      | (with_reducible exact ih5 _ _ _ _ _ _ _ _ _ _ _ _)
      | (with_reducible exact ih6 _ _ _ _ _ _ _ _ _ _ _ _)
      | (with_reducible exact ih7 _ _ _ _ _)
      | (with_reducible exact impl_BackEdgesIn.mono _ _)
      | (with_reducible exact impl_DominatorsIn.mono _ _)
      | (with_reducible exact impl_IsReducible.mono _ _)
      | (with_reducible exact impl_OrderOf.mono _ _)
      | (with_reducible exact laws_has.mono _ _ _)
      | (with_reducible exact laws_sameInts.mono _ _ _)
      | (with_reducible exact laws_sameLists.mono _ _ _)
      | (with_reducible exact spec_BackEdgesIn.mono _ _)
      | (with_reducible exact spec_DominatorsIn.mono _ _)
      | (with_reducible exact spec_DrawOrderOf.mono _ _)
      | (with_reducible exact spec_OrderOf.mono _ _)
      | (with_reducible exact LeO.refl _)
      | (with_reducible exact LeO.none _)
      | (with_reducible refine LeO.ite ?_ ?_)
      | (with_reducible refine LeO.bind ?_ (fun _ => ?_))
      | exact ih0 _ _ _ _ _ _
      | exact ih1 _ _ _ _ _ _ _
      | exact ih2 _ _ _ _ _ _ _ _
      | exact ih3 _ _ _ _ _ _
      | exact ih4 _ _ _ _ _ _ _ _
      | exact ih5 _ _ _ _ _ _ _ _ _ _ _ _
      | exact ih6 _ _ _ _ _ _ _ _ _ _ _ _
      | exact ih7 _ _ _ _ _
      | exact impl_BackEdgesIn.mono _ _
      | exact impl_DominatorsIn.mono _ _
      | exact impl_IsReducible.mono _ _
      | exact impl_OrderOf.mono _ _
      | exact laws_has.mono _ _ _
      | exact laws_sameInts.mono _ _ _
      | exact laws_sameLists.mono _ _ _
      | exact spec_BackEdgesIn.mono _ _
      | exact spec_DominatorsIn.mono _ _
      | exact spec_DrawOrderOf.mono _ _
      | exact spec_OrderOf.mono _ _
      | exact LeO.none _
      | refine LeO.ite ?_ ?_
      | refine LeO.bind ?_ (fun _ => ?_)
set_option maxHeartbeats 8000000 in
set_option maxRecDepth 100000 in
theorem laws_FnGraphs.calls (k : Nat) (A0 : Option Addr) (c0 : Nat) (l0 : List Int) (r : Bool) (w : World) (hr0 : Kd.C (Kd.int .u8) w A0 l0.length l0) (hc0 : l0.length ≤ c0) (h : laws_FnGraphs.f k l0 = some r) :
    Calls Try.prog 10 #[.slice A0 l0.length c0] w fun e w' => e = .returned (.bool r) ∧ Below w.heap.size w w' := by
  have hu27 := Try.underlying27
  have HR0 := Aside0.mk hr0
  have HC0 := Aside0.mk hc0
  clear hr0 hc0
  have HB := Aside0.mk (Below.refl w.heap.size w)
  have H : (if (l0.length : Int) > 1048576 then (some true) else ((spec_DrawOrderOf.f k l0).bind fun t322 => ((impl_OrderOf.f k t322).bind fun bt326 => ((spec_OrderOf.f k t322).bind fun bt330 => ((impl_DominatorsIn.f k t322).bind fun bt334 => ((spec_DominatorsIn.f k t322).bind fun bt338 => ((impl_BackEdgesIn.f k t322).bind fun bt342 => ((spec_BackEdgesIn.f k t322).bind fun bt346 => (if (bt326.2 != bt330.2) = true then (none) else ((laws_sameInts.f k bt326.1 bt330.1).bind fun t350 => (if t350 = true then (if (bt334.2 != bt338.2) = true then (none) else ((laws_sameLists.f k bt334.1 bt338.1).bind fun t351 => (if t351 = true then (if (bt342.2 != bt346.2) = true then (none) else ((laws_sameLists.f k bt342.1 bt346.1).bind fun t352 => (laws_FnGraphs.j0 k bt326.1 bt326.2 bt334.1 bt342.1 (!t352) t322))) else (none)))) else (none)))))))))))) = some r := h
  clear h
  by_cases c2 : (l0.length : Int) > 1048576
  · rw [if_pos c2] at H
    have c2b0 : decide (1048576 < (l0.length : Int)) = true := decide_eq_true c2
    have c2b1 : decide (1048576 < l0.length) = true := decide_eq_true (by omega)
    clear c2
    obtain rfl := Option.some.inj H
    go_enter Try.func10, Try.ntmps10
    go_wp2
    go_ret
    exact ⟨by first | rfl | (simp [errW_none, errW_some] <;> rfl) | (simp [*, errW_none, errW_some] <;> rfl), by repeat (first | (with_reducible first | exact HB.out | apply below_alloc | apply pw_below_drewN | apply below_drew1) | exact HB.out)⟩
  · rw [if_neg c2] at H
    have c2b0 : decide (1048576 < (l0.length : Int)) = false := decide_eq_false c2
    have c2b1 : decide (1048576 < l0.length) = false := decide_eq_false (by omega)
    clear c2
    replace H := Option.bind_eq_some_iff.mp H
    obtain ⟨t322, A30, H⟩ := H
    replace H : ((impl_OrderOf.f k t322).bind fun bt326 => ((spec_OrderOf.f k t322).bind fun bt330 => ((impl_DominatorsIn.f k t322).bind fun bt334 => ((spec_DominatorsIn.f k t322).bind fun bt338 => ((impl_BackEdgesIn.f k t322).bind fun bt342 => ((spec_BackEdgesIn.f k t322).bind fun bt346 => (if (bt326.2 != bt330.2) = true then (none) else ((laws_sameInts.f k bt326.1 bt330.1).bind fun t350 => (if t350 = true then (if (bt334.2 != bt338.2) = true then (none) else ((laws_sameLists.f k bt334.1 bt338.1).bind fun t351 => (if t351 = true then (if (bt342.2 != bt346.2) = true then (none) else ((laws_sameLists.f k bt342.1 bt346.1).bind fun t352 => (laws_FnGraphs.j0 k bt326.1 bt326.2 bt334.1 bt342.1 (!t352) t322))) else (none)))) else (none)))))))))) = some r := H
    have A3 := Aside0.mk A30
    clear A30
    replace H := Option.bind_eq_some_iff.mp H
    obtain ⟨⟨t326, t329⟩, A40, H⟩ := H
    replace H : ((spec_OrderOf.f k t322).bind fun bt330 => ((impl_DominatorsIn.f k t322).bind fun bt334 => ((spec_DominatorsIn.f k t322).bind fun bt338 => ((impl_BackEdgesIn.f k t322).bind fun bt342 => ((spec_BackEdgesIn.f k t322).bind fun bt346 => (if (t329 != bt330.2) = true then (none) else ((laws_sameInts.f k t326 bt330.1).bind fun t350 => (if t350 = true then (if (bt334.2 != bt338.2) = true then (none) else ((laws_sameLists.f k bt334.1 bt338.1).bind fun t351 => (if t351 = true then (if (bt342.2 != bt346.2) = true then (none) else ((laws_sameLists.f k bt342.1 bt346.1).bind fun t352 => (laws_FnGraphs.j0 k t326 t329 bt334.1 bt342.1 (!t352) t322))) else (none)))) else (none))))))))) = some r := H
    have A4 := Aside0.mk A40
    clear A40
    replace H := Option.bind_eq_some_iff.mp H
    obtain ⟨⟨t330, t333⟩, A50, H⟩ := H
    replace H : ((impl_DominatorsIn.f k t322).bind fun bt334 => ((spec_DominatorsIn.f k t322).bind fun bt338 => ((impl_BackEdgesIn.f k t322).bind fun bt342 => ((spec_BackEdgesIn.f k t322).bind fun bt346 => (if (t329 != t333) = true then (none) else ((laws_sameInts.f k t326 t330).bind fun t350 => (if t350 = true then (if (bt334.2 != bt338.2) = true then (none) else ((laws_sameLists.f k bt334.1 bt338.1).bind fun t351 => (if t351 = true then (if (bt342.2 != bt346.2) = true then (none) else ((laws_sameLists.f k bt342.1 bt346.1).bind fun t352 => (laws_FnGraphs.j0 k t326 t329 bt334.1 bt342.1 (!t352) t322))) else (none)))) else (none)))))))) = some r := H
    have A5 := Aside0.mk A50
    clear A50
    replace H := Option.bind_eq_some_iff.mp H
    obtain ⟨⟨t334, t337⟩, A60, H⟩ := H
    replace H : ((spec_DominatorsIn.f k t322).bind fun bt338 => ((impl_BackEdgesIn.f k t322).bind fun bt342 => ((spec_BackEdgesIn.f k t322).bind fun bt346 => (if (t329 != t333) = true then (none) else ((laws_sameInts.f k t326 t330).bind fun t350 => (if t350 = true then (if (t337 != bt338.2) = true then (none) else ((laws_sameLists.f k t334 bt338.1).bind fun t351 => (if t351 = true then (if (bt342.2 != bt346.2) = true then (none) else ((laws_sameLists.f k bt342.1 bt346.1).bind fun t352 => (laws_FnGraphs.j0 k t326 t329 t334 bt342.1 (!t352) t322))) else (none)))) else (none))))))) = some r := H
    have A6 := Aside0.mk A60
    clear A60
    replace H := Option.bind_eq_some_iff.mp H
    obtain ⟨⟨t338, t341⟩, A70, H⟩ := H
    replace H : ((impl_BackEdgesIn.f k t322).bind fun bt342 => ((spec_BackEdgesIn.f k t322).bind fun bt346 => (if (t329 != t333) = true then (none) else ((laws_sameInts.f k t326 t330).bind fun t350 => (if t350 = true then (if (t337 != t341) = true then (none) else ((laws_sameLists.f k t334 t338).bind fun t351 => (if t351 = true then (if (bt342.2 != bt346.2) = true then (none) else ((laws_sameLists.f k bt342.1 bt346.1).bind fun t352 => (laws_FnGraphs.j0 k t326 t329 t334 bt342.1 (!t352) t322))) else (none)))) else (none)))))) = some r := H
    have A7 := Aside0.mk A70
    clear A70
    replace H := Option.bind_eq_some_iff.mp H
    obtain ⟨⟨t342, t345⟩, A80, H⟩ := H
    replace H : ((spec_BackEdgesIn.f k t322).bind fun bt346 => (if (t329 != t333) = true then (none) else ((laws_sameInts.f k t326 t330).bind fun t350 => (if t350 = true then (if (t337 != t341) = true then (none) else ((laws_sameLists.f k t334 t338).bind fun t351 => (if t351 = true then (if (t345 != bt346.2) = true then (none) else ((laws_sameLists.f k t342 bt346.1).bind fun t352 => (laws_FnGraphs.j0 k t326 t329 t334 t342 (!t352) t322))) else (none)))) else (none))))) = some r := H
    have A8 := Aside0.mk A80
    clear A80
    replace H := Option.bind_eq_some_iff.mp H
    obtain ⟨⟨t346, t349⟩, A90, H⟩ := H
    replace H : (if (t329 != t333) = true then (none) else ((laws_sameInts.f k t326 t330).bind fun t350 => (if t350 = true then (if (t337 != t341) = true then (none) else ((laws_sameLists.f k t334 t338).bind fun t351 => (if t351 = true then (if (t345 != t349) = true then (none) else ((laws_sameLists.f k t342 t346).bind fun t352 => (laws_FnGraphs.j0 k t326 t329 t334 t342 (!t352) t322))) else (none)))) else (none)))) = some r := H
    have A9 := Aside0.mk A90
    clear A90
    have HC10 := Aside0.mk H
    clear H
    go_enter Try.func10, Try.ntmps10
    go_upto_region 10 with (first | (go_at_call 36; (with_reducible refine (spec_DrawOrderOf.calls k _ _ l0 t322 _ ?side1 ?side2 A3.out).mono ?_); (case side1 => repeat (first | exact HR0.out | (with_reducible refine Kd.C_alloc ?_ _) | (with_reducible refine Kd.C_drewN ?_ _) | (with_reducible refine Kd.C_drew ?_))); (case side2 => exact HC0.out); rintro e w11 ⟨v323, rfl, ho0, hb⟩; have n0_ := Aside0.mk (Kd.S_lower ho0 (below_size (by repeat (first | (with_reducible first | exact HB.out | apply below_alloc | apply pw_below_drewN | apply below_drew1) | exact HB.out)))); have n1_ := Aside0.mk (below_step (by repeat (first | (with_reducible first | exact HB.out | apply below_alloc | apply pw_below_drewN | apply below_drew1) | exact HB.out)) hb); clear HB; have HO324 := n0_; have HB := n1_; clear n0_ n1_; (try clear hb); (try clear hb2); (try clear hk); (try clear hi); (try clear ho0)) | ((with_reducible refine gate_dst (N := 3) rfl ?_); refine box_event ?hg (N := 3) ?hd (cs := #[.slice none 0 0]) (t := 27) ?hr ?_; (case hd => rfl); (case hg => rfl); (case hr => first | (go_simp; done) | (go_simp; rfl)); intro gb325 hg w12 hbox hb; have n0_ := Aside0.mk (Kd.S_below (by (with_reducible repeat (first | apply Kd.S_alloc | apply Kd.S_drewN | apply Kd.S_drew)); exact HO324.out) hb); have n1_ := Aside0.mk (below_step (by repeat (first | (with_reducible first | exact HB.out | apply below_alloc | apply pw_below_drewN | apply below_drew1) | exact HB.out)) hb); have n2_ := Aside0.mk (hbox); have n3_ := Aside0.mk ((by rw [hg]; exact (below_size (by repeat (first | (with_reducible first | exact HB.out | apply below_alloc | apply pw_below_drewN | apply below_drew1) | exact HB.out))) : w.heap.size ≤ gb325)); have n4_ := Aside0.mk ((by rw [hg]; exact (below_size (by repeat (first | (with_reducible first | exact HB.out | apply below_alloc | apply pw_below_drewN | apply below_drew1) | exact HB.out))) : w.heap.size ≤ gb325)); clear HO324; clear HB; have HO324 := n0_; have HB := n1_; have BK325 := n2_; have GW325 := n3_; have GE325 := n4_; clear n0_ n1_ n2_ n3_ n4_; clear hb hbox hg; obtain ⟨Ao13, co13, eo13⟩ := Kd.S_slice HO324.out; subst eo13; have hcz14_0 : w12.cell? ⟨gb325, 0, none⟩ = some (.slice none 0 0) := (blk_cell BK325.out 0).trans rfl; have hfz14_0 := blk_frozen BK325.out 0) | (go_at_call 17; (with_reducible refine (impl_OrderOf.calls k _ _ t322 t326 t329 _ ?side1 ?side2 A4.out).mono ?_); (case side1 => refine (Kd.S_reads' (e := 31) (base := w.heap.size) (ok := fun k_ => True) (n := t322.length) (c := co13) ?_).2.2; exact (by (with_reducible repeat (first | apply Kd.S_alloc | apply Kd.S_drewN | apply Kd.S_drew)); exact (Kd.S_mono (Kd.S_far (p := ⟨gb325, 0, none⟩) (Kd.S_types HO324.out BK325.out (by decide)) (fun _ hk => hk.2) (.slice Ao13 t322.length co13)) (fun _ h_ => h_.1)))); (case side2 => exact (Kd.S_reads' HO324.out).2.1); rintro e w15 ⟨v327, rfl, ho0, hb⟩; have n0_ := Aside0.mk (Kd.S_elder' (by (with_reducible repeat (first | apply Kd.S_alloc | apply Kd.S_drewN | apply Kd.S_drew)); exact (Kd.S_mono (Kd.S_far (p := ⟨gb325, 0, none⟩) (Kd.S_types HO324.out BK325.out (by decide)) (fun _ hk => hk.2) (.slice Ao13 t322.length co13)) (fun _ h_ => h_.1))) (Kd.R_base ho0) hb); have n1_ := Aside0.mk (Kd.R_lower ho0 (below_size (by repeat (first | (with_reducible first | exact HB.out | apply below_alloc | apply pw_below_drewN | apply below_drew1 | refine below_set ?_ GE325.out) | exact HB.out)))); have n2_ := Aside0.mk (blk_below (g := gb325) (o := .cells #[.slice Ao13 t322.length co13] 27 (0, 0)) (by (with_reducible repeat (first | refine blk_drewN ?_ _ | refine blk_drew ?_ | refine blk_alloc ?_ _)); refine blk_put (cs := #[.slice none 0 0]) ?_ 0 _ rfl; (with_reducible repeat (first | refine blk_drewN ?_ _ | refine blk_drew ?_ | refine blk_alloc ?_ _)); exact BK325.out) hb); have n3_ := Aside0.mk (below_step (by repeat (first | (with_reducible first | exact HB.out | apply below_alloc | apply pw_below_drewN | apply below_drew1 | refine below_set ?_ GE325.out) | exact HB.out)) hb); clear HO324; clear BK325; clear HB; have HO324 := n0_; have HO328 := n1_; have BK325 := n2_; have HB := n3_; clear n0_ n1_ n2_ n3_; (try clear hb); (try clear hb2); (try clear hk); (try clear hi); (try clear ho0); have hcz16_0 : w15.cell? ⟨gb325, 0, none⟩ = some (.slice Ao13 t322.length co13) := (blk_cell BK325.out 0).trans rfl; have hfz16_0 := blk_frozen BK325.out 0) | (go_at_call 16; (with_reducible refine (spec_OrderOf.calls k _ _ t322 t330 t333 _ ?side1 ?side2 A5.out).mono ?_); (case side1 => repeat (first | exact (Kd.S_reads' HO324.out).2.2 | (with_reducible refine Kd.C_alloc ?_ _) | (with_reducible refine Kd.C_drewN ?_ _) | (with_reducible refine Kd.C_drew ?_))); (case side2 => exact (Kd.S_reads' HO324.out).2.1); rintro e w17 ⟨v331, rfl, ho0, hb⟩; have n0_ := Aside0.mk (Kd.S_elder' (by (with_reducible repeat (first | apply Kd.S_alloc | apply Kd.S_drewN | apply Kd.S_drew)); exact HO324.out) (Kd.R_base ho0) hb); have n1_ := Aside0.mk (Kd.R_elder' (by (with_reducible repeat (first | apply Kd.R_alloc | apply Kd.R_drewN | apply Kd.R_drew)); exact HO328.out) (Kd.R_base ho0) hb); have n2_ := Aside0.mk (Kd.R_lower (Kd.R_new' ho0 (Kd.R_lt (by (with_reducible repeat (first | apply Kd.R_alloc | apply Kd.R_drewN | apply Kd.R_drew)); exact HO328.out))) (below_size (by repeat (first | (with_reducible first | exact HB.out | apply below_alloc | apply pw_below_drewN | apply below_drew1 | refine below_set ?_ GE325.out) | exact HB.out)))); have n3_ := Aside0.mk (blk_below (g := gb325) (o := .cells #[.slice Ao13 t322.length co13] 27 (0, 0)) (by (with_reducible repeat (first | refine blk_drewN ?_ _ | refine blk_drew ?_ | refine blk_alloc ?_ _)); exact BK325.out) hb); have n4_ := Aside0.mk (below_step (by repeat (first | (with_reducible first | exact HB.out | apply below_alloc | apply pw_below_drewN | apply below_drew1 | refine below_set ?_ GE325.out) | exact HB.out)) hb); clear HO324; clear HO328; clear BK325; clear HB; have HO324 := n0_; have HO328 := n1_; have HO332 := n2_; have BK325 := n3_; have HB := n4_; clear n0_ n1_ n2_ n3_ n4_; (try clear hb); (try clear hb2); (try clear hk); (try clear hi); (try clear ho0); have hcz18_0 : w17.cell? ⟨gb325, 0, none⟩ = some (.slice Ao13 t322.length co13) := (blk_cell BK325.out 0).trans rfl; have hfz18_0 := blk_frozen BK325.out 0) | (go_at_call 25; (with_reducible refine (impl_DominatorsIn.calls k _ _ t322 t334 t337 _ ?side1 ?side2 A6.out).mono ?_); (case side1 => repeat (first | exact (Kd.S_reads' HO324.out).2.2 | (with_reducible refine Kd.C_alloc ?_ _) | (with_reducible refine Kd.C_drewN ?_ _) | (with_reducible refine Kd.C_drew ?_))); (case side2 => exact (Kd.S_reads' HO324.out).2.1); rintro e w19 ⟨v335, rfl, ho0, hb⟩; have n0_ := Aside0.mk (Kd.S_elder' (by (with_reducible repeat (first | apply Kd.S_alloc | apply Kd.S_drewN | apply Kd.S_drew)); exact HO324.out) (Kd.S_base ho0) hb); have n1_ := Aside0.mk (Kd.R_below (by (with_reducible repeat (first | apply Kd.R_alloc | apply Kd.R_drewN | apply Kd.R_drew)); exact HO328.out) hb); have n2_ := Aside0.mk (Kd.R_below (by (with_reducible repeat (first | apply Kd.R_alloc | apply Kd.R_drewN | apply Kd.R_drew)); exact HO332.out) hb); have n3_ := Aside0.mk (Kd.S_lower (Kd.S_new' (Kd.S_new' (Kd.S_new' ho0 (Kd.S_lt (by (with_reducible repeat (first | apply Kd.S_alloc | apply Kd.S_drewN | apply Kd.S_drew)); exact HO324.out))) (Kd.R_lt (by (with_reducible repeat (first | apply Kd.R_alloc | apply Kd.R_drewN | apply Kd.R_drew)); exact HO328.out))) (Kd.R_lt (by (with_reducible repeat (first | apply Kd.R_alloc | apply Kd.R_drewN | apply Kd.R_drew)); exact HO332.out))) (below_size (by repeat (first | (with_reducible first | exact HB.out | apply below_alloc | apply pw_below_drewN | apply below_drew1 | refine below_set ?_ GE325.out) | exact HB.out)))); have n4_ := Aside0.mk (blk_below (g := gb325) (o := .cells #[.slice Ao13 t322.length co13] 27 (0, 0)) (by (with_reducible repeat (first | refine blk_drewN ?_ _ | refine blk_drew ?_ | refine blk_alloc ?_ _)); exact BK325.out) hb); have n5_ := Aside0.mk (below_step (by repeat (first | (with_reducible first | exact HB.out | apply below_alloc | apply pw_below_drewN | apply below_drew1 | refine below_set ?_ GE325.out) | exact HB.out)) hb); clear HO324; clear HO328; clear HO332; clear BK325; clear HB; have HO324 := n0_; have HO328 := n1_; have HO332 := n2_; have HO336 := n3_; have BK325 := n4_; have HB := n5_; clear n0_ n1_ n2_ n3_ n4_ n5_; (try clear hb); (try clear hb2); (try clear hk); (try clear hi); (try clear ho0); have hcz20_0 : w19.cell? ⟨gb325, 0, none⟩ = some (.slice Ao13 t322.length co13) := (blk_cell BK325.out 0).trans rfl; have hfz20_0 := blk_frozen BK325.out 0) | (go_at_call 24; (with_reducible refine (spec_DominatorsIn.calls k _ _ t322 t338 t341 _ ?side1 ?side2 A7.out).mono ?_); (case side1 => repeat (first | exact (Kd.S_reads' HO324.out).2.2 | (with_reducible refine Kd.C_alloc ?_ _) | (with_reducible refine Kd.C_drewN ?_ _) | (with_reducible refine Kd.C_drew ?_))); (case side2 => exact (Kd.S_reads' HO324.out).2.1); rintro e w21 ⟨v339, rfl, ho0, hb⟩; have n0_ := Aside0.mk (Kd.S_elder' (by (with_reducible repeat (first | apply Kd.S_alloc | apply Kd.S_drewN | apply Kd.S_drew)); exact HO324.out) (Kd.S_base ho0) hb); have n1_ := Aside0.mk (Kd.R_below (by (with_reducible repeat (first | apply Kd.R_alloc | apply Kd.R_drewN | apply Kd.R_drew)); exact HO328.out) hb); have n2_ := Aside0.mk (Kd.R_below (by (with_reducible repeat (first | apply Kd.R_alloc | apply Kd.R_drewN | apply Kd.R_drew)); exact HO332.out) hb); have n3_ := Aside0.mk (Kd.S_elder' (by (with_reducible repeat (first | apply Kd.S_alloc | apply Kd.S_drewN | apply Kd.S_drew)); exact HO336.out) (Kd.S_base ho0) hb); have n4_ := Aside0.mk (Kd.S_lower (Kd.S_new' (Kd.S_new' (Kd.S_new' (Kd.S_new' ho0 (Kd.S_lt (by (with_reducible repeat (first | apply Kd.S_alloc | apply Kd.S_drewN | apply Kd.S_drew)); exact HO324.out))) (Kd.R_lt (by (with_reducible repeat (first | apply Kd.R_alloc | apply Kd.R_drewN | apply Kd.R_drew)); exact HO328.out))) (Kd.R_lt (by (with_reducible repeat (first | apply Kd.R_alloc | apply Kd.R_drewN | apply Kd.R_drew)); exact HO332.out))) (Kd.S_lt (by (with_reducible repeat (first | apply Kd.S_alloc | apply Kd.S_drewN | apply Kd.S_drew)); exact HO336.out))) (below_size (by repeat (first | (with_reducible first | exact HB.out | apply below_alloc | apply pw_below_drewN | apply below_drew1 | refine below_set ?_ GE325.out) | exact HB.out)))); have n5_ := Aside0.mk (blk_below (g := gb325) (o := .cells #[.slice Ao13 t322.length co13] 27 (0, 0)) (by (with_reducible repeat (first | refine blk_drewN ?_ _ | refine blk_drew ?_ | refine blk_alloc ?_ _)); exact BK325.out) hb); have n6_ := Aside0.mk (below_step (by repeat (first | (with_reducible first | exact HB.out | apply below_alloc | apply pw_below_drewN | apply below_drew1 | refine below_set ?_ GE325.out) | exact HB.out)) hb); clear HO324; clear HO328; clear HO332; clear HO336; clear BK325; clear HB; have HO324 := n0_; have HO328 := n1_; have HO332 := n2_; have HO336 := n3_; have HO340 := n4_; have BK325 := n5_; have HB := n6_; clear n0_ n1_ n2_ n3_ n4_ n5_ n6_; (try clear hb); (try clear hb2); (try clear hk); (try clear hi); (try clear ho0); have hcz22_0 : w21.cell? ⟨gb325, 0, none⟩ = some (.slice Ao13 t322.length co13) := (blk_cell BK325.out 0).trans rfl; have hfz22_0 := blk_frozen BK325.out 0) | (go_at_call 32; (with_reducible refine (impl_BackEdgesIn.calls k _ _ t322 t342 t345 _ ?side1 ?side2 A8.out).mono ?_); (case side1 => repeat (first | exact (Kd.S_reads' HO324.out).2.2 | (with_reducible refine Kd.C_alloc ?_ _) | (with_reducible refine Kd.C_drewN ?_ _) | (with_reducible refine Kd.C_drew ?_))); (case side2 => exact (Kd.S_reads' HO324.out).2.1); rintro e w23 ⟨v343, rfl, ho0, hb⟩; have n0_ := Aside0.mk (Kd.S_elder' (by (with_reducible repeat (first | apply Kd.S_alloc | apply Kd.S_drewN | apply Kd.S_drew)); exact HO324.out) (Kd.S_base ho0) hb); have n1_ := Aside0.mk (Kd.R_below (by (with_reducible repeat (first | apply Kd.R_alloc | apply Kd.R_drewN | apply Kd.R_drew)); exact HO328.out) hb); have n2_ := Aside0.mk (Kd.R_below (by (with_reducible repeat (first | apply Kd.R_alloc | apply Kd.R_drewN | apply Kd.R_drew)); exact HO332.out) hb); have n3_ := Aside0.mk (Kd.S_elder' (by (with_reducible repeat (first | apply Kd.S_alloc | apply Kd.S_drewN | apply Kd.S_drew)); exact HO336.out) (Kd.S_base ho0) hb); have n4_ := Aside0.mk (Kd.S_elder' (by (with_reducible repeat (first | apply Kd.S_alloc | apply Kd.S_drewN | apply Kd.S_drew)); exact HO340.out) (Kd.S_base ho0) hb); have n5_ := Aside0.mk (Kd.S_lower (Kd.S_new' (Kd.S_new' (Kd.S_new' (Kd.S_new' (Kd.S_new' ho0 (Kd.S_lt (by (with_reducible repeat (first | apply Kd.S_alloc | apply Kd.S_drewN | apply Kd.S_drew)); exact HO324.out))) (Kd.R_lt (by (with_reducible repeat (first | apply Kd.R_alloc | apply Kd.R_drewN | apply Kd.R_drew)); exact HO328.out))) (Kd.R_lt (by (with_reducible repeat (first | apply Kd.R_alloc | apply Kd.R_drewN | apply Kd.R_drew)); exact HO332.out))) (Kd.S_lt (by (with_reducible repeat (first | apply Kd.S_alloc | apply Kd.S_drewN | apply Kd.S_drew)); exact HO336.out))) (Kd.S_lt (by (with_reducible repeat (first | apply Kd.S_alloc | apply Kd.S_drewN | apply Kd.S_drew)); exact HO340.out))) (below_size (by repeat (first | (with_reducible first | exact HB.out | apply below_alloc | apply pw_below_drewN | apply below_drew1 | refine below_set ?_ GE325.out) | exact HB.out)))); have n6_ := Aside0.mk (blk_below (g := gb325) (o := .cells #[.slice Ao13 t322.length co13] 27 (0, 0)) (by (with_reducible repeat (first | refine blk_drewN ?_ _ | refine blk_drew ?_ | refine blk_alloc ?_ _)); exact BK325.out) hb); have n7_ := Aside0.mk (below_step (by repeat (first | (with_reducible first | exact HB.out | apply below_alloc | apply pw_below_drewN | apply below_drew1 | refine below_set ?_ GE325.out) | exact HB.out)) hb); clear HO324; clear HO328; clear HO332; clear HO336; clear HO340; clear BK325; clear HB; have HO324 := n0_; have HO328 := n1_; have HO332 := n2_; have HO336 := n3_; have HO340 := n4_; have HO344 := n5_; have BK325 := n6_; have HB := n7_; clear n0_ n1_ n2_ n3_ n4_ n5_ n6_ n7_; (try clear hb); (try clear hb2); (try clear hk); (try clear hi); (try clear ho0); have hcz24_0 : w23.cell? ⟨gb325, 0, none⟩ = some (.slice Ao13 t322.length co13) := (blk_cell BK325.out 0).trans rfl; have hfz24_0 := blk_frozen BK325.out 0) | (go_at_call 31; (with_reducible refine (spec_BackEdgesIn.calls k _ _ t322 t346 t349 _ ?side1 ?side2 A9.out).mono ?_); (case side1 => repeat (first | exact (Kd.S_reads' HO324.out).2.2 | (with_reducible refine Kd.C_alloc ?_ _) | (with_reducible refine Kd.C_drewN ?_ _) | (with_reducible refine Kd.C_drew ?_))); (case side2 => exact (Kd.S_reads' HO324.out).2.1); rintro e w25 ⟨v347, rfl, ho0, hb⟩; have n0_ := Aside0.mk (Kd.S_elder' (by (with_reducible repeat (first | apply Kd.S_alloc | apply Kd.S_drewN | apply Kd.S_drew)); exact HO324.out) (Kd.S_base ho0) hb); have n1_ := Aside0.mk (Kd.R_below (by (with_reducible repeat (first | apply Kd.R_alloc | apply Kd.R_drewN | apply Kd.R_drew)); exact HO328.out) hb); have n2_ := Aside0.mk (Kd.R_below (by (with_reducible repeat (first | apply Kd.R_alloc | apply Kd.R_drewN | apply Kd.R_drew)); exact HO332.out) hb); have n3_ := Aside0.mk (Kd.S_elder' (by (with_reducible repeat (first | apply Kd.S_alloc | apply Kd.S_drewN | apply Kd.S_drew)); exact HO336.out) (Kd.S_base ho0) hb); have n4_ := Aside0.mk (Kd.S_elder' (by (with_reducible repeat (first | apply Kd.S_alloc | apply Kd.S_drewN | apply Kd.S_drew)); exact HO340.out) (Kd.S_base ho0) hb); have n5_ := Aside0.mk (Kd.S_elder' (by (with_reducible repeat (first | apply Kd.S_alloc | apply Kd.S_drewN | apply Kd.S_drew)); exact HO344.out) (Kd.S_base ho0) hb); have n6_ := Aside0.mk (Kd.S_lower (Kd.S_new' (Kd.S_new' (Kd.S_new' (Kd.S_new' (Kd.S_new' (Kd.S_new' ho0 (Kd.S_lt (by (with_reducible repeat (first | apply Kd.S_alloc | apply Kd.S_drewN | apply Kd.S_drew)); exact HO324.out))) (Kd.R_lt (by (with_reducible repeat (first | apply Kd.R_alloc | apply Kd.R_drewN | apply Kd.R_drew)); exact HO328.out))) (Kd.R_lt (by (with_reducible repeat (first | apply Kd.R_alloc | apply Kd.R_drewN | apply Kd.R_drew)); exact HO332.out))) (Kd.S_lt (by (with_reducible repeat (first | apply Kd.S_alloc | apply Kd.S_drewN | apply Kd.S_drew)); exact HO336.out))) (Kd.S_lt (by (with_reducible repeat (first | apply Kd.S_alloc | apply Kd.S_drewN | apply Kd.S_drew)); exact HO340.out))) (Kd.S_lt (by (with_reducible repeat (first | apply Kd.S_alloc | apply Kd.S_drewN | apply Kd.S_drew)); exact HO344.out))) (below_size (by repeat (first | (with_reducible first | exact HB.out | apply below_alloc | apply pw_below_drewN | apply below_drew1 | refine below_set ?_ GE325.out) | exact HB.out)))); have n7_ := Aside0.mk (blk_below (g := gb325) (o := .cells #[.slice Ao13 t322.length co13] 27 (0, 0)) (by (with_reducible repeat (first | refine blk_drewN ?_ _ | refine blk_drew ?_ | refine blk_alloc ?_ _)); exact BK325.out) hb); have n8_ := Aside0.mk (below_step (by repeat (first | (with_reducible first | exact HB.out | apply below_alloc | apply pw_below_drewN | apply below_drew1 | refine below_set ?_ GE325.out) | exact HB.out)) hb); clear HO324; clear HO328; clear HO332; clear HO336; clear HO340; clear HO344; clear BK325; clear HB; have HO324 := n0_; have HO328 := n1_; have HO332 := n2_; have HO336 := n3_; have HO340 := n4_; have HO344 := n5_; have HO348 := n6_; have BK325 := n7_; have HB := n8_; clear n0_ n1_ n2_ n3_ n4_ n5_ n6_ n7_ n8_; (try clear hb); (try clear hb2); (try clear hk); (try clear hi); (try clear ho0)))
    (try simp only [Act.put, List.setIfInBounds_toArray, List.set_cons_zero, List.set_cons_succ])
    as_aux_lemma =>
    go_cut [95] (fun v95 wc => ∃ (kq : Nat) (x95_9 : Bool), v95 = .bool x95_9 ∧ Aside0 (laws_FnGraphs.j0 kq t326 t329 t334 t342 x95_9 t322 = some r) ∧ Aside0 (kq ≤ k) ∧ Aside0 (Kd.R (Kd.int .i64) 3 wc w.heap.size (fun _ => True) v327 t326) ∧ Aside0 (Kd.S (Kd.slice 3 (Kd.int .i64)) 31 wc w.heap.size (fun k_ => some k_ ≠ (v327 : Value).ownBlock ∧ some k_ ≠ (v343 : Value).ownBlock ∧ some k_ ≠ ((.slice Ao13 t322.length co13) : Value).ownBlock) v335 t334) ∧ Aside0 (Kd.S (Kd.slice 3 (Kd.int .i64)) 31 wc w.heap.size (fun k_ => some k_ ≠ (v327 : Value).ownBlock ∧ some k_ ≠ (v335 : Value).ownBlock ∧ some k_ ≠ ((.slice Ao13 t322.length co13) : Value).ownBlock) v343 t342) ∧ Aside0 (Kd.S (Kd.slice 3 (Kd.int .i64)) 31 wc w.heap.size (fun k_ => some k_ ≠ (v327 : Value).ownBlock ∧ some k_ ≠ (v335 : Value).ownBlock ∧ some k_ ≠ (v343 : Value).ownBlock) (.slice Ao13 t322.length co13) t322) ∧ Aside0 (wc.heap[gb325]? = some (.cells #[(.slice Ao13 t322.length co13)] 27 (0, 0))) ∧ Aside0 (Below w.heap.size w wc))
    case first =>
      as_aux_lemma =>
      have H := HC10.out
      clear HC10
      by_cases c26 : (t329 != t333) = true
      · rw [if_pos c26] at H
        exact absurd H (by simp)
      · rw [if_neg c26] at H
        have c26b0 : (t329 != t333) = false := by simpa using c26
        (try (have c26b1 : decide (t329 = t333) = true := by simpa using c26))
        (try (have c26b2 : (t329 == t333) = true := by simpa using c26))
        clear c26
        (first | rw [c26b0] | (simp only [i64_w, i32_w]; rw [c26b0]) | skip)
        replace H := Option.bind_eq_some_iff.mp H
        obtain ⟨t350, A270, H⟩ := H
        replace H : (if t350 = true then (if (t337 != t341) = true then (none) else ((laws_sameLists.f k t334 t338).bind fun t351 => (if t351 = true then (if (t345 != t349) = true then (none) else ((laws_sameLists.f k t342 t346).bind fun t352 => (laws_FnGraphs.j0 k t326 t329 t334 t342 (!t352) t322))) else (none)))) else (none)) = some r := H
        have A27 := Aside0.mk A270
        clear A270
        by_cases c28 : t350 = true
        · subst c28
          have H1 : (if (t337 != t341) = true then (none) else ((laws_sameLists.f k t334 t338).bind fun t351 => (if t351 = true then (if (t345 != t349) = true then (none) else ((laws_sameLists.f k t342 t346).bind fun t352 => (laws_FnGraphs.j0 k t326 t329 t334 t342 (!t352) t322))) else (none)))) = some r := by rw [if_pos rfl] at H; exact H
          clear H
          have H := H1
          clear H1
          by_cases c29 : (t337 != t341) = true
          · rw [if_pos c29] at H
            exact absurd H (by simp)
          · rw [if_neg c29] at H
            have c29b0 : (t337 != t341) = false := by simpa using c29
            (try (have c29b1 : decide (t337 = t341) = true := by simpa using c29))
            (try (have c29b2 : (t337 == t341) = true := by simpa using c29))
            clear c29
            replace H := Option.bind_eq_some_iff.mp H
            obtain ⟨t351, A320, H⟩ := H
            replace H : (if t351 = true then (if (t345 != t349) = true then (none) else ((laws_sameLists.f k t342 t346).bind fun t352 => (laws_FnGraphs.j0 k t326 t329 t334 t342 (!t352) t322))) else (none)) = some r := H
            have A32 := Aside0.mk A320
            clear A320
            by_cases c33 : t351 = true
            · subst c33
              have H1 : (if (t345 != t349) = true then (none) else ((laws_sameLists.f k t342 t346).bind fun t352 => (laws_FnGraphs.j0 k t326 t329 t334 t342 (!t352) t322))) = some r := by rw [if_pos rfl] at H; exact H
              clear H
              have H := H1
              clear H1
              by_cases c34 : (t345 != t349) = true
              · rw [if_pos c34] at H
                exact absurd H (by simp)
              · rw [if_neg c34] at H
                have c34b0 : (t345 != t349) = false := by simpa using c34
                (try (have c34b1 : decide (t345 = t349) = true := by simpa using c34))
                (try (have c34b2 : (t345 == t349) = true := by simpa using c34))
                clear c34
                replace H := Option.bind_eq_some_iff.mp H
                obtain ⟨t352, A390, H⟩ := H
                replace H : (laws_FnGraphs.j0 k t326 t329 t334 t342 (!t352) t322) = some r := H
                have A39 := Aside0.mk A390
                clear A390
                have H' := Aside0.mk H
                clear H
                obtain ⟨Ao40, co40, eo40⟩ := Kd.R_slice HO328.out
                subst eo40
                obtain ⟨Ao41, co41, eo41⟩ := Kd.R_slice HO332.out
                subst eo41
                go_wp2_with (first | (go_at_call 37; (with_reducible refine (laws_sameInts.calls k _ _ t326 _ _ t330 true _ ?side1 ?side2 ?side3 ?side4 A27.out).mono ?_); (case side1 => repeat (first | exact (Kd.R_reads' HO328.out).2.2 | (with_reducible refine Kd.C_alloc ?_ _) | (with_reducible refine Kd.C_drewN ?_ _) | (with_reducible refine Kd.C_drew ?_))); (case side2 => exact (Kd.R_reads' HO328.out).2.1); (case side3 => repeat (first | exact (Kd.R_reads' HO332.out).2.2 | (with_reducible refine Kd.C_alloc ?_ _) | (with_reducible refine Kd.C_drewN ?_ _) | (with_reducible refine Kd.C_drew ?_))); (case side4 => exact (Kd.R_reads' HO332.out).2.1); rintro e w' ⟨rfl, ⟨nd, rfl⟩⟩; (try first | exact ⟨rfl, _, World.drewN_drewN _ _ _⟩ | exact ⟨rfl, _, Eq.trans (World.drewN_drewN _ _ _) (congrArg (World.drewN _) (Nat.add_assoc _ _ _))⟩); obtain ⟨Ao42, co42, eo42⟩ := Kd.S_slice HO336.out; subst eo42; obtain ⟨Ao43, co43, eo43⟩ := Kd.S_slice HO340.out; subst eo43) | (go_at_call 38; (with_reducible refine (laws_sameLists.calls k _ _ t334 _ _ t338 true _ ?side1 ?side2 ?side3 ?side4 A32.out).mono ?_); (case side1 => repeat (first | exact (Kd.S_reads' HO336.out).2.2 | (with_reducible refine Kd.C_alloc ?_ _) | (with_reducible refine Kd.C_drewN ?_ _) | (with_reducible refine Kd.C_drew ?_))); (case side2 => exact (Kd.S_reads' HO336.out).2.1); (case side3 => repeat (first | exact (Kd.S_reads' HO340.out).2.2 | (with_reducible refine Kd.C_alloc ?_ _) | (with_reducible refine Kd.C_drewN ?_ _) | (with_reducible refine Kd.C_drew ?_))); (case side4 => exact (Kd.S_reads' HO340.out).2.1); rintro e w' ⟨rfl, ⟨nd, rfl⟩⟩; (try first | exact ⟨rfl, _, World.drewN_drewN _ _ _⟩ | exact ⟨rfl, _, Eq.trans (World.drewN_drewN _ _ _) (congrArg (World.drewN _) (Nat.add_assoc _ _ _))⟩); obtain ⟨Ao44, co44, eo44⟩ := Kd.S_slice HO344.out; subst eo44; obtain ⟨Ao45, co45, eo45⟩ := Kd.S_slice HO348.out; subst eo45) | (go_at_call 38; (with_reducible refine (laws_sameLists.calls k _ _ t342 _ _ t346 t352 _ ?side1 ?side2 ?side3 ?side4 A39.out).mono ?_); (case side1 => repeat (first | exact (Kd.S_reads' HO344.out).2.2 | (with_reducible refine Kd.C_alloc ?_ _) | (with_reducible refine Kd.C_drewN ?_ _) | (with_reducible refine Kd.C_drew ?_))); (case side2 => exact (Kd.S_reads' HO344.out).2.1); (case side3 => repeat (first | exact (Kd.S_reads' HO348.out).2.2 | (with_reducible refine Kd.C_alloc ?_ _) | (with_reducible refine Kd.C_drewN ?_ _) | (with_reducible refine Kd.C_drew ?_))); (case side4 => exact (Kd.S_reads' HO348.out).2.1); rintro e w' ⟨rfl, ⟨nd, rfl⟩⟩; (try first | exact ⟨rfl, _, World.drewN_drewN _ _ _⟩ | exact ⟨rfl, _, Eq.trans (World.drewN_drewN _ _ _) (congrArg (World.drewN _) (Nat.add_assoc _ _ _))⟩)))
                go_meet
                case rel => exact ⟨_, (!t352), (by first | rfl | (simp; done) | (simp [*]; done)), H', ⟨by first | omega | exact Nat.le_refl _⟩, ⟨by (with_reducible repeat (first | apply Kd.R_alloc | apply Kd.R_drewN | apply Kd.R_drew)); exact Kd.R_mono HO328.out (fun _ hk => trivial)⟩, ⟨by (with_reducible repeat (first | apply Kd.S_alloc | apply Kd.S_drewN | apply Kd.S_drew)); exact Kd.S_mono HO336.out (fun _ hk => ⟨hk.1.1.1.1.2, ⟨hk.1.2, hk.1.1.1.1.1.2⟩⟩)⟩, ⟨by (with_reducible repeat (first | apply Kd.S_alloc | apply Kd.S_drewN | apply Kd.S_drew)); exact Kd.S_mono HO344.out (fun _ hk => ⟨hk.1.1.1.1.2, ⟨hk.1.1.2, hk.1.1.1.1.1.2⟩⟩)⟩, ⟨by (with_reducible repeat (first | apply Kd.S_alloc | apply Kd.S_drewN | apply Kd.S_drew)); exact Kd.S_mono HO324.out (fun _ hk => ⟨hk.1.1.1.1.1.2, ⟨hk.1.1.1.2, hk.1.2⟩⟩)⟩, ⟨by (with_reducible repeat (first | refine blk_drewN ?_ _ | refine blk_drew ?_ | refine blk_alloc ?_ _)); exact BK325.out⟩, ⟨by repeat (first | (with_reducible first | exact HB.out | apply below_alloc | apply pw_below_drewN | apply below_drew1 | refine below_set ?_ GE325.out) | exact HB.out)⟩⟩
            · replace c33 := Bool.eq_false_iff.mpr c33
              subst c33
              have H1 : (none) = some r := by rw [if_neg (show ¬ (false = true) by decide)] at H; exact H
              exact absurd H1 (by simp)
        · replace c28 := Bool.eq_false_iff.mpr c28
          subst c28
          have H1 : (none) = some r := by rw [if_neg (show ¬ (false = true) by decide)] at H; exact H
          exact absurd H1 (by simp)
    case rest =>
      as_aux_lemma =>
      clear HC10
      try clear c1
      try clear c2
      try clear c2b0
      try clear c2b1
      try clear p2
      try clear c3
      try clear c10
      try clear c26
      try clear c26b0
      try clear c26b1
      try clear c26b2
      try clear c28
      try clear c29
      try clear c29b0
      try clear c29b1
      try clear c29b2
      try clear c33
      try clear c34
      try clear c34b0
      try clear c34b1
      try clear c34b2
      try clear hcz14_0
      try clear hcz16_0
      try clear hcz18_0
      try clear hcz20_0
      try clear hcz22_0
      try clear hcz24_0
      try clear hfz14_0
      try clear hfz16_0
      try clear hfz18_0
      try clear hfz20_0
      try clear hfz22_0
      try clear hfz24_0
      obtain ⟨kq, x95_9, rfl, HA, HJ9, HO_4, HO_8, HO_12, HO_326000, BK325, HB⟩ := hcut
      cases kq with
      | zero => exact absurd HA.out (by simp [laws_FnGraphs.j0])
      | succ kj9 =>
        have H := HA.out
        clear HA
        simp only [laws_FnGraphs.j0] at H
        by_cases c52 : x95_9 = true
        · subst c52
          have H1 : (none) = some r := by rw [if_pos rfl] at H; exact H
          exact absurd H1 (by simp)
        · replace c52 := Bool.eq_false_iff.mpr c52
          subst c52
          have H1 : (if t329 = true then (if 0 ≤ (t322.length : Int) then (if ((t322.length : Int) : Int).toNat ≤ 35184372088832 then ((some (List.replicate ((t322.length : Int) : Int).toNat 0 : List Int)).bind fun y353 => (laws_FnGraphs.l0 kj9 t326 t334 t342 y353 (y353.length : Int) 0 t322)) else (none)) else (none)) else (some ((t326.length : Int) == 0))) = some r := by rw [if_neg (show ¬ (false = true) by decide)] at H; exact H
          clear H
          have H := H1
          clear H1
          by_cases c53 : t329 = true
          · subst c53
            have H1 : (if 0 ≤ (t322.length : Int) then (if ((t322.length : Int) : Int).toNat ≤ 35184372088832 then ((some (List.replicate ((t322.length : Int) : Int).toNat 0 : List Int)).bind fun y353 => (laws_FnGraphs.l0 kj9 t326 t334 t342 y353 (y353.length : Int) 0 t322)) else (none)) else (none)) = some r := by rw [if_pos rfl] at H; exact H
            clear H
            have H := H1
            clear H1
            by_cases c54 : 0 ≤ (t322.length : Int)
            · rw [if_pos c54] at H
              have c54b0 := eq_true c54
              have c54b1 : decide (0 ≤ (t322.length : Int)) = true := decide_eq_true c54
              clear c54
              by_cases c55 : ((t322.length : Int) : Int).toNat ≤ 35184372088832
              · rw [if_pos c55] at H
                have c55b0 := eq_true c55
                have c55b1 : decide (((t322.length : Int) : Int).toNat ≤ 35184372088832) = true := decide_eq_true c55
                clear c55
                obtain ⟨y353, hy353⟩ : ∃ y_ : List Int, y_ = (List.replicate ((t322.length : Int) : Int).toNat 0) := ⟨_, rfl⟩
                replace H : (laws_FnGraphs.l0 kj9 t326 t334 t342 y353 (y353.length : Int) 0 t322) = some r := by first | (rw [hy353]; with_reducible exact H) | (have H2_ := (Option.bind_some _ _).symm.trans H; rw [hy353]; with_reducible exact H2_) | (have H2_ := (Option.bind_some _ _).symm.trans H; with_reducible exact H2_) | with_reducible exact H | (rw [hy353]; exact H) | exact H
                have Ny353 := Aside0.mk hy353
                clear hy353
                have H' := Aside0.mk H
                clear H
                have hcz56_0 : wc.cell? ⟨gb325, 0, none⟩ = some (.slice Ao13 t322.length co13) := (blk_cell BK325.out 0).trans rfl
                have hfz56_0 := blk_frozen BK325.out 0
                go_wp2_with (first | ((with_reducible refine gate_dst (N := 104) rfl ?_); refine Kd.R_make (Kd.int .i64) _ 3 rfl (N := 104) rfl 31 _ _ rfl (t322.length : Int) rfl rfl Try.underlying31 (.int .i64 0) 8 info3 rfl (by decide) (by omega) 0 (ok := fun _ => True) (okp := fun _ => True) rfl (fun _ hk => hk) trivial (of_decide_eq_true (by first | (with_reducible assumption) | assumption)) (Nat.le_trans (Nat.mul_le_mul_right _ (of_decide_eq_true (by first | (with_reducible assumption) | assumption) : (t322.length : Int).toNat ≤ 35184372088832)) (by omega)) (Below.refl _ _) (Nat.le_refl _) ?_; intro v354 w57 ho58 hb hg_ hnew_; clear hg_ hnew_; (first | rw [← Ny353.out] at ho58 | (simp only [Int.reduceToNat] at ho58; rw [← Ny353.out] at ho58)); have n0_ := Aside0.mk (Kd.R_elder' (by (with_reducible repeat (first | apply Kd.R_alloc | apply Kd.R_drewN | apply Kd.R_drew)); exact HO_4.out) (Kd.R_base ho58) hb); have n1_ := Aside0.mk (Kd.S_elder' (by (with_reducible repeat (first | apply Kd.S_alloc | apply Kd.S_drewN | apply Kd.S_drew)); exact HO_8.out) (Kd.R_base ho58) hb); have n2_ := Aside0.mk (Kd.S_elder' (by (with_reducible repeat (first | apply Kd.S_alloc | apply Kd.S_drewN | apply Kd.S_drew)); exact HO_12.out) (Kd.R_base ho58) hb); have n3_ := Aside0.mk (Kd.S_elder' (by (with_reducible repeat (first | apply Kd.S_alloc | apply Kd.S_drewN | apply Kd.S_drew)); exact HO_326000.out) (Kd.R_base ho58) hb); have n4_ := Aside0.mk (Kd.R_lower (Kd.R_new' ho58 (Kd.R_lt (by (with_reducible repeat (first | apply Kd.R_alloc | apply Kd.R_drewN | apply Kd.R_drew)); exact HO_4.out))) (below_size (by repeat (first | (with_reducible first | exact HB.out | apply below_alloc | apply pw_below_drewN | apply below_drew1 | refine below_set ?_ GE325.out) | exact HB.out)))); have n5_ := Aside0.mk (blk_below (g := gb325) (o := .cells #[.slice Ao13 t322.length co13] 27 (0, 0)) (by (with_reducible repeat (first | refine blk_drewN ?_ _ | refine blk_drew ?_ | refine blk_alloc ?_ _)); exact BK325.out) hb); have n6_ := Aside0.mk (below_step (by repeat (first | (with_reducible first | exact HB.out | apply below_alloc | apply pw_below_drewN | apply below_drew1 | refine below_set ?_ GE325.out) | exact HB.out)) hb); clear HO_4; clear HO_8; clear HO_12; clear HO_326000; clear BK325; clear HB; have HO_4 := n0_; have HO_8 := n1_; have HO_12 := n2_; have HO_326000 := n3_; have HO355 := n4_; have BK325 := n5_; have HB := n6_; clear n0_ n1_ n2_ n3_ n4_ n5_ n6_; clear hb ho58; obtain ⟨Ao59, co59, eo59⟩ := Kd.R_slice HO355.out; subst eo59))
                go_loopg [107] kj9 (fun kq v107 w' => ∃ (x16_2 : List Int) (x107_2 : Int), v107 = .int .i64 x107_2 ∧ Aside0 (laws_FnGraphs.l0 kq t326 t334 t342 x16_2 (y353.length : Int) x107_2 t322 = some r) ∧ Aside0 (kq ≤ kj9) ∧ Aside0 (Kd.R (Kd.int .i64) 3 w' w.heap.size (fun k_ => some k_ ≠ ((.slice Ao59 y353.length co59) : Value).ownBlock) v327 t326) ∧ Aside0 (Kd.S (Kd.slice 3 (Kd.int .i64)) 31 w' w.heap.size (fun k_ => some k_ ≠ (v327 : Value).ownBlock ∧ some k_ ≠ (v343 : Value).ownBlock ∧ some k_ ≠ ((.slice Ao59 y353.length co59) : Value).ownBlock ∧ some k_ ≠ ((.slice Ao13 t322.length co13) : Value).ownBlock) v335 t334) ∧ Aside0 (Kd.S (Kd.slice 3 (Kd.int .i64)) 31 w' w.heap.size (fun k_ => some k_ ≠ (v327 : Value).ownBlock ∧ some k_ ≠ (v335 : Value).ownBlock ∧ some k_ ≠ ((.slice Ao59 y353.length co59) : Value).ownBlock ∧ some k_ ≠ ((.slice Ao13 t322.length co13) : Value).ownBlock) v343 t342) ∧ Aside0 (Kd.R (Kd.int .i64) 3 w' w.heap.size (fun k_ => some k_ ≠ (v327 : Value).ownBlock) (.slice Ao59 y353.length co59) x16_2) ∧ Aside0 (Kd.S (Kd.slice 3 (Kd.int .i64)) 31 w' w.heap.size (fun k_ => some k_ ≠ (v327 : Value).ownBlock ∧ some k_ ≠ (v335 : Value).ownBlock ∧ some k_ ≠ (v343 : Value).ownBlock ∧ some k_ ≠ ((.slice Ao59 y353.length co59) : Value).ownBlock) (.slice Ao13 t322.length co13) t322) ∧ Aside0 (w'.heap[gb325]? = some (.cells #[(.slice Ao13 t322.length co13)] 27 (0, 0))) ∧ Aside0 (Below w.heap.size w w'))
                case atStart => exact ⟨(y353), (0), (by first | rfl | (simp; done) | (simp [*]; done)), H', ⟨Nat.le_refl _⟩, ⟨by (with_reducible repeat (first | apply Kd.R_alloc | apply Kd.R_drewN | apply Kd.R_drew)); exact Kd.R_mono HO_4.out (fun _ hk => hk.2)⟩, ⟨by (with_reducible repeat (first | apply Kd.S_alloc | apply Kd.S_drewN | apply Kd.S_drew)); exact Kd.S_mono HO_8.out (fun _ hk => ⟨hk.1.1, ⟨hk.1.2.1, ⟨hk.2, hk.1.2.2⟩⟩⟩)⟩, ⟨by (with_reducible repeat (first | apply Kd.S_alloc | apply Kd.S_drewN | apply Kd.S_drew)); exact Kd.S_mono HO_12.out (fun _ hk => ⟨hk.1.1, ⟨hk.1.2.1, ⟨hk.2, hk.1.2.2⟩⟩⟩)⟩, ⟨by (with_reducible repeat (first | apply Kd.R_alloc | apply Kd.R_drewN | apply Kd.R_drew)); exact Kd.R_mono HO355.out (fun _ hk => hk.2)⟩, ⟨by (with_reducible repeat (first | apply Kd.S_alloc | apply Kd.S_drewN | apply Kd.S_drew)); exact Kd.S_mono HO_326000.out (fun _ hk => ⟨hk.1.1, ⟨hk.1.2.1, ⟨hk.1.2.2, hk.2⟩⟩⟩)⟩, ⟨by (with_reducible repeat (first | refine blk_drewN ?_ _ | refine blk_drew ?_ | refine blk_alloc ?_ _)); exact BK325.out⟩, ⟨by repeat (first | (with_reducible first | exact HB.out | apply below_alloc | apply pw_below_drewN | apply below_drew1 | refine below_set ?_ GE325.out) | exact HB.out)⟩⟩
                case round =>
                  as_aux_lemma =>
                  clear H'
                  try clear c1
                  try clear c2
                  try clear c2b0
                  try clear c2b1
                  try clear p2
                  try clear c3
                  try clear c5
                  try clear c10
                  try clear c26
                  try clear c26b0
                  try clear c26b1
                  try clear c26b2
                  try clear c28
                  try clear c29
                  try clear c29b0
                  try clear c29b1
                  try clear c29b2
                  try clear c33
                  try clear c34
                  try clear c34b0
                  try clear c34b1
                  try clear c34b2
                  try clear c52
                  try clear c53
                  try clear c54
                  try clear c54b0
                  try clear c54b1
                  try clear c55
                  try clear c55b0
                  try clear c55b1
                  try clear hcz14_0
                  try clear hcz16_0
                  try clear hcz18_0
                  try clear hcz20_0
                  try clear hcz22_0
                  try clear hcz24_0
                  try clear hcz56_0
                  try clear hfz14_0
                  try clear hfz16_0
                  try clear hfz18_0
                  try clear hfz20_0
                  try clear hfz22_0
                  try clear hfz24_0
                  try clear hfz56_0
                  try clear p2
                  obtain ⟨x16_2, x107_2, rfl, HA, HK2, HO_4, HO_8, HO_12, HO_16, HO_326000, BK325, HB⟩ := hrel
                  have hl16_2 := (Kd.R_reads' HO_16.out).1
                  rw [hl16_2] at HO_16
                  (try simp only [hl16_2])
                  (try simp only [hl16_2] at BK325)
                  (try simp only [hl16_2] at HO_4)
                  (try simp only [hl16_2] at HO_8)
                  (try simp only [hl16_2] at HO_12)
                  (try simp only [hl16_2] at HO_326000)
                  cases gk with
                  | zero => exact absurd HA.out (by simp [laws_FnGraphs.l0])
                  | succ k2 =>
                    have H := HA.out
                    clear HA
                    simp only [laws_FnGraphs.l0] at H
                    by_cases c60 : x107_2 < (y353.length : Int)
                    · rw [if_pos c60] at H
                      have c60b0 : decide (x107_2 < (y353.length : Int)) = true := decide_eq_true c60
                      (try (have c60b0_h := c60b0; rw [hl16_2] at c60b0_h))
                      clear c60
                      by_cases c61 : 0 ≤ x107_2
                      · rw [if_pos c61] at H
                        have c61b0 : decide (0 ≤ x107_2) = true := decide_eq_true c61
                        clear c61
                        by_cases c62 : x107_2 < (x16_2.length : Int)
                        · rw [if_pos c62] at H
                          have c62b0 : decide (x107_2 < (x16_2.length : Int)) = true := decide_eq_true c62
                          (try (have c62b0_h := c62b0; rw [hl16_2] at c62b0_h))
                          clear c62
                          obtain ⟨y356, hy356⟩ : ∃ y_ : List Int, y_ = (x16_2.set (x107_2 : Int).toNat (-1)) := ⟨_, rfl⟩
                          replace H : (laws_FnGraphs.l0 k2 t326 t334 t342 y356 (y353.length : Int) (wrap64 (x107_2 + 1)) t322) = some r := by first | (rw [hy356]; with_reducible exact H) | (have H2_ := (Option.bind_some _ _).symm.trans H; rw [hy356]; with_reducible exact H2_) | (have H2_ := (Option.bind_some _ _).symm.trans H; with_reducible exact H2_) | with_reducible exact H | (rw [hy356]; exact H) | exact H
                          have Ny356 := Aside0.mk hy356
                          clear hy356
                          have H' := Aside0.mk H
                          clear H
                          have p63 : 0 ≤ (x107_2 : Int) := of_decide_eq_true (by first | (with_reducible assumption) | assumption)
                          have q63 : (x107_2 : Int) < ((x16_2.length : Int) : Int) := of_decide_eq_true (by first | (with_reducible assumption) | assumption)
                          obtain ⟨go63, co63, eo63, gb63, gl63, cl63, HG63⟩ := Kd.R_form HO_16.out (by omega)
                          (first | cases eo63 | (injection eo63 with ea_ en_ ec_; (first | subst ea_ | (injection ea_ with ea_; subst ea_)); subst ec_; clear en_))
                          have GB63 := Aside0.mk gb63
                          have GG63 := Aside0.mk HG63
                          clear gb63 gl63 HG63
                          obtain ⟨hx63_0, hf63_0⟩ := Kd.R_celln 0 HO_16.out (x107_2 : Int) p63 q63
                          replace p63 := eq_true p63
                          replace q63 := eq_true q63
                          have HP64 := Kd.R_putg HO_16.out (x107_2 : Int) (-1)
                          go_wp2_with (first | ((with_reducible refine gate_store (t := 3) (p := 112) rfl ?_); (try (rw [drewN_self wr]; generalize hq_ : World.drewN wr _ = wr; have n0_ := Aside0.mk (Kd.R_at hq_ HO_4.out); have n1_ := Aside0.mk (Kd.S_at hq_ HO_8.out); have n2_ := Aside0.mk (Kd.S_at hq_ HO_12.out); have n3_ := Aside0.mk (Kd.R_at hq_ HO_16.out); have n4_ := Aside0.mk (Kd.S_at hq_ HO_326000.out); have n5_ := Aside0.mk (blk_at hq_ BK325.out); have n6_ := Aside0.mk (below_at hq_ HB.out); clear hq_ HO_4 HO_8 HO_12 HO_16 HO_326000 BK325 HB; have HO_4 := n0_; have HO_8 := n1_; have HO_12 := n2_; have HO_16 := n3_; have HO_326000 := n4_; have BK325 := n5_; have HB := n6_; clear n0_ n1_ n2_ n3_ n4_ n5_ n6_; (try (have HP64 := Kd.R_putg HO_16.out (x107_2 : Int) (-1))))); refine store_event (t := 3) (p := 112) (v := ?vo_w65) (w1 := (wr.setCell ⟨go63, (x107_2 : Int).toNat, none⟩ (.int .i64 (-1)))) ?hg ?ho ?hn ?hr ?_; (case ho => rfl); (case hg => rfl); (case hn => rfl); (case hr => first | (go_simp; done) | (go_simp; rfl)); intro w65 hw; have hg : wr.grownBy w65 (some go63) := (by rw [hw]; exact HP64.2); have hp_ : Kd.R (Kd.int .i64) 3 w65 w.heap.size (fun k_ => some k_ ≠ (v327 : Value).ownBlock) (.slice (some ⟨go63, 0, none⟩) x16_2.length co59) y356 := (by rw [hw, Ny356.out]; exact HP64.1); clear HP64; have n0_ := Aside0.mk (Kd.R_after (v := (.slice (some ⟨go63, 0, none⟩) x16_2.length co59)) (v1 := (.slice (some ⟨go63, 0, none⟩) x16_2.length co59)) (ok := (fun _ => True)) (by (with_reducible repeat (first | apply Kd.R_alloc | apply Kd.R_drewN | apply Kd.R_drew)); exact Kd.R_mono HO_4.out (fun _ hk => ⟨trivial, hk⟩)) hg (.inl rfl)); have n1_ := Aside0.mk (Kd.S_after (v := (.slice (some ⟨go63, 0, none⟩) x16_2.length co59)) (v1 := (.slice (some ⟨go63, 0, none⟩) x16_2.length co59)) (ok := (fun k_ => some k_ ≠ (v327 : Value).ownBlock ∧ some k_ ≠ (v343 : Value).ownBlock ∧ some k_ ≠ (.slice Ao13 t322.length co13 : Value).ownBlock)) (by (with_reducible repeat (first | apply Kd.S_alloc | apply Kd.S_drewN | apply Kd.S_drew)); exact Kd.S_mono HO_8.out (fun _ hk => ⟨⟨hk.1, ⟨hk.2.1, hk.2.2.2⟩⟩, hk.2.2.1⟩)) hg (.inl rfl)); have n2_ := Aside0.mk (Kd.S_after (v := (.slice (some ⟨go63, 0, none⟩) x16_2.length co59)) (v1 := (.slice (some ⟨go63, 0, none⟩) x16_2.length co59)) (ok := (fun k_ => some k_ ≠ (v327 : Value).ownBlock ∧ some k_ ≠ (v335 : Value).ownBlock ∧ some k_ ≠ (.slice Ao13 t322.length co13 : Value).ownBlock)) (by (with_reducible repeat (first | apply Kd.S_alloc | apply Kd.S_drewN | apply Kd.S_drew)); exact Kd.S_mono HO_12.out (fun _ hk => ⟨⟨hk.1, ⟨hk.2.1, hk.2.2.2⟩⟩, hk.2.2.1⟩)) hg (.inl rfl)); have n3_ := Aside0.mk (hp_); have n4_ := Aside0.mk (Kd.S_after (v := (.slice (some ⟨go63, 0, none⟩) x16_2.length co59)) (v1 := (.slice (some ⟨go63, 0, none⟩) x16_2.length co59)) (ok := (fun k_ => some k_ ≠ (v327 : Value).ownBlock ∧ some k_ ≠ (v335 : Value).ownBlock ∧ some k_ ≠ (v343 : Value).ownBlock)) (by (with_reducible repeat (first | apply Kd.S_alloc | apply Kd.S_drewN | apply Kd.S_drew)); exact Kd.S_mono HO_326000.out (fun _ hk => ⟨⟨hk.1, ⟨hk.2.1, hk.2.2.1⟩⟩, hk.2.2.2⟩)) hg (.inl rfl)); have n5_ := Aside0.mk (blk_grown (g := gb325) (o := .cells #[.slice Ao13 t322.length co13] 27 (0, 0)) (by (with_reducible repeat (first | refine blk_drewN ?_ _ | refine blk_drew ?_ | refine blk_alloc ?_ _)); exact BK325.out) hg (Kd.R_ne HO_16.out BK325.out (by decide))); have n6_ := Aside0.mk ((by rw [hw]; exact below_set (HB.out) GB63.out : Below w.heap.size w w65)); clear HO_4; clear HO_8; clear HO_12; clear HO_16; clear HO_326000; clear BK325; clear HB; have HO_4 := n0_; have HO_8 := n1_; have HO_12 := n2_; have HO_16 := n3_; have HO_326000 := n4_; have BK325 := n5_; have HB := n6_; clear n0_ n1_ n2_ n3_ n4_ n5_ n6_; clear hg hw hp_))
                          (try simp only [← hl16_2])
                          go_roundg k2
                          case measure => have := HJ9.out; have := HK2.out; omega
                          case rel => exact ⟨(y356), (wrap64 (x107_2 + 1)), (by first | rfl | (simp; done) | (simp [*]; done)), H', ⟨by have := HJ9.out; have := HK2.out; omega⟩, ⟨by (try simp only [hl16_2]); (with_reducible repeat (first | apply Kd.R_alloc | apply Kd.R_drewN | apply Kd.R_drew)); exact Kd.R_mono HO_4.out (fun _ hk => hk.2)⟩, ⟨by (try simp only [hl16_2]); (with_reducible repeat (first | apply Kd.S_alloc | apply Kd.S_drewN | apply Kd.S_drew)); exact Kd.S_mono HO_8.out (fun _ hk => ⟨hk.1.1, ⟨hk.1.2.1, ⟨hk.2, hk.1.2.2⟩⟩⟩)⟩, ⟨by (try simp only [hl16_2]); (with_reducible repeat (first | apply Kd.S_alloc | apply Kd.S_drewN | apply Kd.S_drew)); exact Kd.S_mono HO_12.out (fun _ hk => ⟨hk.1.1, ⟨hk.1.2.1, ⟨hk.2, hk.1.2.2⟩⟩⟩)⟩, ⟨by (try simp only [hl16_2]); (with_reducible repeat (first | apply Kd.R_alloc | apply Kd.R_drewN | apply Kd.R_drew)); exact HO_16.out⟩, ⟨by (try simp only [hl16_2]); (with_reducible repeat (first | apply Kd.S_alloc | apply Kd.S_drewN | apply Kd.S_drew)); exact Kd.S_mono HO_326000.out (fun _ hk => ⟨hk.1.1, ⟨hk.1.2.1, ⟨hk.1.2.2, hk.2⟩⟩⟩)⟩, ⟨by (try simp only [hl16_2]); (with_reducible repeat (first | refine blk_drewN ?_ _ | refine blk_drew ?_ | refine blk_alloc ?_ _)); exact BK325.out⟩, ⟨by repeat (first | (with_reducible first | exact HB.out | apply below_alloc | apply pw_below_drewN | apply below_drew1 | refine below_set ?_ GE325.out) | exact HB.out)⟩⟩
                        · rw [if_neg c62] at H
                          exact absurd H (by simp)
                      · rw [if_neg c61] at H
                        exact absurd H (by simp)
                    · rw [if_neg c60] at H
                      have c60b0 : decide (x107_2 < (y353.length : Int)) = false := decide_eq_false c60
                      (try (have c60b0_h := c60b0; rw [hl16_2] at c60b0_h))
                      clear c60
                      have H' := Aside0.mk H
                      clear H
                      obtain ⟨Ao66, co66, eo66⟩ := Kd.R_slice HO_4.out
                      subst eo66
                      go_wp2
                      go_loopg [116] k2 (fun kq v116 w' => ∃ (x16_3 : List Int) (x116_3 : Int), v116 = .int .i64 x116_3 ∧ Aside0 (laws_FnGraphs.l1 kq t326 t334 t342 x16_3 t326 (t326.length : Int) x116_3 t322 = some r) ∧ Aside0 (kq ≤ k2) ∧ Aside0 (Kd.R (Kd.int .i64) 3 w' w.heap.size (fun k_ => some k_ ≠ ((.slice Ao59 x16_2.length co59) : Value).ownBlock) (.slice Ao66 t326.length co66) t326) ∧ Aside0 (Kd.S (Kd.slice 3 (Kd.int .i64)) 31 w' w.heap.size (fun k_ => some k_ ≠ ((.slice Ao66 t326.length co66) : Value).ownBlock ∧ some k_ ≠ (v343 : Value).ownBlock ∧ some k_ ≠ ((.slice Ao59 x16_2.length co59) : Value).ownBlock ∧ some k_ ≠ ((.slice Ao66 t326.length co66) : Value).ownBlock ∧ some k_ ≠ ((.slice Ao13 t322.length co13) : Value).ownBlock) v335 t334) ∧ Aside0 (Kd.S (Kd.slice 3 (Kd.int .i64)) 31 w' w.heap.size (fun k_ => some k_ ≠ ((.slice Ao66 t326.length co66) : Value).ownBlock ∧ some k_ ≠ (v335 : Value).ownBlock ∧ some k_ ≠ ((.slice Ao59 x16_2.length co59) : Value).ownBlock ∧ some k_ ≠ ((.slice Ao66 t326.length co66) : Value).ownBlock ∧ some k_ ≠ ((.slice Ao13 t322.length co13) : Value).ownBlock) v343 t342) ∧ Aside0 (Kd.R (Kd.int .i64) 3 w' w.heap.size (fun k_ => some k_ ≠ ((.slice Ao66 t326.length co66) : Value).ownBlock ∧ some k_ ≠ ((.slice Ao66 t326.length co66) : Value).ownBlock) (.slice Ao59 x16_2.length co59) x16_3) ∧ Aside0 (Kd.R (Kd.int .i64) 3 w' w.heap.size (fun k_ => some k_ ≠ ((.slice Ao59 x16_2.length co59) : Value).ownBlock) (.slice Ao66 t326.length co66) t326) ∧ Aside0 (Kd.S (Kd.slice 3 (Kd.int .i64)) 31 w' w.heap.size (fun k_ => some k_ ≠ ((.slice Ao66 t326.length co66) : Value).ownBlock ∧ some k_ ≠ (v335 : Value).ownBlock ∧ some k_ ≠ (v343 : Value).ownBlock ∧ some k_ ≠ ((.slice Ao59 x16_2.length co59) : Value).ownBlock ∧ some k_ ≠ ((.slice Ao66 t326.length co66) : Value).ownBlock) (.slice Ao13 t322.length co13) t322) ∧ Aside0 (w'.heap[gb325]? = some (.cells #[(.slice Ao13 t322.length co13)] 27 (0, 0))) ∧ Aside0 (Below w.heap.size w w'))
                      case atStart => exact ⟨(x16_2), (0), (by first | rfl | (simp; done) | (simp [*]; done)), H', ⟨Nat.le_refl _⟩, ⟨by (try simp only [hl16_2]); (with_reducible repeat (first | apply Kd.R_alloc | apply Kd.R_drewN | apply Kd.R_drew)); exact HO_4.out⟩, ⟨by (try simp only [hl16_2]); (with_reducible repeat (first | apply Kd.S_alloc | apply Kd.S_drewN | apply Kd.S_drew)); exact Kd.S_mono HO_8.out (fun _ hk => ⟨hk.1, ⟨hk.2.1, ⟨hk.2.2.1, ⟨hk.1, hk.2.2.2⟩⟩⟩⟩)⟩, ⟨by (try simp only [hl16_2]); (with_reducible repeat (first | apply Kd.S_alloc | apply Kd.S_drewN | apply Kd.S_drew)); exact Kd.S_mono HO_12.out (fun _ hk => ⟨hk.1, ⟨hk.2.1, ⟨hk.2.2.1, ⟨hk.1, hk.2.2.2⟩⟩⟩⟩)⟩, ⟨by (try simp only [hl16_2]); (with_reducible repeat (first | apply Kd.R_alloc | apply Kd.R_drewN | apply Kd.R_drew)); exact Kd.R_mono HO_16.out (fun _ hk => ⟨hk, hk⟩)⟩, ⟨by (try simp only [hl16_2]); (with_reducible repeat (first | apply Kd.R_alloc | apply Kd.R_drewN | apply Kd.R_drew)); exact HO_4.out⟩, ⟨by (try simp only [hl16_2]); (with_reducible repeat (first | apply Kd.S_alloc | apply Kd.S_drewN | apply Kd.S_drew)); exact Kd.S_mono HO_326000.out (fun _ hk => ⟨hk.1, ⟨hk.2.1, ⟨hk.2.2.1, ⟨hk.2.2.2, hk.1⟩⟩⟩⟩)⟩, ⟨by (try simp only [hl16_2]); (with_reducible repeat (first | refine blk_drewN ?_ _ | refine blk_drew ?_ | refine blk_alloc ?_ _)); exact BK325.out⟩, ⟨by repeat (first | (with_reducible first | exact HB.out | apply below_alloc | apply pw_below_drewN | apply below_drew1 | refine below_set ?_ GE325.out) | exact HB.out)⟩⟩
                      case round =>
                        as_aux_lemma =>
                        clear H'
                        try clear c1
                        try clear c2
                        try clear c2b0
                        try clear c2b1
                        try clear p2
                        try clear c3
                        try clear c5
                        try clear c6
                        try clear p6
                        try clear q6
                        try clear hx6
                        try clear hf6
                        try clear c10
                        try clear c26
                        try clear c26b0
                        try clear c26b1
                        try clear c26b2
                        try clear c28
                        try clear c29
                        try clear c29b0
                        try clear c29b1
                        try clear c29b2
                        try clear c33
                        try clear c34
                        try clear c34b0
                        try clear c34b1
                        try clear c34b2
                        try clear c52
                        try clear c53
                        try clear c54
                        try clear c54b0
                        try clear c54b1
                        try clear c55
                        try clear c55b0
                        try clear c55b1
                        try clear c60
                        try clear c60b0
                        try clear c61
                        try clear c61b0
                        try clear c62
                        try clear c62b0
                        try clear p63
                        try clear q63
                        try clear hx63
                        try clear hf63
                        try clear p64
                        try clear hcz14_0
                        try clear hcz16_0
                        try clear hcz18_0
                        try clear hcz20_0
                        try clear hcz22_0
                        try clear hcz24_0
                        try clear hcz56_0
                        try clear hfz14_0
                        try clear hfz16_0
                        try clear hfz18_0
                        try clear hfz20_0
                        try clear hfz22_0
                        try clear hfz24_0
                        try clear hfz56_0
                        try clear hx63_0
                        try clear p2
                        try clear p63
                        try clear q63
                        obtain ⟨x16_3, x116_3, rfl, HA, HK3, HO_4, HO_8, HO_12, HO_16, HO_114, HO_326000, BK325, HB⟩ := hrel
                        have hl16_3 := (Kd.R_reads' HO_16.out).1
                        rw [hl16_3] at HO_16
                        (try simp only [hl16_3])
                        (try simp only [hl16_3] at BK325)
                        (try simp only [hl16_3] at HO_4)
                        (try simp only [hl16_3] at HO_8)
                        (try simp only [hl16_3] at HO_12)
                        (try simp only [hl16_3] at HO_114)
                        (try simp only [hl16_3] at HO_326000)
                        cases gk with
                        | zero => exact absurd HA.out (by simp [laws_FnGraphs.l1])
                        | succ k3 =>
                          have H := HA.out
                          clear HA
                          simp only [laws_FnGraphs.l1] at H
                          by_cases c67 : x116_3 < (t326.length : Int)
                          · rw [if_pos c67] at H
                            have c67b0 : decide (x116_3 < (t326.length : Int)) = true := decide_eq_true c67
                            (try (have c67b0_h := c67b0; rw [hl16_3] at c67b0_h))
                            clear c67
                            by_cases c68 : 0 ≤ x116_3
                            · rw [if_pos c68] at H
                              have c68b0 : decide (0 ≤ x116_3) = true := decide_eq_true c68
                              clear c68
                              by_cases c69 : x116_3 < (t326.length : Int)
                              · rw [if_pos c69] at H
                                have c69b0 : decide (x116_3 < (t326.length : Int)) = true := decide_eq_true c69
                                (try (have c69b0_h := c69b0; rw [hl16_3] at c69b0_h))
                                clear c69
                                by_cases c70 : 0 ≤ (rd t326 x116_3)
                                · rw [if_pos c70] at H
                                  have c70b0 : decide (0 ≤ (rd t326 x116_3)) = true := decide_eq_true c70
                                  clear c70
                                  by_cases c71 : (rd t326 x116_3) < (x16_3.length : Int)
                                  · rw [if_pos c71] at H
                                    have c71b0 : decide ((rd t326 x116_3) < (x16_3.length : Int)) = true := decide_eq_true c71
                                    (try (have c71b0_h := c71b0; rw [hl16_3] at c71b0_h))
                                    clear c71
                                    by_cases c72 : (rd x16_3 (rd t326 x116_3)) ≥ 0
                                    · rw [if_pos c72] at H
                                      exact absurd H (by simp)
                                    · rw [if_neg c72] at H
                                      have c72b0 : decide (0 ≤ (rd x16_3 (rd t326 x116_3))) = false := decide_eq_false c72
                                      clear c72
                                      obtain ⟨y359, hy359⟩ : ∃ y_ : List Int, y_ = (x16_3.set ((rd t326 x116_3) : Int).toNat x116_3) := ⟨_, rfl⟩
                                      replace H : (laws_FnGraphs.l1 k3 t326 t334 t342 y359 t326 (t326.length : Int) (wrap64 (x116_3 + 1)) t322) = some r := by first | (rw [hy359]; with_reducible exact H) | (have H2_ := (Option.bind_some _ _).symm.trans H; rw [hy359]; with_reducible exact H2_) | (have H2_ := (Option.bind_some _ _).symm.trans H; with_reducible exact H2_) | with_reducible exact H | (rw [hy359]; exact H) | exact H
                                      have Ny359 := Aside0.mk hy359
                                      clear hy359
                                      have H' := Aside0.mk H
                                      clear H
                                      have p357 : 0 ≤ (x116_3 : Int) := of_decide_eq_true (by first | (with_reducible assumption) | assumption)
                                      have q357 : x116_3 < (t326.length : Int) := of_decide_eq_true (by first | (with_reducible assumption) | assumption)
                                      obtain ⟨ad357, e357, hx357_0⟩ := Kd.at_int (Kd.R_reads' HO_114.out).2.2 x116_3 p357 q357
                                      cases e357
                                      replace p357 := eq_true p357
                                      replace q357 := eq_true q357
                                      have p358 : 0 ≤ ((rd t326 x116_3) : Int) := of_decide_eq_true (by first | (with_reducible assumption) | assumption)
                                      have q358 : (rd t326 x116_3) < (x16_3.length : Int) := of_decide_eq_true (by first | (with_reducible assumption) | assumption)
                                      obtain ⟨ad358, e358, hx358_0⟩ := Kd.at_int (Kd.R_reads' HO_16.out).2.2 (rd t326 x116_3) p358 q358
                                      cases e358
                                      replace p358 := eq_true p358
                                      replace q358 := eq_true q358
                                      have p73 : 0 ≤ ((rd t326 x116_3) : Int) := of_decide_eq_true (by first | (with_reducible assumption) | assumption)
                                      have q73 : ((rd t326 x116_3) : Int) < ((x16_3.length : Int) : Int) := of_decide_eq_true (by first | (with_reducible assumption) | assumption)
                                      obtain ⟨go73, co73, eo73, gb73, gl73, cl73, HG73⟩ := Kd.R_form HO_16.out (by omega)
                                      (first | cases eo73 | (injection eo73 with ea_ en_ ec_; (first | subst ea_ | (injection ea_ with ea_; subst ea_)); subst ec_; clear en_))
                                      have GB73 := Aside0.mk gb73
                                      have GG73 := Aside0.mk HG73
                                      clear gb73 gl73 HG73
                                      (first | simp only [add_plain] at hx358_0 | skip)
                                      obtain ⟨hx73_0, hf73_0⟩ := Kd.R_celln 0 HO_16.out ((rd t326 x116_3) : Int) p73 q73
                                      replace p73 := eq_true p73
                                      replace q73 := eq_true q73
                                      have HP74 := Kd.R_putg HO_16.out ((rd t326 x116_3) : Int) x116_3
                                      go_wp2_with (first | ((with_reducible refine gate_store (t := 3) (p := 129) rfl ?_); (try (rw [drewN_self wr]; generalize hq_ : World.drewN wr _ = wr; have n0_ := Aside0.mk (Kd.R_at hq_ HO_4.out); have n1_ := Aside0.mk (Kd.S_at hq_ HO_8.out); have n2_ := Aside0.mk (Kd.S_at hq_ HO_12.out); have n3_ := Aside0.mk (Kd.R_at hq_ HO_16.out); have n4_ := Aside0.mk (Kd.R_at hq_ HO_114.out); have n5_ := Aside0.mk (Kd.S_at hq_ HO_326000.out); have n6_ := Aside0.mk (blk_at hq_ BK325.out); have n7_ := Aside0.mk (below_at hq_ HB.out); clear hq_ HO_4 HO_8 HO_12 HO_16 HO_114 HO_326000 BK325 HB; have HO_4 := n0_; have HO_8 := n1_; have HO_12 := n2_; have HO_16 := n3_; have HO_114 := n4_; have HO_326000 := n5_; have BK325 := n6_; have HB := n7_; clear n0_ n1_ n2_ n3_ n4_ n5_ n6_ n7_; (try (have HP74 := Kd.R_putg HO_16.out ((rd t326 x116_3) : Int) x116_3)))); refine store_event (t := 3) (p := 129) (v := ?vo_w75) (w1 := (wr.setCell ⟨go73, ((rd t326 x116_3) : Int).toNat, none⟩ (.int .i64 x116_3))) ?hg ?ho ?hn ?hr ?_; (case ho => rfl); (case hg => rfl); (case hn => rfl); (case hr => first | (go_simp; done) | (go_simp; rfl)); intro w75 hw; have hg : wr.grownBy w75 (some go73) := (by rw [hw]; exact HP74.2); have hp_ : Kd.R (Kd.int .i64) 3 w75 w.heap.size (fun k_ => some k_ ≠ (.slice (some ad357) t326.length co66 : Value).ownBlock ∧ some k_ ≠ (.slice (some ad357) t326.length co66 : Value).ownBlock) (.slice (some ⟨go73, 0, none⟩) x16_3.length co59) y359 := (by rw [hw, Ny359.out]; exact HP74.1); clear HP74; have n0_ := Aside0.mk (Kd.R_after (v := (.slice (some ⟨go73, 0, none⟩) x16_3.length co59)) (v1 := (.slice (some ⟨go73, 0, none⟩) x16_3.length co59)) (ok := (fun _ => True)) (by (with_reducible repeat (first | apply Kd.R_alloc | apply Kd.R_drewN | apply Kd.R_drew)); exact Kd.R_mono HO_4.out (fun _ hk => ⟨trivial, hk⟩)) hg (.inl rfl)); have n1_ := Aside0.mk (Kd.S_after (v := (.slice (some ⟨go73, 0, none⟩) x16_3.length co59)) (v1 := (.slice (some ⟨go73, 0, none⟩) x16_3.length co59)) (ok := (fun k_ => some k_ ≠ (.slice (some ad357) t326.length co66 : Value).ownBlock ∧ some k_ ≠ (v343 : Value).ownBlock ∧ some k_ ≠ (.slice (some ad357) t326.length co66 : Value).ownBlock ∧ some k_ ≠ (.slice Ao13 t322.length co13 : Value).ownBlock)) (by (with_reducible repeat (first | apply Kd.S_alloc | apply Kd.S_drewN | apply Kd.S_drew)); exact Kd.S_mono HO_8.out (fun _ hk => ⟨⟨hk.1, ⟨hk.2.1, ⟨hk.2.2.2.1, hk.2.2.2.2⟩⟩⟩, hk.2.2.1⟩)) hg (.inl rfl)); have n2_ := Aside0.mk (Kd.S_after (v := (.slice (some ⟨go73, 0, none⟩) x16_3.length co59)) (v1 := (.slice (some ⟨go73, 0, none⟩) x16_3.length co59)) (ok := (fun k_ => some k_ ≠ (.slice (some ad357) t326.length co66 : Value).ownBlock ∧ some k_ ≠ (v335 : Value).ownBlock ∧ some k_ ≠ (.slice (some ad357) t326.length co66 : Value).ownBlock ∧ some k_ ≠ (.slice Ao13 t322.length co13 : Value).ownBlock)) (by (with_reducible repeat (first | apply Kd.S_alloc | apply Kd.S_drewN | apply Kd.S_drew)); exact Kd.S_mono HO_12.out (fun _ hk => ⟨⟨hk.1, ⟨hk.2.1, ⟨hk.2.2.2.1, hk.2.2.2.2⟩⟩⟩, hk.2.2.1⟩)) hg (.inl rfl)); have n3_ := Aside0.mk (hp_); have n4_ := Aside0.mk (Kd.R_after (v := (.slice (some ⟨go73, 0, none⟩) x16_3.length co59)) (v1 := (.slice (some ⟨go73, 0, none⟩) x16_3.length co59)) (ok := (fun _ => True)) (by (with_reducible repeat (first | apply Kd.R_alloc | apply Kd.R_drewN | apply Kd.R_drew)); exact Kd.R_mono HO_114.out (fun _ hk => ⟨trivial, hk⟩)) hg (.inl rfl)); have n5_ := Aside0.mk (Kd.S_after (v := (.slice (some ⟨go73, 0, none⟩) x16_3.length co59)) (v1 := (.slice (some ⟨go73, 0, none⟩) x16_3.length co59)) (ok := (fun k_ => some k_ ≠ (.slice (some ad357) t326.length co66 : Value).ownBlock ∧ some k_ ≠ (v335 : Value).ownBlock ∧ some k_ ≠ (v343 : Value).ownBlock ∧ some k_ ≠ (.slice (some ad357) t326.length co66 : Value).ownBlock)) (by (with_reducible repeat (first | apply Kd.S_alloc | apply Kd.S_drewN | apply Kd.S_drew)); exact Kd.S_mono HO_326000.out (fun _ hk => ⟨⟨hk.1, ⟨hk.2.1, ⟨hk.2.2.1, hk.2.2.2.2⟩⟩⟩, hk.2.2.2.1⟩)) hg (.inl rfl)); have n6_ := Aside0.mk (blk_grown (g := gb325) (o := .cells #[.slice Ao13 t322.length co13] 27 (0, 0)) (by (with_reducible repeat (first | refine blk_drewN ?_ _ | refine blk_drew ?_ | refine blk_alloc ?_ _)); exact BK325.out) hg (Kd.R_ne HO_16.out BK325.out (by decide))); have n7_ := Aside0.mk ((by rw [hw]; exact below_set (HB.out) GB73.out : Below w.heap.size w w75)); clear HO_4; clear HO_8; clear HO_12; clear HO_16; clear HO_114; clear HO_326000; clear BK325; clear HB; have HO_4 := n0_; have HO_8 := n1_; have HO_12 := n2_; have HO_16 := n3_; have HO_114 := n4_; have HO_326000 := n5_; have BK325 := n6_; have HB := n7_; clear n0_ n1_ n2_ n3_ n4_ n5_ n6_ n7_; clear hg hw hp_))
                                      (try simp only [← hl16_3])
                                      go_roundg k3
                                      case measure => have := HJ9.out; have := HK2.out; have := HK3.out; omega
                                      case rel => exact ⟨(y359), (wrap64 (x116_3 + 1)), (by first | rfl | (simp; done) | (simp [*]; done)), H', ⟨by have := HJ9.out; have := HK2.out; have := HK3.out; omega⟩, ⟨by (try simp only [hl16_2]); (try simp only [hl16_3]); (with_reducible repeat (first | apply Kd.R_alloc | apply Kd.R_drewN | apply Kd.R_drew)); exact Kd.R_mono HO_4.out (fun _ hk => hk.2)⟩, ⟨by (try simp only [hl16_2]); (try simp only [hl16_3]); (with_reducible repeat (first | apply Kd.S_alloc | apply Kd.S_drewN | apply Kd.S_drew)); exact Kd.S_mono HO_8.out (fun _ hk => ⟨hk.1.1, ⟨hk.1.2.1, ⟨hk.2, ⟨hk.1.2.2.1, hk.1.2.2.2⟩⟩⟩⟩)⟩, ⟨by (try simp only [hl16_2]); (try simp only [hl16_3]); (with_reducible repeat (first | apply Kd.S_alloc | apply Kd.S_drewN | apply Kd.S_drew)); exact Kd.S_mono HO_12.out (fun _ hk => ⟨hk.1.1, ⟨hk.1.2.1, ⟨hk.2, ⟨hk.1.2.2.1, hk.1.2.2.2⟩⟩⟩⟩)⟩, ⟨by (try simp only [hl16_2]); (try simp only [hl16_3]); (with_reducible repeat (first | apply Kd.R_alloc | apply Kd.R_drewN | apply Kd.R_drew)); exact HO_16.out⟩, ⟨by (try simp only [hl16_2]); (try simp only [hl16_3]); (with_reducible repeat (first | apply Kd.R_alloc | apply Kd.R_drewN | apply Kd.R_drew)); exact Kd.R_mono HO_114.out (fun _ hk => hk.2)⟩, ⟨by (try simp only [hl16_2]); (try simp only [hl16_3]); (with_reducible repeat (first | apply Kd.S_alloc | apply Kd.S_drewN | apply Kd.S_drew)); exact Kd.S_mono HO_326000.out (fun _ hk => ⟨hk.1.1, ⟨hk.1.2.1, ⟨hk.1.2.2.1, ⟨hk.2, hk.1.2.2.2⟩⟩⟩⟩)⟩, ⟨by (try simp only [hl16_2]); (try simp only [hl16_3]); (with_reducible repeat (first | refine blk_drewN ?_ _ | refine blk_drew ?_ | refine blk_alloc ?_ _)); exact BK325.out⟩, ⟨by repeat (first | (with_reducible first | exact HB.out | apply below_alloc | apply pw_below_drewN | apply below_drew1 | refine below_set ?_ GE325.out) | exact HB.out)⟩⟩
                                  · rw [if_neg c71] at H
                                    exact absurd H (by simp)
                                · rw [if_neg c70] at H
                                  exact absurd H (by simp)
                              · rw [if_neg c69] at H
                                exact absurd H (by simp)
                            · rw [if_neg c68] at H
                              exact absurd H (by simp)
                          · rw [if_neg c67] at H
                            have c67b0 : decide (x116_3 < (t326.length : Int)) = false := decide_eq_false c67
                            (try (have c67b0_h := c67b0; rw [hl16_3] at c67b0_h))
                            clear c67
                            replace H := Option.bind_eq_some_iff.mp H
                            obtain ⟨⟨t360, t361⟩, A760, H⟩ := H
                            replace H : (if t361 = true then (if 0 < (t326.length : Int) then (laws_FnGraphs.j3 k3 t334 t342 x16_3 t360 ((rd t326 0) != 0) t322) else (none)) else (none)) = some r := H
                            have A76 := Aside0.mk A760
                            clear A760
                            have HC77 := Aside0.mk H
                            clear H
                            have hcz78_0 : wr.cell? ⟨gb325, 0, none⟩ = some (.slice Ao13 t322.length co13) := (blk_cell BK325.out 0).trans rfl
                            have hfz78_0 := blk_frozen BK325.out 0
                            go_upto_region 28 with (first | (go_at_call 23; (with_reducible refine (impl_IsReducible.calls k3 _ _ t322 t360 t361 _ ?side1 ?side2 A76.out).mono ?_); (case side1 => repeat (first | exact (Kd.S_reads' HO_326000.out).2.2 | (with_reducible refine Kd.C_alloc ?_ _) | (with_reducible refine Kd.C_drewN ?_ _) | (with_reducible refine Kd.C_drew ?_))); (case side2 => exact (Kd.S_reads' HO_326000.out).2.1); rintro e w79 ⟨rfl, hb⟩; have n0_ := Aside0.mk (Kd.R_below (by (with_reducible repeat (first | apply Kd.R_alloc | apply Kd.R_drewN | apply Kd.R_drew)); exact HO_4.out) hb); have n1_ := Aside0.mk (Kd.S_below (by (with_reducible repeat (first | apply Kd.S_alloc | apply Kd.S_drewN | apply Kd.S_drew)); exact HO_8.out) hb); have n2_ := Aside0.mk (Kd.S_below (by (with_reducible repeat (first | apply Kd.S_alloc | apply Kd.S_drewN | apply Kd.S_drew)); exact HO_12.out) hb); have n3_ := Aside0.mk (Kd.R_below (by (with_reducible repeat (first | apply Kd.R_alloc | apply Kd.R_drewN | apply Kd.R_drew)); exact HO_16.out) hb); have n4_ := Aside0.mk (Kd.R_below (by (with_reducible repeat (first | apply Kd.R_alloc | apply Kd.R_drewN | apply Kd.R_drew)); exact HO_114.out) hb); have n5_ := Aside0.mk (Kd.S_below (by (with_reducible repeat (first | apply Kd.S_alloc | apply Kd.S_drewN | apply Kd.S_drew)); exact HO_326000.out) hb); have n6_ := Aside0.mk (blk_below (g := gb325) (o := .cells #[.slice Ao13 t322.length co13] 27 (0, 0)) (by (with_reducible repeat (first | refine blk_drewN ?_ _ | refine blk_drew ?_ | refine blk_alloc ?_ _)); exact BK325.out) hb); have n7_ := Aside0.mk (below_step (by repeat (first | (with_reducible first | exact HB.out | apply below_alloc | apply pw_below_drewN | apply below_drew1 | refine below_set ?_ GE325.out) | exact HB.out)) hb); clear HO_4; clear HO_8; clear HO_12; clear HO_16; clear HO_114; clear HO_326000; clear BK325; clear HB; have HO_4 := n0_; have HO_8 := n1_; have HO_12 := n2_; have HO_16 := n3_; have HO_114 := n4_; have HO_326000 := n5_; have BK325 := n6_; have HB := n7_; clear n0_ n1_ n2_ n3_ n4_ n5_ n6_ n7_; (try clear hb); (try clear hb2); (try clear hk); (try clear hi)))
                            (try simp only [Act.put, List.setIfInBounds_toArray, List.set_cons_zero, List.set_cons_succ])
                            as_aux_lemma =>
                            go_cut [143] (fun v143 wc => ∃ (kq : Nat) (x143_76 : Bool), v143 = .bool x143_76 ∧ Aside0 (laws_FnGraphs.j3 kq t334 t342 x16_3 t360 x143_76 t322 = some r) ∧ Aside0 (kq ≤ k3) ∧ Aside0 (Kd.S (Kd.slice 3 (Kd.int .i64)) 31 wc w.heap.size (fun k_ => some k_ ≠ (v343 : Value).ownBlock ∧ some k_ ≠ ((.slice Ao59 x16_3.length co59) : Value).ownBlock ∧ some k_ ≠ ((.slice Ao13 t322.length co13) : Value).ownBlock) v335 t334) ∧ Aside0 (Kd.S (Kd.slice 3 (Kd.int .i64)) 31 wc w.heap.size (fun k_ => some k_ ≠ (v335 : Value).ownBlock ∧ some k_ ≠ ((.slice Ao59 x16_3.length co59) : Value).ownBlock ∧ some k_ ≠ ((.slice Ao13 t322.length co13) : Value).ownBlock) v343 t342) ∧ Aside0 (Kd.R (Kd.int .i64) 3 wc w.heap.size (fun _ => True) (.slice Ao59 x16_3.length co59) x16_3) ∧ Aside0 (Kd.S (Kd.slice 3 (Kd.int .i64)) 31 wc w.heap.size (fun k_ => some k_ ≠ (v335 : Value).ownBlock ∧ some k_ ≠ (v343 : Value).ownBlock ∧ some k_ ≠ ((.slice Ao59 x16_3.length co59) : Value).ownBlock) (.slice Ao13 t322.length co13) t322) ∧ Aside0 (wc.heap[gb325]? = some (.cells #[(.slice Ao13 t322.length co13)] 27 (0, 0))) ∧ Aside0 (Below w.heap.size w wc))
                            case first =>
                              as_aux_lemma =>
                              have H := HC77.out
                              clear HC77
                              by_cases c80 : t361 = true
                              · subst c80
                                have H1 : (if 0 < (t326.length : Int) then (laws_FnGraphs.j3 k3 t334 t342 x16_3 t360 ((rd t326 0) != 0) t322) else (none)) = some r := by rw [if_pos rfl] at H; exact H
                                clear H
                                have H := H1
                                clear H1
                                by_cases c81 : 0 < (t326.length : Int)
                                · rw [if_pos c81] at H
                                  have c81b0 : decide (0 < (t326.length : Int)) = true := decide_eq_true c81
                                  (try (have c81b0_h := c81b0; rw [hl16_3] at c81b0_h))
                                  have c81b1 : decide (0 < t326.length) = true := decide_eq_true (by omega)
                                  (try (have c81b1_h := c81b1; rw [hl16_3] at c81b1_h))
                                  clear c81
                                  (first | rw [c81b0] | (simp only [i64_w, i32_w]; rw [c81b0]) | skip)
                                  have H' := Aside0.mk H
                                  clear H
                                  have p362 : 0 ≤ (0 : Int) := (by omega)
                                  have q362 : 0 < (t326.length : Int) := of_decide_eq_true (by first | (with_reducible assumption) | assumption)
                                  obtain ⟨ad362, e362, hx362_0⟩ := Kd.at_int (Kd.R_reads' HO_4.out).2.2 0 p362 q362
                                  cases e362
                                  have qi362 : (0 < t326.length) = True := eq_true (by omega)
                                  (try rw [show ((0 : Int)).toNat = 0 from rfl] at hx362_0)
                                  (try rw [Addr.add_zero'] at hx362_0)
                                  replace p362 := eq_true p362
                                  replace q362 := eq_true q362
                                  go_wp2
                                  go_meet
                                  case rel => exact ⟨_, (((rd t326 0) != 0)), (by first | rfl | (simp; done) | (simp [*]; done)), H', ⟨by have := HJ9.out; have := HK2.out; have := HK3.out; first | omega | exact Nat.le_refl _⟩, ⟨by (try simp only [hl16_2]); (try simp only [hl16_3]); (with_reducible repeat (first | apply Kd.S_alloc | apply Kd.S_drewN | apply Kd.S_drew)); exact Kd.S_mono HO_8.out (fun _ hk => ⟨hk.2.1, ⟨hk.2.2.1, hk.2.2.2.2⟩⟩)⟩, ⟨by (try simp only [hl16_2]); (try simp only [hl16_3]); (with_reducible repeat (first | apply Kd.S_alloc | apply Kd.S_drewN | apply Kd.S_drew)); exact Kd.S_mono HO_12.out (fun _ hk => ⟨hk.2.1, ⟨hk.2.2.1, hk.2.2.2.2⟩⟩)⟩, ⟨by (try simp only [hl16_2]); (try simp only [hl16_3]); (with_reducible repeat (first | apply Kd.R_alloc | apply Kd.R_drewN | apply Kd.R_drew)); exact Kd.R_mono HO_16.out (fun _ hk => trivial)⟩, ⟨by (try simp only [hl16_2]); (try simp only [hl16_3]); (with_reducible repeat (first | apply Kd.S_alloc | apply Kd.S_drewN | apply Kd.S_drew)); exact Kd.S_mono HO_326000.out (fun _ hk => ⟨hk.2.1, ⟨hk.2.2.1, hk.2.2.2.1⟩⟩)⟩, ⟨by (try simp only [hl16_2]); (try simp only [hl16_3]); (with_reducible repeat (first | refine blk_drewN ?_ _ | refine blk_drew ?_ | refine blk_alloc ?_ _)); exact BK325.out⟩, ⟨by repeat (first | (with_reducible first | exact HB.out | apply below_alloc | apply pw_below_drewN | apply below_drew1 | refine below_set ?_ GE325.out) | exact HB.out)⟩⟩
                                · rw [if_neg c81] at H
                                  exact absurd H (by simp)
                              · replace c80 := Bool.eq_false_iff.mpr c80
                                subst c80
                                have H1 : (none) = some r := by rw [if_neg (show ¬ (false = true) by decide)] at H; exact H
                                exact absurd H1 (by simp)
                            case rest =>
                              as_aux_lemma =>
                              clear HC77
                              try clear c1
                              try clear c2
                              try clear c2b0
                              try clear c2b1
                              try clear p2
                              try clear c3
                              try clear p3
                              try clear q3
                              try clear hx3
                              try clear qi3
                              try clear c5
                              try clear c6
                              try clear p6
                              try clear q6
                              try clear hx6
                              try clear hf6
                              try clear c7
                              try clear p7
                              try clear q7
                              try clear hx7
                              try clear hf7
                              try clear c8
                              try clear c10
                              try clear c26
                              try clear c26b0
                              try clear c26b1
                              try clear c26b2
                              try clear c28
                              try clear c29
                              try clear c29b0
                              try clear c29b1
                              try clear c29b2
                              try clear c33
                              try clear c34
                              try clear c34b0
                              try clear c34b1
                              try clear c34b2
                              try clear p35
                              try clear q35
                              try clear hx35
                              try clear p36
                              try clear q36
                              try clear hx36
                              try clear qi36
                              try clear c52
                              try clear c53
                              try clear c54
                              try clear c54b0
                              try clear c54b1
                              try clear c55
                              try clear c55b0
                              try clear c55b1
                              try clear c60
                              try clear c60b0
                              try clear c61
                              try clear c61b0
                              try clear c62
                              try clear c62b0
                              try clear p63
                              try clear q63
                              try clear hx63
                              try clear hf63
                              try clear p64
                              try clear c67
                              try clear c67b0
                              try clear c68
                              try clear c68b0
                              try clear c69
                              try clear c69b0
                              try clear c70
                              try clear c70b0
                              try clear c71
                              try clear c71b0
                              try clear c72
                              try clear c72b0
                              try clear p73
                              try clear q73
                              try clear hx73
                              try clear hf73
                              try clear c80
                              try clear c81
                              try clear c81b0
                              try clear c81b1
                              try clear hcz14_0
                              try clear hcz16_0
                              try clear hcz18_0
                              try clear hcz20_0
                              try clear hcz22_0
                              try clear hcz24_0
                              try clear hcz56_0
                              try clear hcz78_0
                              try clear hfz14_0
                              try clear hfz16_0
                              try clear hfz18_0
                              try clear hfz20_0
                              try clear hfz22_0
                              try clear hfz24_0
                              try clear hfz56_0
                              try clear hfz78_0
                              try clear hx357_0
                              try clear hx358_0
                              try clear hx362_0
                              try clear hx63_0
                              try clear hx73_0
                              try clear p2
                              try clear p357
                              try clear p358
                              try clear p362
                              try clear p6
                              try clear p63
                              try clear p64
                              try clear p73
                              try clear q357
                              try clear q358
                              try clear q362
                              try clear q6
                              try clear q63
                              try clear q73
                              obtain ⟨kq, x143_76, rfl, HA, HJ76, HO_8, HO_12, HO_16, HO_326000, BK325, HB⟩ := hcut
                              cases kq with
                              | zero => exact absurd HA.out (by simp [laws_FnGraphs.j3])
                              | succ kj76 =>
                                have H := HA.out
                                clear HA
                                simp only [laws_FnGraphs.j3] at H
                                by_cases c82 : x143_76 = true
                                · subst c82
                                  have H1 : (none) = some r := by rw [if_pos rfl] at H; exact H
                                  exact absurd H1 (by simp)
                                · replace c82 := Bool.eq_false_iff.mpr c82
                                  subst c82
                                  have H1 : (laws_FnGraphs.l2 kj76 t334 t342 x16_3 t360 t334 (t334.length : Int) 0 t322) = some r := by rw [if_neg (show ¬ (false = true) by decide)] at H; exact H
                                  clear H
                                  have H := H1
                                  clear H1
                                  have H' := Aside0.mk H
                                  clear H
                                  obtain ⟨Ao83, co83, eo83⟩ := Kd.S_slice HO_8.out
                                  subst eo83
                                  go_wp2
                                  go_loopg [146] kj76 (fun kq v146 w' => ∃ (x146_5 : Int), v146 = .int .i64 x146_5 ∧ Aside0 (laws_FnGraphs.l2 kq t334 t342 x16_3 t360 t334 (t334.length : Int) x146_5 t322 = some r) ∧ Aside0 (kq ≤ kj76) ∧ Aside0 (Kd.S (Kd.slice 3 (Kd.int .i64)) 31 w' w.heap.size (fun k_ => some k_ ≠ (v343 : Value).ownBlock ∧ some k_ ≠ ((.slice Ao59 x16_3.length co59) : Value).ownBlock ∧ some k_ ≠ ((.slice Ao13 t322.length co13) : Value).ownBlock) (.slice Ao83 t334.length co83) t334) ∧ Aside0 (Kd.S (Kd.slice 3 (Kd.int .i64)) 31 w' w.heap.size (fun k_ => some k_ ≠ ((.slice Ao83 t334.length co83) : Value).ownBlock ∧ some k_ ≠ ((.slice Ao59 x16_3.length co59) : Value).ownBlock ∧ some k_ ≠ ((.slice Ao83 t334.length co83) : Value).ownBlock ∧ some k_ ≠ ((.slice Ao13 t322.length co13) : Value).ownBlock) v343 t342) ∧ Aside0 (Kd.R (Kd.int .i64) 3 w' w.heap.size (fun _ => True) (.slice Ao59 x16_3.length co59) x16_3) ∧ Aside0 (Kd.S (Kd.slice 3 (Kd.int .i64)) 31 w' w.heap.size (fun k_ => some k_ ≠ (v343 : Value).ownBlock ∧ some k_ ≠ ((.slice Ao59 x16_3.length co59) : Value).ownBlock ∧ some k_ ≠ ((.slice Ao13 t322.length co13) : Value).ownBlock) (.slice Ao83 t334.length co83) t334) ∧ Aside0 (Kd.S (Kd.slice 3 (Kd.int .i64)) 31 w' w.heap.size (fun k_ => some k_ ≠ ((.slice Ao83 t334.length co83) : Value).ownBlock ∧ some k_ ≠ (v343 : Value).ownBlock ∧ some k_ ≠ ((.slice Ao59 x16_3.length co59) : Value).ownBlock ∧ some k_ ≠ ((.slice Ao83 t334.length co83) : Value).ownBlock) (.slice Ao13 t322.length co13) t322) ∧ Aside0 (w'.heap[gb325]? = some (.cells #[(.slice Ao13 t322.length co13)] 27 (0, 0))) ∧ Aside0 (Below w.heap.size w w'))
                                  case atStart => exact ⟨(0), (by first | rfl | (simp; done) | (simp [*]; done)), H', ⟨Nat.le_refl _⟩, ⟨by (try simp only [hl16_2]); (try simp only [hl16_3]); (with_reducible repeat (first | apply Kd.S_alloc | apply Kd.S_drewN | apply Kd.S_drew)); exact HO_8.out⟩, ⟨by (try simp only [hl16_2]); (try simp only [hl16_3]); (with_reducible repeat (first | apply Kd.S_alloc | apply Kd.S_drewN | apply Kd.S_drew)); exact Kd.S_mono HO_12.out (fun _ hk => ⟨hk.1, ⟨hk.2.1, ⟨hk.1, hk.2.2⟩⟩⟩)⟩, ⟨by (try simp only [hl16_2]); (try simp only [hl16_3]); (with_reducible repeat (first | apply Kd.R_alloc | apply Kd.R_drewN | apply Kd.R_drew)); exact HO_16.out⟩, ⟨by (try simp only [hl16_2]); (try simp only [hl16_3]); (with_reducible repeat (first | apply Kd.S_alloc | apply Kd.S_drewN | apply Kd.S_drew)); exact HO_8.out⟩, ⟨by (try simp only [hl16_2]); (try simp only [hl16_3]); (with_reducible repeat (first | apply Kd.S_alloc | apply Kd.S_drewN | apply Kd.S_drew)); exact Kd.S_mono HO_326000.out (fun _ hk => ⟨hk.1, ⟨hk.2.1, ⟨hk.2.2, hk.1⟩⟩⟩)⟩, ⟨by (try simp only [hl16_2]); (try simp only [hl16_3]); (with_reducible repeat (first | refine blk_drewN ?_ _ | refine blk_drew ?_ | refine blk_alloc ?_ _)); exact BK325.out⟩, ⟨by repeat (first | (with_reducible first | exact HB.out | apply below_alloc | apply pw_below_drewN | apply below_drew1 | refine below_set ?_ GE325.out) | exact HB.out)⟩⟩
                                  case round =>
                                    as_aux_lemma =>
                                    clear H'
                                    try clear c1
                                    try clear c2
                                    try clear c2b0
                                    try clear c2b1
                                    try clear p2
                                    try clear c3
                                    try clear p3
                                    try clear q3
                                    try clear hx3
                                    try clear qi3
                                    try clear c5
                                    try clear c6
                                    try clear p6
                                    try clear q6
                                    try clear hx6
                                    try clear hf6
                                    try clear c7
                                    try clear p7
                                    try clear q7
                                    try clear hx7
                                    try clear hf7
                                    try clear c8
                                    try clear c10
                                    try clear c26
                                    try clear c26b0
                                    try clear c26b1
                                    try clear c26b2
                                    try clear c28
                                    try clear c29
                                    try clear c29b0
                                    try clear c29b1
                                    try clear c29b2
                                    try clear c33
                                    try clear c34
                                    try clear c34b0
                                    try clear c34b1
                                    try clear c34b2
                                    try clear p35
                                    try clear q35
                                    try clear hx35
                                    try clear p36
                                    try clear q36
                                    try clear hx36
                                    try clear qi36
                                    try clear c52
                                    try clear c53
                                    try clear c54
                                    try clear c54b0
                                    try clear c54b1
                                    try clear c55
                                    try clear c55b0
                                    try clear c55b1
                                    try clear c60
                                    try clear c60b0
                                    try clear c61
                                    try clear c61b0
                                    try clear c62
                                    try clear c62b0
                                    try clear p63
                                    try clear q63
                                    try clear hx63
                                    try clear hf63
                                    try clear p64
                                    try clear c67
                                    try clear c67b0
                                    try clear c68
                                    try clear c68b0
                                    try clear c69
                                    try clear c69b0
                                    try clear c70
                                    try clear c70b0
                                    try clear c71
                                    try clear c71b0
                                    try clear c72
                                    try clear c72b0
                                    try clear p73
                                    try clear q73
                                    try clear hx73
                                    try clear hf73
                                    try clear c80
                                    try clear c81
                                    try clear c81b0
                                    try clear c81b1
                                    try clear c82
                                    try clear hcz14_0
                                    try clear hcz16_0
                                    try clear hcz18_0
                                    try clear hcz20_0
                                    try clear hcz22_0
                                    try clear hcz24_0
                                    try clear hcz56_0
                                    try clear hcz78_0
                                    try clear hfz14_0
                                    try clear hfz16_0
                                    try clear hfz18_0
                                    try clear hfz20_0
                                    try clear hfz22_0
                                    try clear hfz24_0
                                    try clear hfz56_0
                                    try clear hfz78_0
                                    try clear hx357_0
                                    try clear hx358_0
                                    try clear hx362_0
                                    try clear hx63_0
                                    try clear hx73_0
                                    try clear p2
                                    try clear p3
                                    try clear p35
                                    try clear p357
                                    try clear p358
                                    try clear p36
                                    try clear p362
                                    try clear p6
                                    try clear p63
                                    try clear p64
                                    try clear p7
                                    try clear p73
                                    try clear q3
                                    try clear q35
                                    try clear q357
                                    try clear q358
                                    try clear q36
                                    try clear q362
                                    try clear q6
                                    try clear q63
                                    try clear q7
                                    try clear q73
                                    obtain ⟨x146_5, rfl, HA, HK5, HO_8, HO_12, HO_16, HO_144, HO_326000, BK325, HB⟩ := hrel
                                    cases gk with
                                    | zero => exact absurd HA.out (by simp [laws_FnGraphs.l2])
                                    | succ k5 =>
                                      have H := HA.out
                                      clear HA
                                      simp only [laws_FnGraphs.l2] at H
                                      by_cases c84 : x146_5 < (t334.length : Int)
                                      · rw [if_pos c84] at H
                                        have c84b0 : decide (x146_5 < (t334.length : Int)) = true := decide_eq_true c84
                                        (try (have c84b0_h := c84b0; rw [hl16_3] at c84b0_h))
                                        clear c84
                                        by_cases c85 : 0 ≤ x146_5
                                        · rw [if_pos c85] at H
                                          have c85b0 : decide (0 ≤ x146_5) = true := decide_eq_true c85
                                          clear c85
                                          by_cases c86 : x146_5 < (t334.length : Int)
                                          · rw [if_pos c86] at H
                                            have c86b0 : decide (x146_5 < (t334.length : Int)) = true := decide_eq_true c86
                                            (try (have c86b0_h := c86b0; rw [hl16_3] at c86b0_h))
                                            clear c86
                                            by_cases c87 : x146_5 < (x16_3.length : Int)
                                            · rw [if_pos c87] at H
                                              have c87b0 : decide (x146_5 < (x16_3.length : Int)) = true := decide_eq_true c87
                                              (try (have c87b0_h := c87b0; rw [hl16_3] at c87b0_h))
                                              clear c87
                                              by_cases c88 : ((decide (((rd_L1 t334 x146_5).length : Int) > 0)) != (decide ((rd x16_3 x146_5) ≥ 0))) = true
                                              · rw [if_pos c88] at H
                                                exact absurd H (by simp)
                                              · rw [if_neg c88] at H
                                                have c88b0 : ((decide (((rd_L1 t334 x146_5).length : Int) > 0)) != (decide ((rd x16_3 x146_5) ≥ 0))) = false := by simpa using c88
                                                have c88e : decide (0 < ((rd_L1 t334 x146_5).length : Int)) = decide (0 < (rd_L1 t334 x146_5).length) := by simp
                                                have c88f : (!((decide (0 < (rd_L1 t334 x146_5).length)) == (decide (0 ≤ (rd x16_3 x146_5))))) = false := by rw [← c88e]; exact c88b0
                                                have c88b4 : ((decide (0 < (rd_L1 t334 x146_5).length)) == (decide (0 ≤ (rd x16_3 x146_5)))) = true := by simpa only [Bool.not_eq_false'] using c88f
                                                clear c88e c88f
                                                (try (have c88b0_h := c88b0; rw [hl16_3] at c88b0_h))
                                                (try (have c88b1 : decide ((decide (((rd_L1 t334 x146_5).length : Int) > 0)) = (decide ((rd x16_3 x146_5) ≥ 0))) = true := by simpa using c88))
                                                (try (have c88b2 : ((decide (((rd_L1 t334 x146_5).length : Int) > 0)) == (decide ((rd x16_3 x146_5) ≥ 0))) = true := by simpa using c88))
                                                clear c88
                                                have H' := Aside0.mk H
                                                clear H
                                                have p363 : 0 ≤ (x146_5 : Int) := of_decide_eq_true (by first | (with_reducible assumption) | assumption)
                                                have q363 : x146_5 < (t334.length : Int) := of_decide_eq_true (by first | (with_reducible assumption) | assumption)
                                                obtain ⟨ad363, A363_0, c363_0, e363, hx363_0, hl363_0, hi363_0⟩ := at_L1 (Kd.S_reads' HO_144.out).2.2 x146_5 p363 q363
                                                cases e363
                                                obtain ⟨ce363, hce363, hMe363, hcc363⟩ := Kd.S_get HO_144.out [] x146_5 p363 (by first | exact q363 | exact of_decide_eq_true (by first | (with_reducible assumption) | assumption) | (have e_ := (Kd.S_reads' HO_144.out).1; omega))
                                                obtain ⟨ve363_0, rfl, ge363_0⟩ := hMe363
                                                have hv363_0 := hcc363 0 _ rfl
                                                rw [Nat.add_zero, show ((Kd.slice 3 (Kd.int .i64))).sz = 1 from rfl, Nat.mul_one] at hv363_0
                                                replace hv363_0 := Option.some.inj (hv363_0.symm.trans hx363_0)
                                                rw [hv363_0] at ge363_0
                                                have HL363_0 := Aside0.mk (show Kd.R (Kd.int .i64) 3 _ _ _ _ (rd_L1 t334 x146_5) from ge363_0)
                                                clear hv363_0 ge363_0
                                                clear hcc363 hce363
                                                have HR363_0 := Aside0.mk hi363_0
                                                have HC363_0 := Aside0.mk hl363_0
                                                clear hi363_0 hl363_0
                                                replace p363 := eq_true p363
                                                replace q363 := eq_true q363
                                                have p364 : 0 ≤ (x146_5 : Int) := of_decide_eq_true (by first | (with_reducible assumption) | assumption)
                                                have q364 : x146_5 < (x16_3.length : Int) := of_decide_eq_true (by first | (with_reducible assumption) | assumption)
                                                obtain ⟨ad364, e364, hx364_0⟩ := Kd.at_int (Kd.R_reads' HO_16.out).2.2 x146_5 p364 q364
                                                cases e364
                                                replace p364 := eq_true p364
                                                replace q364 := eq_true q364
                                                go_wp2
                                                clear c88b0 c88b4
                                                (try clear c88b1)
                                                (try clear c88b2)
                                                generalize Value.bool (decide (0 ≤ rd x16_3 x146_5)) = vb158
                                                go_loopg [162] k5 (fun kq v162 w' => ∃ (x162_6 : Int), v162 = .int .i64 x162_6 ∧ Aside0 (laws_FnGraphs.l3 kq t334 t342 x16_3 t360 x146_5 t334 (t334.length : Int) x146_5 (rd_L1 t334 x146_5) ((rd_L1 t334 x146_5).length : Int) x162_6 t322 = some r) ∧ Aside0 (kq ≤ k5) ∧ Aside0 (Kd.S (Kd.slice 3 (Kd.int .i64)) 31 w' w.heap.size (fun k_ => some k_ ≠ (v343 : Value).ownBlock ∧ some k_ ≠ ((.slice (some ad364) x16_3.length co59) : Value).ownBlock ∧ some k_ ≠ ((.slice Ao13 t322.length co13) : Value).ownBlock) (.slice (some ad363) t334.length co83) t334) ∧ Aside0 (Kd.S (Kd.slice 3 (Kd.int .i64)) 31 w' w.heap.size (fun k_ => some k_ ≠ ((.slice (some ad363) t334.length co83) : Value).ownBlock ∧ some k_ ≠ ((.slice (some ad364) x16_3.length co59) : Value).ownBlock ∧ some k_ ≠ ((.slice (some ad363) t334.length co83) : Value).ownBlock ∧ some k_ ≠ ((.slice Ao13 t322.length co13) : Value).ownBlock) v343 t342) ∧ Aside0 (Kd.R (Kd.int .i64) 3 w' w.heap.size (fun _ => True) (.slice (some ad364) x16_3.length co59) x16_3) ∧ Aside0 (Kd.S (Kd.slice 3 (Kd.int .i64)) 31 w' w.heap.size (fun k_ => some k_ ≠ (v343 : Value).ownBlock ∧ some k_ ≠ ((.slice (some ad364) x16_3.length co59) : Value).ownBlock ∧ some k_ ≠ ((.slice Ao13 t322.length co13) : Value).ownBlock) (.slice (some ad363) t334.length co83) t334) ∧ Aside0 (Kd.S (Kd.slice 3 (Kd.int .i64)) 31 w' w.heap.size (fun k_ => some k_ ≠ ((.slice (some ad363) t334.length co83) : Value).ownBlock ∧ some k_ ≠ (v343 : Value).ownBlock ∧ some k_ ≠ ((.slice (some ad364) x16_3.length co59) : Value).ownBlock ∧ some k_ ≠ ((.slice (some ad363) t334.length co83) : Value).ownBlock) (.slice Ao13 t322.length co13) t322) ∧ Aside0 (w'.heap[gb325]? = some (.cells #[(.slice Ao13 t322.length co13)] 27 (0, 0))) ∧ Aside0 (Kd.C (Kd.int .i64) w' A363_0 (rd_L1 t334 x146_5).length (rd_L1 t334 x146_5)) ∧ Aside0 (Below w.heap.size w w'))
                                                case atStart => exact ⟨(0), (by first | rfl | (simp; done) | (simp [*]; done)), H', ⟨Nat.le_refl _⟩, ⟨by (try simp only [hl16_2]); (try simp only [hl16_3]); (with_reducible repeat (first | apply Kd.S_alloc | apply Kd.S_drewN | apply Kd.S_drew)); exact HO_8.out⟩, ⟨by (try simp only [hl16_2]); (try simp only [hl16_3]); (with_reducible repeat (first | apply Kd.S_alloc | apply Kd.S_drewN | apply Kd.S_drew)); exact HO_12.out⟩, ⟨by (try simp only [hl16_2]); (try simp only [hl16_3]); (with_reducible repeat (first | apply Kd.R_alloc | apply Kd.R_drewN | apply Kd.R_drew)); exact HO_16.out⟩, ⟨by (try simp only [hl16_2]); (try simp only [hl16_3]); (with_reducible repeat (first | apply Kd.S_alloc | apply Kd.S_drewN | apply Kd.S_drew)); exact HO_144.out⟩, ⟨by (try simp only [hl16_2]); (try simp only [hl16_3]); (with_reducible repeat (first | apply Kd.S_alloc | apply Kd.S_drewN | apply Kd.S_drew)); exact HO_326000.out⟩, ⟨by (try simp only [hl16_2]); (try simp only [hl16_3]); (with_reducible repeat (first | refine blk_drewN ?_ _ | refine blk_drew ?_ | refine blk_alloc ?_ _)); exact BK325.out⟩, ⟨by repeat (first | (with_reducible exact HR363_0.out) | (with_reducible refine Kd.C_alloc ?_ _) | (with_reducible refine Kd.C_drewN ?_ _) | (with_reducible refine Kd.C_drew ?_) | exact HR363_0.out)⟩, ⟨by repeat (first | (with_reducible first | exact HB.out | apply below_alloc | apply pw_below_drewN | apply below_drew1 | refine below_set ?_ GE325.out) | exact HB.out)⟩⟩
                                                case round =>
                                                  as_aux_lemma =>
                                                  clear H'
                                                  try clear c1
                                                  try clear c2
                                                  try clear c2b0
                                                  try clear c2b1
                                                  try clear p2
                                                  try clear c3
                                                  try clear p3
                                                  try clear q3
                                                  try clear hx3
                                                  try clear qi3
                                                  try clear c5
                                                  try clear c6
                                                  try clear p6
                                                  try clear q6
                                                  try clear hx6
                                                  try clear hf6
                                                  try clear c7
                                                  try clear p7
                                                  try clear q7
                                                  try clear hx7
                                                  try clear hf7
                                                  try clear c8
                                                  try clear c10
                                                  try clear c26
                                                  try clear c26b0
                                                  try clear c26b1
                                                  try clear c26b2
                                                  try clear c28
                                                  try clear c29
                                                  try clear c29b0
                                                  try clear c29b1
                                                  try clear c29b2
                                                  try clear c33
                                                  try clear c34
                                                  try clear c34b0
                                                  try clear c34b1
                                                  try clear c34b2
                                                  try clear p35
                                                  try clear q35
                                                  try clear hx35
                                                  try clear c36
                                                  try clear p36
                                                  try clear q36
                                                  try clear hx36
                                                  try clear qi36
                                                  try clear c52
                                                  try clear c53
                                                  try clear c54
                                                  try clear c54b0
                                                  try clear c54b1
                                                  try clear c55
                                                  try clear c55b0
                                                  try clear c55b1
                                                  try clear c60
                                                  try clear c60b0
                                                  try clear c61
                                                  try clear c61b0
                                                  try clear c62
                                                  try clear c62b0
                                                  try clear p63
                                                  try clear q63
                                                  try clear hx63
                                                  try clear hf63
                                                  try clear p64
                                                  try clear c67
                                                  try clear c67b0
                                                  try clear c68
                                                  try clear c68b0
                                                  try clear c69
                                                  try clear c69b0
                                                  try clear c70
                                                  try clear c70b0
                                                  try clear c71
                                                  try clear c71b0
                                                  try clear c72
                                                  try clear c72b0
                                                  try clear p73
                                                  try clear q73
                                                  try clear hx73
                                                  try clear hf73
                                                  try clear c80
                                                  try clear c81
                                                  try clear c81b0
                                                  try clear c81b1
                                                  try clear c82
                                                  try clear c84
                                                  try clear c84b0
                                                  try clear c85
                                                  try clear c85b0
                                                  try clear c86
                                                  try clear c86b0
                                                  try clear c87
                                                  try clear c87b0
                                                  try clear c88
                                                  try clear c88b0
                                                  try clear c88b1
                                                  try clear c88b2
                                                  try clear hcz14_0
                                                  try clear hcz16_0
                                                  try clear hcz18_0
                                                  try clear hcz20_0
                                                  try clear hcz22_0
                                                  try clear hcz24_0
                                                  try clear hcz56_0
                                                  try clear hcz78_0
                                                  try clear hfz14_0
                                                  try clear hfz16_0
                                                  try clear hfz18_0
                                                  try clear hfz20_0
                                                  try clear hfz22_0
                                                  try clear hfz24_0
                                                  try clear hfz56_0
                                                  try clear hfz78_0
                                                  try clear hx357_0
                                                  try clear hx358_0
                                                  try clear hx362_0
                                                  try clear hx363_0
                                                  try clear hx364_0
                                                  try clear hx63_0
                                                  try clear hx73_0
                                                  try clear p2
                                                  try clear p3
                                                  try clear p35
                                                  try clear p357
                                                  try clear p358
                                                  try clear p36
                                                  try clear p362
                                                  try clear p363
                                                  try clear p364
                                                  try clear p6
                                                  try clear p63
                                                  try clear p64
                                                  try clear p7
                                                  try clear p73
                                                  try clear q3
                                                  try clear q35
                                                  try clear q357
                                                  try clear q358
                                                  try clear q36
                                                  try clear q362
                                                  try clear q363
                                                  try clear q364
                                                  try clear q6
                                                  try clear q63
                                                  try clear q7
                                                  try clear q73
                                                  obtain ⟨x162_6, rfl, HA, HK6, HO_8, HO_12, HO_16, HO_144, HO_326000, BK325, HR363_0, HB⟩ := hrel
                                                  cases gk with
                                                  | zero => exact absurd HA.out (by simp [laws_FnGraphs.l3])
                                                  | succ k6 =>
                                                    have H := HA.out
                                                    clear HA
                                                    simp only [laws_FnGraphs.l3] at H
                                                    by_cases c89 : x162_6 < ((rd_L1 t334 x146_5).length : Int)
                                                    · rw [if_pos c89] at H
                                                      have c89b0 : decide (x162_6 < ((rd_L1 t334 x146_5).length : Int)) = true := decide_eq_true c89
                                                      (try (have c89b0_h := c89b0; rw [hl16_3] at c89b0_h))
                                                      clear c89
                                                      by_cases c90 : 0 ≤ x162_6
                                                      · rw [if_pos c90] at H
                                                        have c90b0 : decide (0 ≤ x162_6) = true := decide_eq_true c90
                                                        clear c90
                                                        by_cases c91 : x162_6 < ((rd_L1 t334 x146_5).length : Int)
                                                        · rw [if_pos c91] at H
                                                          have c91b0 : decide (x162_6 < ((rd_L1 t334 x146_5).length : Int)) = true := decide_eq_true c91
                                                          (try (have c91b0_h := c91b0; rw [hl16_3] at c91b0_h))
                                                          clear c91
                                                          by_cases c92 : 0 ≤ (rd (rd_L1 t334 x146_5) x162_6)
                                                          · rw [if_pos c92] at H
                                                            have c92b0 : decide (0 ≤ (rd (rd_L1 t334 x146_5) x162_6)) = true := decide_eq_true c92
                                                            clear c92
                                                            by_cases c93 : (rd (rd_L1 t334 x146_5) x162_6) < (x16_3.length : Int)
                                                            · rw [if_pos c93] at H
                                                              have c93b0 : decide ((rd (rd_L1 t334 x146_5) x162_6) < (x16_3.length : Int)) = true := decide_eq_true c93
                                                              (try (have c93b0_h := c93b0; rw [hl16_3] at c93b0_h))
                                                              clear c93
                                                              by_cases c94 : 0 ≤ x146_5
                                                              · rw [if_pos c94] at H
                                                                have c94b0 : decide (0 ≤ x146_5) = true := decide_eq_true c94
                                                                clear c94
                                                                by_cases c95 : x146_5 < (x16_3.length : Int)
                                                                · rw [if_pos c95] at H
                                                                  have c95b0 : decide (x146_5 < (x16_3.length : Int)) = true := decide_eq_true c95
                                                                  (try (have c95b0_h := c95b0; rw [hl16_3] at c95b0_h))
                                                                  clear c95
                                                                  by_cases c96 : (rd x16_3 (rd (rd_L1 t334 x146_5) x162_6)) > (rd x16_3 x146_5)
                                                                  · rw [if_pos c96] at H
                                                                    exact absurd H (by simp)
                                                                  · rw [if_neg c96] at H
                                                                    have c96b0 : decide ((rd x16_3 x146_5) < (rd x16_3 (rd (rd_L1 t334 x146_5) x162_6))) = false := decide_eq_false c96
                                                                    clear c96
                                                                    have H' := Aside0.mk H
                                                                    clear H
                                                                    have p365 : 0 ≤ (x162_6 : Int) := of_decide_eq_true (by first | (with_reducible assumption) | assumption)
                                                                    have q365 : x162_6 < ((rd_L1 t334 x146_5).length : Int) := of_decide_eq_true (by first | (with_reducible assumption) | assumption)
                                                                    obtain ⟨ad365, e365, hx365_0⟩ := Kd.at_int HR363_0.out x162_6 p365 q365
                                                                    cases e365
                                                                    replace p365 := eq_true p365
                                                                    replace q365 := eq_true q365
                                                                    have p366 : 0 ≤ ((rd (rd_L1 t334 x146_5) x162_6) : Int) := of_decide_eq_true (by first | (with_reducible assumption) | assumption)
                                                                    have q366 : (rd (rd_L1 t334 x146_5) x162_6) < (x16_3.length : Int) := of_decide_eq_true (by first | (with_reducible assumption) | assumption)
                                                                    obtain ⟨ad366, e366, hx366_0⟩ := Kd.at_int (Kd.R_reads' HO_16.out).2.2 (rd (rd_L1 t334 x146_5) x162_6) p366 q366
                                                                    obtain rfl : ad364 = ad366 := (by injection e366)
                                                                    replace p366 := eq_true p366
                                                                    replace q366 := eq_true q366
                                                                    have p367 : 0 ≤ (x146_5 : Int) := of_decide_eq_true (by first | (with_reducible assumption) | assumption)
                                                                    have q367 : x146_5 < (x16_3.length : Int) := of_decide_eq_true (by first | (with_reducible assumption) | assumption)
                                                                    obtain ⟨ad367, e367, hx367_0⟩ := Kd.at_int (Kd.R_reads' HO_16.out).2.2 x146_5 p367 q367
                                                                    obtain rfl : ad364 = ad367 := (by injection e367)
                                                                    replace p367 := eq_true p367
                                                                    replace q367 := eq_true q367
                                                                    go_wp2
                                                                    repeat (go_quiet (fail); try go_wp2)
                                                                    go_roundg k6
                                                                    case measure => have := HJ9.out; have := HK2.out; have := HK3.out; have := HJ76.out; have := HK5.out; have := HK6.out; omega
                                                                    case rel => exact ⟨(wrap64 (x162_6 + 1)), (by first | rfl | (simp; done) | (simp [*]; done)), H', ⟨by have := HJ9.out; have := HK2.out; have := HK3.out; have := HJ76.out; have := HK5.out; have := HK6.out; omega⟩, ⟨by (try simp only [hl16_2]); (try simp only [hl16_3]); (with_reducible repeat (first | apply Kd.S_alloc | apply Kd.S_drewN | apply Kd.S_drew)); exact HO_8.out⟩, ⟨by (try simp only [hl16_2]); (try simp only [hl16_3]); (with_reducible repeat (first | apply Kd.S_alloc | apply Kd.S_drewN | apply Kd.S_drew)); exact HO_12.out⟩, ⟨by (try simp only [hl16_2]); (try simp only [hl16_3]); (with_reducible repeat (first | apply Kd.R_alloc | apply Kd.R_drewN | apply Kd.R_drew)); exact HO_16.out⟩, ⟨by (try simp only [hl16_2]); (try simp only [hl16_3]); (with_reducible repeat (first | apply Kd.S_alloc | apply Kd.S_drewN | apply Kd.S_drew)); exact HO_144.out⟩, ⟨by (try simp only [hl16_2]); (try simp only [hl16_3]); (with_reducible repeat (first | apply Kd.S_alloc | apply Kd.S_drewN | apply Kd.S_drew)); exact HO_326000.out⟩, ⟨by (try simp only [hl16_2]); (try simp only [hl16_3]); (with_reducible repeat (first | refine blk_drewN ?_ _ | refine blk_drew ?_ | refine blk_alloc ?_ _)); exact BK325.out⟩, ⟨by repeat (first | (with_reducible exact HR363_0.out) | (with_reducible refine Kd.C_alloc ?_ _) | (with_reducible refine Kd.C_drewN ?_ _) | (with_reducible refine Kd.C_drew ?_) | exact HR363_0.out)⟩, ⟨by repeat (first | (with_reducible first | exact HB.out | apply below_alloc | apply pw_below_drewN | apply below_drew1 | refine below_set ?_ GE325.out) | exact HB.out)⟩⟩
                                                                · rw [if_neg c95] at H
                                                                  exact absurd H (by simp)
                                                              · rw [if_neg c94] at H
                                                                exact absurd H (by simp)
                                                            · rw [if_neg c93] at H
                                                              exact absurd H (by simp)
                                                          · rw [if_neg c92] at H
                                                            exact absurd H (by simp)
                                                        · rw [if_neg c91] at H
                                                          exact absurd H (by simp)
                                                      · rw [if_neg c90] at H
                                                        exact absurd H (by simp)
                                                    · rw [if_neg c89] at H
                                                      have c89b0 : decide (x162_6 < ((rd_L1 t334 x146_5).length : Int)) = false := decide_eq_false c89
                                                      (try (have c89b0_h := c89b0; rw [hl16_3] at c89b0_h))
                                                      clear c89
                                                      by_cases c97 : 0 ≤ x146_5
                                                      · rw [if_pos c97] at H
                                                        have c97b0 : decide (0 ≤ x146_5) = true := decide_eq_true c97
                                                        clear c97
                                                        by_cases c98 : x146_5 < (t322.length : Int)
                                                        · rw [if_pos c98] at H
                                                          have c98b0 : decide (x146_5 < (t322.length : Int)) = true := decide_eq_true c98
                                                          (try (have c98b0_h := c98b0; rw [hl16_3] at c98b0_h))
                                                          clear c98
                                                          have H' := Aside0.mk H
                                                          clear H
                                                          have hcz99_0 : wr.cell? ⟨gb325, 0, none⟩ = some (.slice Ao13 t322.length co13) := (blk_cell BK325.out 0).trans rfl
                                                          have hfz99_0 := blk_frozen BK325.out 0
                                                          have p368 : 0 ≤ (x146_5 : Int) := of_decide_eq_true (by first | (with_reducible assumption) | assumption)
                                                          have q368 : x146_5 < (t322.length : Int) := of_decide_eq_true (by first | (with_reducible assumption) | assumption)
                                                          obtain ⟨ad368, A368_0, c368_0, e368, hx368_0, hl368_0, hi368_0⟩ := at_L1 (Kd.S_reads' HO_326000.out).2.2 x146_5 p368 q368
                                                          cases e368
                                                          obtain ⟨ce368, hce368, hMe368, hcc368⟩ := Kd.S_get HO_326000.out [] x146_5 p368 (by first | exact q368 | exact of_decide_eq_true (by first | (with_reducible assumption) | assumption) | (have e_ := (Kd.S_reads' HO_326000.out).1; omega))
                                                          obtain ⟨ve368_0, rfl, ge368_0⟩ := hMe368
                                                          have hv368_0 := hcc368 0 _ rfl
                                                          rw [Nat.add_zero, show ((Kd.slice 3 (Kd.int .i64))).sz = 1 from rfl, Nat.mul_one] at hv368_0
                                                          replace hv368_0 := Option.some.inj (hv368_0.symm.trans hx368_0)
                                                          rw [hv368_0] at ge368_0
                                                          have HL368_0 := Aside0.mk (show Kd.R (Kd.int .i64) 3 _ _ _ _ (rd_L1 t322 x146_5) from ge368_0)
                                                          clear hv368_0 ge368_0
                                                          clear hcc368 hce368
                                                          have HR368_0 := Aside0.mk hi368_0
                                                          have HC368_0 := Aside0.mk hl368_0
                                                          clear hi368_0 hl368_0
                                                          replace p368 := eq_true p368
                                                          replace q368 := eq_true q368
                                                          go_wp2
                                                          go_loopg [182] k6 (fun kq v182 w' => ∃ (x182_7 : Int), v182 = .int .i64 x182_7 ∧ Aside0 (laws_FnGraphs.l4 kq t334 t342 x16_3 t360 x146_5 t334 (t334.length : Int) x146_5 (rd_L1 t322 x146_5) ((rd_L1 t322 x146_5).length : Int) x182_7 t322 = some r) ∧ Aside0 (kq ≤ k6) ∧ Aside0 (Kd.S (Kd.slice 3 (Kd.int .i64)) 31 w' w.heap.size (fun k_ => some k_ ≠ (v343 : Value).ownBlock ∧ some k_ ≠ ((.slice (some ad364) x16_3.length co59) : Value).ownBlock ∧ some k_ ≠ ((.slice (some ad368) t322.length co13) : Value).ownBlock) (.slice (some ad363) t334.length co83) t334) ∧ Aside0 (Kd.S (Kd.slice 3 (Kd.int .i64)) 31 w' w.heap.size (fun k_ => some k_ ≠ ((.slice (some ad363) t334.length co83) : Value).ownBlock ∧ some k_ ≠ ((.slice (some ad364) x16_3.length co59) : Value).ownBlock ∧ some k_ ≠ ((.slice (some ad363) t334.length co83) : Value).ownBlock ∧ some k_ ≠ ((.slice (some ad368) t322.length co13) : Value).ownBlock) v343 t342) ∧ Aside0 (Kd.R (Kd.int .i64) 3 w' w.heap.size (fun _ => True) (.slice (some ad364) x16_3.length co59) x16_3) ∧ Aside0 (Kd.S (Kd.slice 3 (Kd.int .i64)) 31 w' w.heap.size (fun k_ => some k_ ≠ (v343 : Value).ownBlock ∧ some k_ ≠ ((.slice (some ad364) x16_3.length co59) : Value).ownBlock ∧ some k_ ≠ ((.slice (some ad368) t322.length co13) : Value).ownBlock) (.slice (some ad363) t334.length co83) t334) ∧ Aside0 (Kd.S (Kd.slice 3 (Kd.int .i64)) 31 w' w.heap.size (fun k_ => some k_ ≠ ((.slice (some ad363) t334.length co83) : Value).ownBlock ∧ some k_ ≠ (v343 : Value).ownBlock ∧ some k_ ≠ ((.slice (some ad364) x16_3.length co59) : Value).ownBlock ∧ some k_ ≠ ((.slice (some ad363) t334.length co83) : Value).ownBlock) (.slice (some ad368) t322.length co13) t322) ∧ Aside0 (w'.heap[gb325]? = some (.cells #[(.slice (some ad368) t322.length co13)] 27 (0, 0))) ∧ Aside0 (Kd.C (Kd.int .i64) w' A363_0 (rd_L1 t334 x146_5).length (rd_L1 t334 x146_5)) ∧ Aside0 (Kd.C (Kd.int .i64) w' A368_0 (rd_L1 t322 x146_5).length (rd_L1 t322 x146_5)) ∧ Aside0 (Below w.heap.size w w'))
                                                          case atStart => exact ⟨(0), (by first | rfl | (simp; done) | (simp [*]; done)), H', ⟨Nat.le_refl _⟩, ⟨by (try simp only [hl16_2]); (try simp only [hl16_3]); (with_reducible repeat (first | apply Kd.S_alloc | apply Kd.S_drewN | apply Kd.S_drew)); exact HO_8.out⟩, ⟨by (try simp only [hl16_2]); (try simp only [hl16_3]); (with_reducible repeat (first | apply Kd.S_alloc | apply Kd.S_drewN | apply Kd.S_drew)); exact HO_12.out⟩, ⟨by (try simp only [hl16_2]); (try simp only [hl16_3]); (with_reducible repeat (first | apply Kd.R_alloc | apply Kd.R_drewN | apply Kd.R_drew)); exact HO_16.out⟩, ⟨by (try simp only [hl16_2]); (try simp only [hl16_3]); (with_reducible repeat (first | apply Kd.S_alloc | apply Kd.S_drewN | apply Kd.S_drew)); exact HO_144.out⟩, ⟨by (try simp only [hl16_2]); (try simp only [hl16_3]); (with_reducible repeat (first | apply Kd.S_alloc | apply Kd.S_drewN | apply Kd.S_drew)); exact HO_326000.out⟩, ⟨by (try simp only [hl16_2]); (try simp only [hl16_3]); (with_reducible repeat (first | refine blk_drewN ?_ _ | refine blk_drew ?_ | refine blk_alloc ?_ _)); exact BK325.out⟩, ⟨by repeat (first | (with_reducible exact HR363_0.out) | (with_reducible refine Kd.C_alloc ?_ _) | (with_reducible refine Kd.C_drewN ?_ _) | (with_reducible refine Kd.C_drew ?_) | exact HR363_0.out)⟩, ⟨by repeat (first | (with_reducible exact HR368_0.out) | (with_reducible refine Kd.C_alloc ?_ _) | (with_reducible refine Kd.C_drewN ?_ _) | (with_reducible refine Kd.C_drew ?_) | exact HR368_0.out)⟩, ⟨by repeat (first | (with_reducible first | exact HB.out | apply below_alloc | apply pw_below_drewN | apply below_drew1 | refine below_set ?_ GE325.out) | exact HB.out)⟩⟩
                                                          case round =>
                                                            as_aux_lemma =>
                                                            clear H'
                                                            try clear c1
                                                            try clear c2
                                                            try clear c2b0
                                                            try clear c2b1
                                                            try clear p2
                                                            try clear c3
                                                            try clear p3
                                                            try clear q3
                                                            try clear hx3
                                                            try clear qi3
                                                            try clear c5
                                                            try clear c6
                                                            try clear p6
                                                            try clear q6
                                                            try clear hx6
                                                            try clear hf6
                                                            try clear c7
                                                            try clear p7
                                                            try clear q7
                                                            try clear hx7
                                                            try clear hf7
                                                            try clear c8
                                                            try clear c9
                                                            try clear c10
                                                            try clear c26
                                                            try clear c26b0
                                                            try clear c26b1
                                                            try clear c26b2
                                                            try clear c28
                                                            try clear c29
                                                            try clear c29b0
                                                            try clear c29b1
                                                            try clear c29b2
                                                            try clear c33
                                                            try clear c34
                                                            try clear c34b0
                                                            try clear c34b1
                                                            try clear c34b2
                                                            try clear p35
                                                            try clear q35
                                                            try clear hx35
                                                            try clear c36
                                                            try clear p36
                                                            try clear q36
                                                            try clear hx36
                                                            try clear qi36
                                                            try clear c52
                                                            try clear c53
                                                            try clear c54
                                                            try clear c54b0
                                                            try clear c54b1
                                                            try clear c55
                                                            try clear c55b0
                                                            try clear c55b1
                                                            try clear c60
                                                            try clear c60b0
                                                            try clear c61
                                                            try clear c61b0
                                                            try clear c62
                                                            try clear c62b0
                                                            try clear p63
                                                            try clear q63
                                                            try clear hx63
                                                            try clear hf63
                                                            try clear p64
                                                            try clear c67
                                                            try clear c67b0
                                                            try clear c68
                                                            try clear c68b0
                                                            try clear c69
                                                            try clear c69b0
                                                            try clear c70
                                                            try clear c70b0
                                                            try clear c71
                                                            try clear c71b0
                                                            try clear c72
                                                            try clear c72b0
                                                            try clear p73
                                                            try clear q73
                                                            try clear hx73
                                                            try clear hf73
                                                            try clear c80
                                                            try clear c81
                                                            try clear c81b0
                                                            try clear c81b1
                                                            try clear c82
                                                            try clear c84
                                                            try clear c84b0
                                                            try clear c85
                                                            try clear c85b0
                                                            try clear c86
                                                            try clear c86b0
                                                            try clear c87
                                                            try clear c87b0
                                                            try clear c88
                                                            try clear c88b0
                                                            try clear c88b1
                                                            try clear c88b2
                                                            try clear c89
                                                            try clear c89b0
                                                            try clear c90
                                                            try clear c90b0
                                                            try clear c91
                                                            try clear c91b0
                                                            try clear c92
                                                            try clear c92b0
                                                            try clear c93
                                                            try clear c93b0
                                                            try clear c94
                                                            try clear c94b0
                                                            try clear c95
                                                            try clear c95b0
                                                            try clear c96
                                                            try clear c96b0
                                                            try clear c97
                                                            try clear c97b0
                                                            try clear c98
                                                            try clear c98b0
                                                            try clear hcz14_0
                                                            try clear hcz16_0
                                                            try clear hcz18_0
                                                            try clear hcz20_0
                                                            try clear hcz22_0
                                                            try clear hcz24_0
                                                            try clear hcz56_0
                                                            try clear hcz78_0
                                                            try clear hcz99_0
                                                            try clear hfz14_0
                                                            try clear hfz16_0
                                                            try clear hfz18_0
                                                            try clear hfz20_0
                                                            try clear hfz22_0
                                                            try clear hfz24_0
                                                            try clear hfz56_0
                                                            try clear hfz78_0
                                                            try clear hfz99_0
                                                            try clear hx357_0
                                                            try clear hx358_0
                                                            try clear hx362_0
                                                            try clear hx363_0
                                                            try clear hx364_0
                                                            try clear hx365_0
                                                            try clear hx366_0
                                                            try clear hx367_0
                                                            try clear hx368_0
                                                            try clear hx63_0
                                                            try clear hx73_0
                                                            try clear p2
                                                            try clear p3
                                                            try clear p35
                                                            try clear p357
                                                            try clear p358
                                                            try clear p36
                                                            try clear p362
                                                            try clear p363
                                                            try clear p364
                                                            try clear p365
                                                            try clear p366
                                                            try clear p367
                                                            try clear p368
                                                            try clear p6
                                                            try clear p63
                                                            try clear p64
                                                            try clear p7
                                                            try clear p73
                                                            try clear q3
                                                            try clear q35
                                                            try clear q357
                                                            try clear q358
                                                            try clear q36
                                                            try clear q362
                                                            try clear q363
                                                            try clear q364
                                                            try clear q365
                                                            try clear q366
                                                            try clear q367
                                                            try clear q368
                                                            try clear q6
                                                            try clear q63
                                                            try clear q7
                                                            try clear q73
                                                            obtain ⟨x182_7, rfl, HA, HK7, HO_8, HO_12, HO_16, HO_144, HO_326000, BK325, HR363_0, HR368_0, HB⟩ := hrel
                                                            cases gk with
                                                            | zero => exact absurd HA.out (by simp [laws_FnGraphs.l4])
                                                            | succ k7 =>
                                                              have H := HA.out
                                                              clear HA
                                                              simp only [laws_FnGraphs.l4] at H
                                                              by_cases c100 : x182_7 < ((rd_L1 t322 x146_5).length : Int)
                                                              · rw [if_pos c100] at H
                                                                have c100b0 : decide (x182_7 < ((rd_L1 t322 x146_5).length : Int)) = true := decide_eq_true c100
                                                                (try (have c100b0_h := c100b0; rw [hl16_3] at c100b0_h))
                                                                clear c100
                                                                by_cases c101 : 0 ≤ x182_7
                                                                · rw [if_pos c101] at H
                                                                  have c101b0 : decide (0 ≤ x182_7) = true := decide_eq_true c101
                                                                  clear c101
                                                                  by_cases c102 : x182_7 < ((rd_L1 t322 x146_5).length : Int)
                                                                  · rw [if_pos c102] at H
                                                                    have c102b0 : decide (x182_7 < ((rd_L1 t322 x146_5).length : Int)) = true := decide_eq_true c102
                                                                    (try (have c102b0_h := c102b0; rw [hl16_3] at c102b0_h))
                                                                    clear c102
                                                                    by_cases c103 : 0 ≤ x146_5
                                                                    · rw [if_pos c103] at H
                                                                      have c103b0 : decide (0 ≤ x146_5) = true := decide_eq_true c103
                                                                      clear c103
                                                                      by_cases c104 : x146_5 < (x16_3.length : Int)
                                                                      · rw [if_pos c104] at H
                                                                        have c104b0 : decide (x146_5 < (x16_3.length : Int)) = true := decide_eq_true c104
                                                                        (try (have c104b0_h := c104b0; rw [hl16_3] at c104b0_h))
                                                                        clear c104
                                                                        by_cases c105 : (rd x16_3 x146_5) ≥ 0
                                                                        · rw [if_pos c105] at H
                                                                          have c105b0 : decide (0 ≤ (rd x16_3 x146_5)) = true := decide_eq_true c105
                                                                          clear c105
                                                                          by_cases c106 : 0 ≤ (rd (rd_L1 t322 x146_5) x182_7)
                                                                          · rw [if_pos c106] at H
                                                                            have c106b0 : decide (0 ≤ (rd (rd_L1 t322 x146_5) x182_7)) = true := decide_eq_true c106
                                                                            clear c106
                                                                            by_cases c107 : (rd (rd_L1 t322 x146_5) x182_7) < (x16_3.length : Int)
                                                                            · rw [if_pos c107] at H
                                                                              have c107b0 : decide ((rd (rd_L1 t322 x146_5) x182_7) < (x16_3.length : Int)) = true := decide_eq_true c107
                                                                              (try (have c107b0_h := c107b0; rw [hl16_3] at c107b0_h))
                                                                              clear c107
                                                                              by_cases c108 : (rd x16_3 (rd (rd_L1 t322 x146_5) x182_7)) ≤ (rd x16_3 x146_5)
                                                                              · rw [if_pos c108] at H
                                                                                have c108b0 : decide ((rd x16_3 (rd (rd_L1 t322 x146_5) x182_7)) ≤ (rd x16_3 x146_5)) = true := decide_eq_true c108
                                                                                clear c108
                                                                                by_cases c109 : t360 = true
                                                                                · subst c109
                                                                                  have H1 : (if x146_5 < (t334.length : Int) then ((laws_has.f k7 (rd_L1 t334 x146_5) (rd (rd_L1 t322 x146_5) x182_7)).bind fun t374 => (if t374 = true then (laws_FnGraphs.l4 k7 t334 t342 x16_3 true x146_5 t334 (t334.length : Int) x146_5 (rd_L1 t322 x146_5) ((rd_L1 t322 x146_5).length : Int) (wrap64 (x182_7 + 1)) t322) else (none))) else (none)) = some r := by rw [if_pos rfl] at H; exact H
                                                                                  clear H
                                                                                  have H := H1
                                                                                  clear H1
                                                                                  by_cases c110 : x146_5 < (t334.length : Int)
                                                                                  · rw [if_pos c110] at H
                                                                                    have c110b0 : decide (x146_5 < (t334.length : Int)) = true := decide_eq_true c110
                                                                                    (try (have c110b0_h := c110b0; rw [hl16_3] at c110b0_h))
                                                                                    clear c110
                                                                                    replace H := Option.bind_eq_some_iff.mp H
                                                                                    obtain ⟨t374, A1110, H⟩ := H
                                                                                    replace H : (if t374 = true then (laws_FnGraphs.l4 k7 t334 t342 x16_3 true x146_5 t334 (t334.length : Int) x146_5 (rd_L1 t322 x146_5) ((rd_L1 t322 x146_5).length : Int) (wrap64 (x182_7 + 1)) t322) else (none)) = some r := H
                                                                                    have A111 := Aside0.mk A1110
                                                                                    clear A1110
                                                                                    by_cases c112 : t374 = true
                                                                                    · subst c112
                                                                                      have H1 : (laws_FnGraphs.l4 k7 t334 t342 x16_3 true x146_5 t334 (t334.length : Int) x146_5 (rd_L1 t322 x146_5) ((rd_L1 t322 x146_5).length : Int) (wrap64 (x182_7 + 1)) t322) = some r := by rw [if_pos rfl] at H; exact H
                                                                                      clear H
                                                                                      have H := H1
                                                                                      clear H1
                                                                                      have H' := Aside0.mk H
                                                                                      clear H
                                                                                      have p369 : 0 ≤ (x182_7 : Int) := of_decide_eq_true (by first | (with_reducible assumption) | assumption)
                                                                                      have q369 : x182_7 < ((rd_L1 t322 x146_5).length : Int) := of_decide_eq_true (by first | (with_reducible assumption) | assumption)
                                                                                      obtain ⟨ad369, e369, hx369_0⟩ := Kd.at_int HR368_0.out x182_7 p369 q369
                                                                                      cases e369
                                                                                      replace p369 := eq_true p369
                                                                                      replace q369 := eq_true q369
                                                                                      have p370 : 0 ≤ (x146_5 : Int) := of_decide_eq_true (by first | (with_reducible assumption) | assumption)
                                                                                      have q370 : x146_5 < (x16_3.length : Int) := of_decide_eq_true (by first | (with_reducible assumption) | assumption)
                                                                                      obtain ⟨ad370, e370, hx370_0⟩ := Kd.at_int (Kd.R_reads' HO_16.out).2.2 x146_5 p370 q370
                                                                                      obtain rfl : ad364 = ad370 := (by injection e370)
                                                                                      replace p370 := eq_true p370
                                                                                      replace q370 := eq_true q370
                                                                                      have p371 : 0 ≤ ((rd (rd_L1 t322 x146_5) x182_7) : Int) := of_decide_eq_true (by first | (with_reducible assumption) | assumption)
                                                                                      have q371 : (rd (rd_L1 t322 x146_5) x182_7) < (x16_3.length : Int) := of_decide_eq_true (by first | (with_reducible assumption) | assumption)
                                                                                      obtain ⟨ad371, e371, hx371_0⟩ := Kd.at_int (Kd.R_reads' HO_16.out).2.2 (rd (rd_L1 t322 x146_5) x182_7) p371 q371
                                                                                      obtain rfl : ad364 = ad371 := (by injection e371)
                                                                                      replace p371 := eq_true p371
                                                                                      replace q371 := eq_true q371
                                                                                      have p372 : 0 ≤ (x146_5 : Int) := of_decide_eq_true (by first | (with_reducible assumption) | assumption)
                                                                                      have q372 : x146_5 < (x16_3.length : Int) := of_decide_eq_true (by first | (with_reducible assumption) | assumption)
                                                                                      obtain ⟨ad372, e372, hx372_0⟩ := Kd.at_int (Kd.R_reads' HO_16.out).2.2 x146_5 p372 q372
                                                                                      obtain rfl : ad364 = ad372 := (by injection e372)
                                                                                      replace p372 := eq_true p372
                                                                                      replace q372 := eq_true q372
                                                                                      have p373 : 0 ≤ (x146_5 : Int) := of_decide_eq_true (by first | (with_reducible assumption) | assumption)
                                                                                      have q373 : x146_5 < (t334.length : Int) := of_decide_eq_true (by first | (with_reducible assumption) | assumption)
                                                                                      obtain ⟨ad373, A373_0, c373_0, e373, hx373_0, hl373_0, hi373_0⟩ := at_L1 (Kd.S_reads' HO_8.out).2.2 x146_5 p373 q373
                                                                                      obtain rfl : ad363 = ad373 := (by injection e373)
                                                                                      obtain ⟨ce373, hce373, hMe373, hcc373⟩ := Kd.S_get HO_8.out [] x146_5 p373 (by first | exact q373 | exact of_decide_eq_true (by first | (with_reducible assumption) | assumption) | (have e_ := (Kd.S_reads' HO_8.out).1; omega))
                                                                                      obtain ⟨ve373_0, rfl, ge373_0⟩ := hMe373
                                                                                      have hv373_0 := hcc373 0 _ rfl
                                                                                      rw [Nat.add_zero, show ((Kd.slice 3 (Kd.int .i64))).sz = 1 from rfl, Nat.mul_one] at hv373_0
                                                                                      replace hv373_0 := Option.some.inj (hv373_0.symm.trans hx373_0)
                                                                                      rw [hv373_0] at ge373_0
                                                                                      have HL373_0 := Aside0.mk (show Kd.R (Kd.int .i64) 3 _ _ _ _ (rd_L1 t334 x146_5) from ge373_0)
                                                                                      clear hv373_0 ge373_0
                                                                                      clear hcc373 hce373
                                                                                      have HR373_0 := Aside0.mk hi373_0
                                                                                      have HC373_0 := Aside0.mk hl373_0
                                                                                      clear hi373_0 hl373_0
                                                                                      replace p373 := eq_true p373
                                                                                      replace q373 := eq_true q373
                                                                                      go_wp2_with (first | (go_at_call 39; (with_reducible refine (laws_has.calls k7 _ _ (rd_L1 t334 x146_5) (rd (rd_L1 t322 x146_5) x182_7) true _ ?side1 ?side2 A111.out).mono ?_); (case side1 => repeat (first | exact (by repeat (first | (with_reducible exact HR373_0.out) | (with_reducible refine Kd.C_alloc ?_ _) | (with_reducible refine Kd.C_drewN ?_ _) | (with_reducible refine Kd.C_drew ?_) | exact HR373_0.out)) | (with_reducible refine Kd.C_alloc ?_ _) | (with_reducible refine Kd.C_drewN ?_ _) | (with_reducible refine Kd.C_drew ?_))); (case side2 => exact HC373_0.out); rintro e w' ⟨rfl, ⟨nd, rfl⟩⟩; (try first | exact ⟨rfl, _, World.drewN_drewN _ _ _⟩ | exact ⟨rfl, _, Eq.trans (World.drewN_drewN _ _ _) (congrArg (World.drewN _) (Nat.add_assoc _ _ _))⟩)))
                                                                                      repeat (go_quiet (first | (go_at_call 39; (with_reducible refine (laws_has.calls k7 _ _ (rd_L1 t334 x146_5) (rd (rd_L1 t322 x146_5) x182_7) true _ ?side1 ?side2 A111.out).mono ?_); (case side1 => repeat (first | exact (by repeat (first | (with_reducible exact HR373_0.out) | (with_reducible refine Kd.C_alloc ?_ _) | (with_reducible refine Kd.C_drewN ?_ _) | (with_reducible refine Kd.C_drew ?_) | exact HR373_0.out)) | (with_reducible refine Kd.C_alloc ?_ _) | (with_reducible refine Kd.C_drewN ?_ _) | (with_reducible refine Kd.C_drew ?_))); (case side2 => exact HC373_0.out); rintro e w' ⟨rfl, ⟨nd, rfl⟩⟩; (try first | exact ⟨rfl, _, World.drewN_drewN _ _ _⟩ | exact ⟨rfl, _, Eq.trans (World.drewN_drewN _ _ _) (congrArg (World.drewN _) (Nat.add_assoc _ _ _))⟩))); try go_wp2_with (first | (go_at_call 39; (with_reducible refine (laws_has.calls k7 _ _ (rd_L1 t334 x146_5) (rd (rd_L1 t322 x146_5) x182_7) true _ ?side1 ?side2 A111.out).mono ?_); (case side1 => repeat (first | exact (by repeat (first | (with_reducible exact HR373_0.out) | (with_reducible refine Kd.C_alloc ?_ _) | (with_reducible refine Kd.C_drewN ?_ _) | (with_reducible refine Kd.C_drew ?_) | exact HR373_0.out)) | (with_reducible refine Kd.C_alloc ?_ _) | (with_reducible refine Kd.C_drewN ?_ _) | (with_reducible refine Kd.C_drew ?_))); (case side2 => exact HC373_0.out); rintro e w' ⟨rfl, ⟨nd, rfl⟩⟩; (try first | exact ⟨rfl, _, World.drewN_drewN _ _ _⟩ | exact ⟨rfl, _, Eq.trans (World.drewN_drewN _ _ _) (congrArg (World.drewN _) (Nat.add_assoc _ _ _))⟩))))
                                                                                      go_roundg k7
                                                                                      case measure => have := HJ9.out; have := HK2.out; have := HK3.out; have := HJ76.out; have := HK5.out; have := HK6.out; have := HK7.out; omega
                                                                                      case rel => exact ⟨(wrap64 (x182_7 + 1)), (by first | rfl | (simp; done) | (simp [*]; done)), H', ⟨by have := HJ9.out; have := HK2.out; have := HK3.out; have := HJ76.out; have := HK5.out; have := HK6.out; have := HK7.out; omega⟩, ⟨by (try simp only [hl16_2]); (try simp only [hl16_3]); (with_reducible repeat (first | apply Kd.S_alloc | apply Kd.S_drewN | apply Kd.S_drew)); exact HO_8.out⟩, ⟨by (try simp only [hl16_2]); (try simp only [hl16_3]); (with_reducible repeat (first | apply Kd.S_alloc | apply Kd.S_drewN | apply Kd.S_drew)); exact HO_12.out⟩, ⟨by (try simp only [hl16_2]); (try simp only [hl16_3]); (with_reducible repeat (first | apply Kd.R_alloc | apply Kd.R_drewN | apply Kd.R_drew)); exact HO_16.out⟩, ⟨by (try simp only [hl16_2]); (try simp only [hl16_3]); (with_reducible repeat (first | apply Kd.S_alloc | apply Kd.S_drewN | apply Kd.S_drew)); exact HO_144.out⟩, ⟨by (try simp only [hl16_2]); (try simp only [hl16_3]); (with_reducible repeat (first | apply Kd.S_alloc | apply Kd.S_drewN | apply Kd.S_drew)); exact HO_326000.out⟩, ⟨by (try simp only [hl16_2]); (try simp only [hl16_3]); (with_reducible repeat (first | refine blk_drewN ?_ _ | refine blk_drew ?_ | refine blk_alloc ?_ _)); exact BK325.out⟩, ⟨by repeat (first | (with_reducible exact HR363_0.out) | (with_reducible refine Kd.C_alloc ?_ _) | (with_reducible refine Kd.C_drewN ?_ _) | (with_reducible refine Kd.C_drew ?_) | exact HR363_0.out)⟩, ⟨by repeat (first | (with_reducible exact HR368_0.out) | (with_reducible refine Kd.C_alloc ?_ _) | (with_reducible refine Kd.C_drewN ?_ _) | (with_reducible refine Kd.C_drew ?_) | exact HR368_0.out)⟩, ⟨by repeat (first | (with_reducible first | exact HB.out | apply below_alloc | apply pw_below_drewN | apply below_drew1 | refine below_set ?_ GE325.out) | exact HB.out)⟩⟩
                                                                                    · replace c112 := Bool.eq_false_iff.mpr c112
                                                                                      subst c112
                                                                                      have H1 : (none) = some r := by rw [if_neg (show ¬ (false = true) by decide)] at H; exact H
                                                                                      exact absurd H1 (by simp)
                                                                                  · rw [if_neg c110] at H
                                                                                    exact absurd H (by simp)
                                                                                · replace c109 := Bool.eq_false_iff.mpr c109
                                                                                  subst c109
                                                                                  have H1 : (laws_FnGraphs.l4 k7 t334 t342 x16_3 false x146_5 t334 (t334.length : Int) x146_5 (rd_L1 t322 x146_5) ((rd_L1 t322 x146_5).length : Int) (wrap64 (x182_7 + 1)) t322) = some r := by rw [if_neg (show ¬ (false = true) by decide)] at H; exact H
                                                                                  clear H
                                                                                  have H := H1
                                                                                  clear H1
                                                                                  have H' := Aside0.mk H
                                                                                  clear H
                                                                                  have p369 : 0 ≤ (x182_7 : Int) := of_decide_eq_true (by first | (with_reducible assumption) | assumption)
                                                                                  have q369 : x182_7 < ((rd_L1 t322 x146_5).length : Int) := of_decide_eq_true (by first | (with_reducible assumption) | assumption)
                                                                                  obtain ⟨ad369, e369, hx369_0⟩ := Kd.at_int HR368_0.out x182_7 p369 q369
                                                                                  cases e369
                                                                                  replace p369 := eq_true p369
                                                                                  replace q369 := eq_true q369
                                                                                  have p370 : 0 ≤ (x146_5 : Int) := of_decide_eq_true (by first | (with_reducible assumption) | assumption)
                                                                                  have q370 : x146_5 < (x16_3.length : Int) := of_decide_eq_true (by first | (with_reducible assumption) | assumption)
                                                                                  obtain ⟨ad370, e370, hx370_0⟩ := Kd.at_int (Kd.R_reads' HO_16.out).2.2 x146_5 p370 q370
                                                                                  obtain rfl : ad364 = ad370 := (by injection e370)
                                                                                  replace p370 := eq_true p370
                                                                                  replace q370 := eq_true q370
                                                                                  have p371 : 0 ≤ ((rd (rd_L1 t322 x146_5) x182_7) : Int) := of_decide_eq_true (by first | (with_reducible assumption) | assumption)
                                                                                  have q371 : (rd (rd_L1 t322 x146_5) x182_7) < (x16_3.length : Int) := of_decide_eq_true (by first | (with_reducible assumption) | assumption)
                                                                                  obtain ⟨ad371, e371, hx371_0⟩ := Kd.at_int (Kd.R_reads' HO_16.out).2.2 (rd (rd_L1 t322 x146_5) x182_7) p371 q371
                                                                                  obtain rfl : ad364 = ad371 := (by injection e371)
                                                                                  replace p371 := eq_true p371
                                                                                  replace q371 := eq_true q371
                                                                                  have p372 : 0 ≤ (x146_5 : Int) := of_decide_eq_true (by first | (with_reducible assumption) | assumption)
                                                                                  have q372 : x146_5 < (x16_3.length : Int) := of_decide_eq_true (by first | (with_reducible assumption) | assumption)
                                                                                  obtain ⟨ad372, e372, hx372_0⟩ := Kd.at_int (Kd.R_reads' HO_16.out).2.2 x146_5 p372 q372
                                                                                  obtain rfl : ad364 = ad372 := (by injection e372)
                                                                                  replace p372 := eq_true p372
                                                                                  replace q372 := eq_true q372
                                                                                  go_wp2
                                                                                  repeat (go_quiet (fail); try go_wp2)
                                                                                  go_roundg k7
                                                                                  case measure => have := HJ9.out; have := HK2.out; have := HK3.out; have := HJ76.out; have := HK5.out; have := HK6.out; have := HK7.out; omega
                                                                                  case rel => exact ⟨(wrap64 (x182_7 + 1)), (by first | rfl | (simp; done) | (simp [*]; done)), H', ⟨by have := HJ9.out; have := HK2.out; have := HK3.out; have := HJ76.out; have := HK5.out; have := HK6.out; have := HK7.out; omega⟩, ⟨by (try simp only [hl16_2]); (try simp only [hl16_3]); (with_reducible repeat (first | apply Kd.S_alloc | apply Kd.S_drewN | apply Kd.S_drew)); exact HO_8.out⟩, ⟨by (try simp only [hl16_2]); (try simp only [hl16_3]); (with_reducible repeat (first | apply Kd.S_alloc | apply Kd.S_drewN | apply Kd.S_drew)); exact HO_12.out⟩, ⟨by (try simp only [hl16_2]); (try simp only [hl16_3]); (with_reducible repeat (first | apply Kd.R_alloc | apply Kd.R_drewN | apply Kd.R_drew)); exact HO_16.out⟩, ⟨by (try simp only [hl16_2]); (try simp only [hl16_3]); (with_reducible repeat (first | apply Kd.S_alloc | apply Kd.S_drewN | apply Kd.S_drew)); exact HO_144.out⟩, ⟨by (try simp only [hl16_2]); (try simp only [hl16_3]); (with_reducible repeat (first | apply Kd.S_alloc | apply Kd.S_drewN | apply Kd.S_drew)); exact HO_326000.out⟩, ⟨by (try simp only [hl16_2]); (try simp only [hl16_3]); (with_reducible repeat (first | refine blk_drewN ?_ _ | refine blk_drew ?_ | refine blk_alloc ?_ _)); exact BK325.out⟩, ⟨by repeat (first | (with_reducible exact HR363_0.out) | (with_reducible refine Kd.C_alloc ?_ _) | (with_reducible refine Kd.C_drewN ?_ _) | (with_reducible refine Kd.C_drew ?_) | exact HR363_0.out)⟩, ⟨by repeat (first | (with_reducible exact HR368_0.out) | (with_reducible refine Kd.C_alloc ?_ _) | (with_reducible refine Kd.C_drewN ?_ _) | (with_reducible refine Kd.C_drew ?_) | exact HR368_0.out)⟩, ⟨by repeat (first | (with_reducible first | exact HB.out | apply below_alloc | apply pw_below_drewN | apply below_drew1 | refine below_set ?_ GE325.out) | exact HB.out)⟩⟩
                                                                              · rw [if_neg c108] at H
                                                                                have c108b0 : decide ((rd x16_3 (rd (rd_L1 t322 x146_5) x182_7)) ≤ (rd x16_3 x146_5)) = false := decide_eq_false c108
                                                                                clear c108
                                                                                have H' := Aside0.mk H
                                                                                clear H
                                                                                have p369 : 0 ≤ (x182_7 : Int) := of_decide_eq_true (by first | (with_reducible assumption) | assumption)
                                                                                have q369 : x182_7 < ((rd_L1 t322 x146_5).length : Int) := of_decide_eq_true (by first | (with_reducible assumption) | assumption)
                                                                                obtain ⟨ad369, e369, hx369_0⟩ := Kd.at_int HR368_0.out x182_7 p369 q369
                                                                                cases e369
                                                                                replace p369 := eq_true p369
                                                                                replace q369 := eq_true q369
                                                                                have p370 : 0 ≤ (x146_5 : Int) := of_decide_eq_true (by first | (with_reducible assumption) | assumption)
                                                                                have q370 : x146_5 < (x16_3.length : Int) := of_decide_eq_true (by first | (with_reducible assumption) | assumption)
                                                                                obtain ⟨ad370, e370, hx370_0⟩ := Kd.at_int (Kd.R_reads' HO_16.out).2.2 x146_5 p370 q370
                                                                                obtain rfl : ad364 = ad370 := (by injection e370)
                                                                                replace p370 := eq_true p370
                                                                                replace q370 := eq_true q370
                                                                                have p371 : 0 ≤ ((rd (rd_L1 t322 x146_5) x182_7) : Int) := of_decide_eq_true (by first | (with_reducible assumption) | assumption)
                                                                                have q371 : (rd (rd_L1 t322 x146_5) x182_7) < (x16_3.length : Int) := of_decide_eq_true (by first | (with_reducible assumption) | assumption)
                                                                                obtain ⟨ad371, e371, hx371_0⟩ := Kd.at_int (Kd.R_reads' HO_16.out).2.2 (rd (rd_L1 t322 x146_5) x182_7) p371 q371
                                                                                obtain rfl : ad364 = ad371 := (by injection e371)
                                                                                replace p371 := eq_true p371
                                                                                replace q371 := eq_true q371
                                                                                have p372 : 0 ≤ (x146_5 : Int) := of_decide_eq_true (by first | (with_reducible assumption) | assumption)
                                                                                have q372 : x146_5 < (x16_3.length : Int) := of_decide_eq_true (by first | (with_reducible assumption) | assumption)
                                                                                obtain ⟨ad372, e372, hx372_0⟩ := Kd.at_int (Kd.R_reads' HO_16.out).2.2 x146_5 p372 q372
                                                                                obtain rfl : ad364 = ad372 := (by injection e372)
                                                                                replace p372 := eq_true p372
                                                                                replace q372 := eq_true q372
                                                                                go_wp2
                                                                                repeat (go_quiet (fail); try go_wp2)
                                                                                go_roundg k7
                                                                                case measure => have := HJ9.out; have := HK2.out; have := HK3.out; have := HJ76.out; have := HK5.out; have := HK6.out; have := HK7.out; omega
                                                                                case rel => exact ⟨(wrap64 (x182_7 + 1)), (by first | rfl | (simp; done) | (simp [*]; done)), H', ⟨by have := HJ9.out; have := HK2.out; have := HK3.out; have := HJ76.out; have := HK5.out; have := HK6.out; have := HK7.out; omega⟩, ⟨by (try simp only [hl16_2]); (try simp only [hl16_3]); (with_reducible repeat (first | apply Kd.S_alloc | apply Kd.S_drewN | apply Kd.S_drew)); exact HO_8.out⟩, ⟨by (try simp only [hl16_2]); (try simp only [hl16_3]); (with_reducible repeat (first | apply Kd.S_alloc | apply Kd.S_drewN | apply Kd.S_drew)); exact HO_12.out⟩, ⟨by (try simp only [hl16_2]); (try simp only [hl16_3]); (with_reducible repeat (first | apply Kd.R_alloc | apply Kd.R_drewN | apply Kd.R_drew)); exact HO_16.out⟩, ⟨by (try simp only [hl16_2]); (try simp only [hl16_3]); (with_reducible repeat (first | apply Kd.S_alloc | apply Kd.S_drewN | apply Kd.S_drew)); exact HO_144.out⟩, ⟨by (try simp only [hl16_2]); (try simp only [hl16_3]); (with_reducible repeat (first | apply Kd.S_alloc | apply Kd.S_drewN | apply Kd.S_drew)); exact HO_326000.out⟩, ⟨by (try simp only [hl16_2]); (try simp only [hl16_3]); (with_reducible repeat (first | refine blk_drewN ?_ _ | refine blk_drew ?_ | refine blk_alloc ?_ _)); exact BK325.out⟩, ⟨by repeat (first | (with_reducible exact HR363_0.out) | (with_reducible refine Kd.C_alloc ?_ _) | (with_reducible refine Kd.C_drewN ?_ _) | (with_reducible refine Kd.C_drew ?_) | exact HR363_0.out)⟩, ⟨by repeat (first | (with_reducible exact HR368_0.out) | (with_reducible refine Kd.C_alloc ?_ _) | (with_reducible refine Kd.C_drewN ?_ _) | (with_reducible refine Kd.C_drew ?_) | exact HR368_0.out)⟩, ⟨by repeat (first | (with_reducible first | exact HB.out | apply below_alloc | apply pw_below_drewN | apply below_drew1 | refine below_set ?_ GE325.out) | exact HB.out)⟩⟩
                                                                            · rw [if_neg c107] at H
                                                                              exact absurd H (by simp)
                                                                          · rw [if_neg c106] at H
                                                                            exact absurd H (by simp)
                                                                        · rw [if_neg c105] at H
                                                                          have c105b0 : decide (0 ≤ (rd x16_3 x146_5)) = false := decide_eq_false c105
                                                                          clear c105
                                                                          have H' := Aside0.mk H
                                                                          clear H
                                                                          have p369 : 0 ≤ (x182_7 : Int) := of_decide_eq_true (by first | (with_reducible assumption) | assumption)
                                                                          have q369 : x182_7 < ((rd_L1 t322 x146_5).length : Int) := of_decide_eq_true (by first | (with_reducible assumption) | assumption)
                                                                          obtain ⟨ad369, e369, hx369_0⟩ := Kd.at_int HR368_0.out x182_7 p369 q369
                                                                          cases e369
                                                                          replace p369 := eq_true p369
                                                                          replace q369 := eq_true q369
                                                                          have p370 : 0 ≤ (x146_5 : Int) := of_decide_eq_true (by first | (with_reducible assumption) | assumption)
                                                                          have q370 : x146_5 < (x16_3.length : Int) := of_decide_eq_true (by first | (with_reducible assumption) | assumption)
                                                                          obtain ⟨ad370, e370, hx370_0⟩ := Kd.at_int (Kd.R_reads' HO_16.out).2.2 x146_5 p370 q370
                                                                          obtain rfl : ad364 = ad370 := (by injection e370)
                                                                          replace p370 := eq_true p370
                                                                          replace q370 := eq_true q370
                                                                          go_wp2
                                                                          repeat (go_quiet (fail); try go_wp2)
                                                                          go_roundg k7
                                                                          case measure => have := HJ9.out; have := HK2.out; have := HK3.out; have := HJ76.out; have := HK5.out; have := HK6.out; have := HK7.out; omega
                                                                          case rel => exact ⟨(wrap64 (x182_7 + 1)), (by first | rfl | (simp; done) | (simp [*]; done)), H', ⟨by have := HJ9.out; have := HK2.out; have := HK3.out; have := HJ76.out; have := HK5.out; have := HK6.out; have := HK7.out; omega⟩, ⟨by (try simp only [hl16_2]); (try simp only [hl16_3]); (with_reducible repeat (first | apply Kd.S_alloc | apply Kd.S_drewN | apply Kd.S_drew)); exact HO_8.out⟩, ⟨by (try simp only [hl16_2]); (try simp only [hl16_3]); (with_reducible repeat (first | apply Kd.S_alloc | apply Kd.S_drewN | apply Kd.S_drew)); exact HO_12.out⟩, ⟨by (try simp only [hl16_2]); (try simp only [hl16_3]); (with_reducible repeat (first | apply Kd.R_alloc | apply Kd.R_drewN | apply Kd.R_drew)); exact HO_16.out⟩, ⟨by (try simp only [hl16_2]); (try simp only [hl16_3]); (with_reducible repeat (first | apply Kd.S_alloc | apply Kd.S_drewN | apply Kd.S_drew)); exact HO_144.out⟩, ⟨by (try simp only [hl16_2]); (try simp only [hl16_3]); (with_reducible repeat (first | apply Kd.S_alloc | apply Kd.S_drewN | apply Kd.S_drew)); exact HO_326000.out⟩, ⟨by (try simp only [hl16_2]); (try simp only [hl16_3]); (with_reducible repeat (first | refine blk_drewN ?_ _ | refine blk_drew ?_ | refine blk_alloc ?_ _)); exact BK325.out⟩, ⟨by repeat (first | (with_reducible exact HR363_0.out) | (with_reducible refine Kd.C_alloc ?_ _) | (with_reducible refine Kd.C_drewN ?_ _) | (with_reducible refine Kd.C_drew ?_) | exact HR363_0.out)⟩, ⟨by repeat (first | (with_reducible exact HR368_0.out) | (with_reducible refine Kd.C_alloc ?_ _) | (with_reducible refine Kd.C_drewN ?_ _) | (with_reducible refine Kd.C_drew ?_) | exact HR368_0.out)⟩, ⟨by repeat (first | (with_reducible first | exact HB.out | apply below_alloc | apply pw_below_drewN | apply below_drew1 | refine below_set ?_ GE325.out) | exact HB.out)⟩⟩
                                                                      · rw [if_neg c104] at H
                                                                        exact absurd H (by simp)
                                                                    · rw [if_neg c103] at H
                                                                      exact absurd H (by simp)
                                                                  · rw [if_neg c102] at H
                                                                    exact absurd H (by simp)
                                                                · rw [if_neg c101] at H
                                                                  exact absurd H (by simp)
                                                              · rw [if_neg c100] at H
                                                                have c100b0 : decide (x182_7 < ((rd_L1 t322 x146_5).length : Int)) = false := decide_eq_false c100
                                                                (try (have c100b0_h := c100b0; rw [hl16_3] at c100b0_h))
                                                                clear c100
                                                                have H' := Aside0.mk H
                                                                clear H
                                                                go_wp2
                                                                go_roundg k7
                                                                case measure => have := HJ9.out; have := HK2.out; have := HK3.out; have := HJ76.out; have := HK5.out; have := HK6.out; have := HK7.out; omega
                                                                case rel => exact ⟨(wrap64 (x146_5 + 1)), (by first | rfl | (simp; done) | (simp [*]; done)), H', ⟨by have := HJ9.out; have := HK2.out; have := HK3.out; have := HJ76.out; have := HK5.out; have := HK6.out; have := HK7.out; omega⟩, ⟨by (try simp only [hl16_2]); (try simp only [hl16_3]); (with_reducible repeat (first | apply Kd.S_alloc | apply Kd.S_drewN | apply Kd.S_drew)); exact HO_8.out⟩, ⟨by (try simp only [hl16_2]); (try simp only [hl16_3]); (with_reducible repeat (first | apply Kd.S_alloc | apply Kd.S_drewN | apply Kd.S_drew)); exact HO_12.out⟩, ⟨by (try simp only [hl16_2]); (try simp only [hl16_3]); (with_reducible repeat (first | apply Kd.R_alloc | apply Kd.R_drewN | apply Kd.R_drew)); exact HO_16.out⟩, ⟨by (try simp only [hl16_2]); (try simp only [hl16_3]); (with_reducible repeat (first | apply Kd.S_alloc | apply Kd.S_drewN | apply Kd.S_drew)); exact HO_144.out⟩, ⟨by (try simp only [hl16_2]); (try simp only [hl16_3]); (with_reducible repeat (first | apply Kd.S_alloc | apply Kd.S_drewN | apply Kd.S_drew)); exact HO_326000.out⟩, ⟨by (try simp only [hl16_2]); (try simp only [hl16_3]); (with_reducible repeat (first | refine blk_drewN ?_ _ | refine blk_drew ?_ | refine blk_alloc ?_ _)); exact BK325.out⟩, ⟨by repeat (first | (with_reducible first | exact HB.out | apply below_alloc | apply pw_below_drewN | apply below_drew1 | refine below_set ?_ GE325.out) | exact HB.out)⟩⟩
                                                        · rw [if_neg c98] at H
                                                          exact absurd H (by simp)
                                                      · rw [if_neg c97] at H
                                                        exact absurd H (by simp)
                                            · rw [if_neg c87] at H
                                              exact absurd H (by simp)
                                          · rw [if_neg c86] at H
                                            exact absurd H (by simp)
                                        · rw [if_neg c85] at H
                                          exact absurd H (by simp)
                                      · rw [if_neg c84] at H
                                        have c84b0 : decide (x146_5 < (t334.length : Int)) = false := decide_eq_false c84
                                        (try (have c84b0_h := c84b0; rw [hl16_3] at c84b0_h))
                                        clear c84
                                        have H' := Aside0.mk H
                                        clear H
                                        obtain ⟨Ao113, co113, eo113⟩ := Kd.S_slice HO_12.out
                                        subst eo113
                                        go_wp2
                                        go_loopg [218] k5 (fun kq v218 w' => ∃ (x218_6 : Int), v218 = .int .i64 x218_6 ∧ Aside0 (laws_FnGraphs.l5 kq t334 t342 (t342.length : Int) x218_6 t322 = some r) ∧ Aside0 (kq ≤ k5) ∧ Aside0 (Kd.S (Kd.slice 3 (Kd.int .i64)) 31 w' w.heap.size (fun k_ => some k_ ≠ ((.slice Ao113 t342.length co113) : Value).ownBlock ∧ some k_ ≠ ((.slice Ao13 t322.length co13) : Value).ownBlock) (.slice Ao83 t334.length co83) t334) ∧ Aside0 (Kd.S (Kd.slice 3 (Kd.int .i64)) 31 w' w.heap.size (fun k_ => some k_ ≠ ((.slice Ao83 t334.length co83) : Value).ownBlock ∧ some k_ ≠ ((.slice Ao13 t322.length co13) : Value).ownBlock) (.slice Ao113 t342.length co113) t342) ∧ Aside0 (Kd.S (Kd.slice 3 (Kd.int .i64)) 31 w' w.heap.size (fun k_ => some k_ ≠ ((.slice Ao83 t334.length co83) : Value).ownBlock ∧ some k_ ≠ ((.slice Ao113 t342.length co113) : Value).ownBlock) (.slice Ao13 t322.length co13) t322) ∧ Aside0 (w'.heap[gb325]? = some (.cells #[(.slice Ao13 t322.length co13)] 27 (0, 0))) ∧ Aside0 (Below w.heap.size w w'))
                                        case atStart => exact ⟨(0), (by first | rfl | (simp; done) | (simp [*]; done)), H', ⟨Nat.le_refl _⟩, ⟨by (try simp only [hl16_2]); (try simp only [hl16_3]); (with_reducible repeat (first | apply Kd.S_alloc | apply Kd.S_drewN | apply Kd.S_drew)); exact Kd.S_mono HO_8.out (fun _ hk => ⟨hk.1, hk.2.2⟩)⟩, ⟨by (try simp only [hl16_2]); (try simp only [hl16_3]); (with_reducible repeat (first | apply Kd.S_alloc | apply Kd.S_drewN | apply Kd.S_drew)); exact Kd.S_mono HO_12.out (fun _ hk => ⟨hk.1, hk.2.2.2⟩)⟩, ⟨by (try simp only [hl16_2]); (try simp only [hl16_3]); (with_reducible repeat (first | apply Kd.S_alloc | apply Kd.S_drewN | apply Kd.S_drew)); exact Kd.S_mono HO_326000.out (fun _ hk => ⟨hk.1, hk.2.1⟩)⟩, ⟨by (try simp only [hl16_2]); (try simp only [hl16_3]); (with_reducible repeat (first | refine blk_drewN ?_ _ | refine blk_drew ?_ | refine blk_alloc ?_ _)); exact BK325.out⟩, ⟨by repeat (first | (with_reducible first | exact HB.out | apply below_alloc | apply pw_below_drewN | apply below_drew1 | refine below_set ?_ GE325.out) | exact HB.out)⟩⟩
                                        case round =>
                                          as_aux_lemma =>
                                          clear H'
                                          try clear c1
                                          try clear c2
                                          try clear c2b0
                                          try clear c2b1
                                          try clear p2
                                          try clear c3
                                          try clear p3
                                          try clear q3
                                          try clear hx3
                                          try clear qi3
                                          try clear c5
                                          try clear c6
                                          try clear p6
                                          try clear q6
                                          try clear hx6
                                          try clear hf6
                                          try clear c7
                                          try clear p7
                                          try clear q7
                                          try clear hx7
                                          try clear hf7
                                          try clear c8
                                          try clear c9
                                          try clear c10
                                          try clear c11
                                          try clear c26
                                          try clear c26b0
                                          try clear c26b1
                                          try clear c26b2
                                          try clear c28
                                          try clear c29
                                          try clear c29b0
                                          try clear c29b1
                                          try clear c29b2
                                          try clear c33
                                          try clear c34
                                          try clear c34b0
                                          try clear c34b1
                                          try clear c34b2
                                          try clear p35
                                          try clear q35
                                          try clear hx35
                                          try clear c36
                                          try clear p36
                                          try clear q36
                                          try clear hx36
                                          try clear qi36
                                          try clear c37
                                          try clear p37
                                          try clear q37
                                          try clear hx37
                                          try clear c52
                                          try clear c53
                                          try clear c54
                                          try clear c54b0
                                          try clear c54b1
                                          try clear c55
                                          try clear c55b0
                                          try clear c55b1
                                          try clear c60
                                          try clear c60b0
                                          try clear c61
                                          try clear c61b0
                                          try clear c62
                                          try clear c62b0
                                          try clear p63
                                          try clear q63
                                          try clear hx63
                                          try clear hf63
                                          try clear p64
                                          try clear c67
                                          try clear c67b0
                                          try clear c68
                                          try clear c68b0
                                          try clear c69
                                          try clear c69b0
                                          try clear c70
                                          try clear c70b0
                                          try clear c71
                                          try clear c71b0
                                          try clear c72
                                          try clear c72b0
                                          try clear p73
                                          try clear q73
                                          try clear hx73
                                          try clear hf73
                                          try clear c80
                                          try clear c81
                                          try clear c81b0
                                          try clear c81b1
                                          try clear c82
                                          try clear c84
                                          try clear c84b0
                                          try clear c85
                                          try clear c85b0
                                          try clear c86
                                          try clear c86b0
                                          try clear c87
                                          try clear c87b0
                                          try clear c88
                                          try clear c88b0
                                          try clear c88b1
                                          try clear c88b2
                                          try clear c89
                                          try clear c89b0
                                          try clear c90
                                          try clear c90b0
                                          try clear c91
                                          try clear c91b0
                                          try clear c92
                                          try clear c92b0
                                          try clear c93
                                          try clear c93b0
                                          try clear c94
                                          try clear c94b0
                                          try clear c95
                                          try clear c95b0
                                          try clear c96
                                          try clear c96b0
                                          try clear c97
                                          try clear c97b0
                                          try clear c98
                                          try clear c98b0
                                          try clear c100
                                          try clear c100b0
                                          try clear c101
                                          try clear c101b0
                                          try clear c102
                                          try clear c102b0
                                          try clear c103
                                          try clear c103b0
                                          try clear c104
                                          try clear c104b0
                                          try clear c105
                                          try clear c105b0
                                          try clear c106
                                          try clear c106b0
                                          try clear c107
                                          try clear c107b0
                                          try clear c108
                                          try clear c108b0
                                          try clear c109
                                          try clear c110
                                          try clear c110b0
                                          try clear c112
                                          try clear hcz14_0
                                          try clear hcz16_0
                                          try clear hcz18_0
                                          try clear hcz20_0
                                          try clear hcz22_0
                                          try clear hcz24_0
                                          try clear hcz56_0
                                          try clear hcz78_0
                                          try clear hcz99_0
                                          try clear hfz14_0
                                          try clear hfz16_0
                                          try clear hfz18_0
                                          try clear hfz20_0
                                          try clear hfz22_0
                                          try clear hfz24_0
                                          try clear hfz56_0
                                          try clear hfz78_0
                                          try clear hfz99_0
                                          try clear hx357_0
                                          try clear hx358_0
                                          try clear hx362_0
                                          try clear hx363_0
                                          try clear hx364_0
                                          try clear hx365_0
                                          try clear hx366_0
                                          try clear hx367_0
                                          try clear hx368_0
                                          try clear hx369_0
                                          try clear hx370_0
                                          try clear hx371_0
                                          try clear hx372_0
                                          try clear hx373_0
                                          try clear hx63_0
                                          try clear hx73_0
                                          try clear p2
                                          try clear p3
                                          try clear p35
                                          try clear p357
                                          try clear p358
                                          try clear p36
                                          try clear p362
                                          try clear p363
                                          try clear p364
                                          try clear p365
                                          try clear p366
                                          try clear p367
                                          try clear p368
                                          try clear p369
                                          try clear p370
                                          try clear p371
                                          try clear p372
                                          try clear p373
                                          try clear p6
                                          try clear p63
                                          try clear p64
                                          try clear p7
                                          try clear p73
                                          try clear q3
                                          try clear q35
                                          try clear q357
                                          try clear q358
                                          try clear q36
                                          try clear q362
                                          try clear q363
                                          try clear q364
                                          try clear q365
                                          try clear q366
                                          try clear q367
                                          try clear q368
                                          try clear q369
                                          try clear q370
                                          try clear q371
                                          try clear q372
                                          try clear q373
                                          try clear q6
                                          try clear q63
                                          try clear q7
                                          try clear q73
                                          obtain ⟨x218_6, rfl, HA, HK6, HO_8, HO_216, HO_326000, BK325, HB⟩ := hrel
                                          cases gk with
                                          | zero => exact absurd HA.out (by simp [laws_FnGraphs.l5])
                                          | succ k6 =>
                                            have H := HA.out
                                            clear HA
                                            simp only [laws_FnGraphs.l5] at H
                                            by_cases c114 : x218_6 < (t342.length : Int)
                                            · rw [if_pos c114] at H
                                              have c114b0 : decide (x218_6 < (t342.length : Int)) = true := decide_eq_true c114
                                              (try (have c114b0_h := c114b0; rw [hl16_3] at c114b0_h))
                                              clear c114
                                              by_cases c115 : 0 ≤ x218_6
                                              · rw [if_pos c115] at H
                                                have c115b0 : decide (0 ≤ x218_6) = true := decide_eq_true c115
                                                clear c115
                                                by_cases c116 : x218_6 < (t342.length : Int)
                                                · rw [if_pos c116] at H
                                                  have c116b0 : decide (x218_6 < (t342.length : Int)) = true := decide_eq_true c116
                                                  (try (have c116b0_h := c116b0; rw [hl16_3] at c116b0_h))
                                                  clear c116
                                                  by_cases c117 : 0 < ((rd_L1 t342 x218_6).length : Int)
                                                  · rw [if_pos c117] at H
                                                    have c117b0 : decide (0 < ((rd_L1 t342 x218_6).length : Int)) = true := decide_eq_true c117
                                                    (try (have c117b0_h := c117b0; rw [hl16_3] at c117b0_h))
                                                    have c117b1 : decide (0 < (rd_L1 t342 x218_6).length) = true := decide_eq_true (by omega)
                                                    (try (have c117b1_h := c117b1; rw [hl16_3] at c117b1_h))
                                                    clear c117
                                                    by_cases c118 : 0 ≤ (rd (rd_L1 t342 x218_6) 0)
                                                    · rw [if_pos c118] at H
                                                      have c118b0 : decide (0 ≤ (rd (rd_L1 t342 x218_6) 0)) = true := decide_eq_true c118
                                                      clear c118
                                                      by_cases c119 : (rd (rd_L1 t342 x218_6) 0) < (t334.length : Int)
                                                      · rw [if_pos c119] at H
                                                        have c119b0 : decide ((rd (rd_L1 t342 x218_6) 0) < (t334.length : Int)) = true := decide_eq_true c119
                                                        (try (have c119b0_h := c119b0; rw [hl16_3] at c119b0_h))
                                                        clear c119
                                                        by_cases c120 : 1 < ((rd_L1 t342 x218_6).length : Int)
                                                        · rw [if_pos c120] at H
                                                          have c120b0 : decide (1 < ((rd_L1 t342 x218_6).length : Int)) = true := decide_eq_true c120
                                                          (try (have c120b0_h := c120b0; rw [hl16_3] at c120b0_h))
                                                          have c120b1 : decide (1 < (rd_L1 t342 x218_6).length) = true := decide_eq_true (by omega)
                                                          (try (have c120b1_h := c120b1; rw [hl16_3] at c120b1_h))
                                                          clear c120
                                                          replace H := Option.bind_eq_some_iff.mp H
                                                          obtain ⟨t379, A1210, H⟩ := H
                                                          replace H : (if t379 = true then (if (rd (rd_L1 t342 x218_6) 0) < (t322.length : Int) then ((laws_has.f k6 (rd_L1 t322 (rd (rd_L1 t342 x218_6) 0)) (rd (rd_L1 t342 x218_6) 1)).bind fun t383 => (if t383 = true then (laws_FnGraphs.l5 k6 t334 t342 (t342.length : Int) (wrap64 (x218_6 + 1)) t322) else (none))) else (none)) else (none)) = some r := H
                                                          have A121 := Aside0.mk A1210
                                                          clear A1210
                                                          by_cases c122 : t379 = true
                                                          · subst c122
                                                            have H1 : (if (rd (rd_L1 t342 x218_6) 0) < (t322.length : Int) then ((laws_has.f k6 (rd_L1 t322 (rd (rd_L1 t342 x218_6) 0)) (rd (rd_L1 t342 x218_6) 1)).bind fun t383 => (if t383 = true then (laws_FnGraphs.l5 k6 t334 t342 (t342.length : Int) (wrap64 (x218_6 + 1)) t322) else (none))) else (none)) = some r := by rw [if_pos rfl] at H; exact H
                                                            clear H
                                                            have H := H1
                                                            clear H1
                                                            by_cases c123 : (rd (rd_L1 t342 x218_6) 0) < (t322.length : Int)
                                                            · rw [if_pos c123] at H
                                                              have c123b0 : decide ((rd (rd_L1 t342 x218_6) 0) < (t322.length : Int)) = true := decide_eq_true c123
                                                              (try (have c123b0_h := c123b0; rw [hl16_3] at c123b0_h))
                                                              clear c123
                                                              replace H := Option.bind_eq_some_iff.mp H
                                                              obtain ⟨t383, A1240, H⟩ := H
                                                              replace H : (if t383 = true then (laws_FnGraphs.l5 k6 t334 t342 (t342.length : Int) (wrap64 (x218_6 + 1)) t322) else (none)) = some r := H
                                                              have A124 := Aside0.mk A1240
                                                              clear A1240
                                                              by_cases c125 : t383 = true
                                                              · subst c125
                                                                have H1 : (laws_FnGraphs.l5 k6 t334 t342 (t342.length : Int) (wrap64 (x218_6 + 1)) t322) = some r := by rw [if_pos rfl] at H; exact H
                                                                clear H
                                                                have H := H1
                                                                clear H1
                                                                have H' := Aside0.mk H
                                                                clear H
                                                                have p375 : 0 ≤ (x218_6 : Int) := of_decide_eq_true (by first | (with_reducible assumption) | assumption)
                                                                have q375 : x218_6 < (t342.length : Int) := of_decide_eq_true (by first | (with_reducible assumption) | assumption)
                                                                obtain ⟨ad375, A375_0, c375_0, e375, hx375_0, hl375_0, hi375_0⟩ := at_L1 (Kd.S_reads' HO_216.out).2.2 x218_6 p375 q375
                                                                cases e375
                                                                obtain ⟨ce375, hce375, hMe375, hcc375⟩ := Kd.S_get HO_216.out [] x218_6 p375 (by first | exact q375 | exact of_decide_eq_true (by first | (with_reducible assumption) | assumption) | (have e_ := (Kd.S_reads' HO_216.out).1; omega))
                                                                obtain ⟨ve375_0, rfl, ge375_0⟩ := hMe375
                                                                have hv375_0 := hcc375 0 _ rfl
                                                                rw [Nat.add_zero, show ((Kd.slice 3 (Kd.int .i64))).sz = 1 from rfl, Nat.mul_one] at hv375_0
                                                                replace hv375_0 := Option.some.inj (hv375_0.symm.trans hx375_0)
                                                                rw [hv375_0] at ge375_0
                                                                have HL375_0 := Aside0.mk (show Kd.R (Kd.int .i64) 3 _ _ _ _ (rd_L1 t342 x218_6) from ge375_0)
                                                                clear hv375_0 ge375_0
                                                                clear hcc375 hce375
                                                                have HR375_0 := Aside0.mk hi375_0
                                                                have HC375_0 := Aside0.mk hl375_0
                                                                clear hi375_0 hl375_0
                                                                replace p375 := eq_true p375
                                                                replace q375 := eq_true q375
                                                                have p376 : 0 ≤ (0 : Int) := (by omega)
                                                                have q376 : 0 < ((rd_L1 t342 x218_6).length : Int) := of_decide_eq_true (by first | (with_reducible assumption) | assumption)
                                                                obtain ⟨ad376, e376, hx376_0⟩ := Kd.at_int (by repeat (first | (with_reducible exact HR375_0.out) | (with_reducible refine Kd.C_alloc ?_ _) | (with_reducible refine Kd.C_drewN ?_ _) | (with_reducible refine Kd.C_drew ?_) | exact HR375_0.out)) 0 p376 q376
                                                                cases e376
                                                                have qi376 : (0 < (rd_L1 t342 x218_6).length) = True := eq_true (by omega)
                                                                (try rw [show ((0 : Int)).toNat = 0 from rfl] at hx376_0)
                                                                (try rw [Addr.add_zero'] at hx376_0)
                                                                replace p376 := eq_true p376
                                                                replace q376 := eq_true q376
                                                                have p377 : 0 ≤ ((rd (rd_L1 t342 x218_6) 0) : Int) := of_decide_eq_true (by first | (with_reducible assumption) | assumption)
                                                                have q377 : (rd (rd_L1 t342 x218_6) 0) < (t334.length : Int) := of_decide_eq_true (by first | (with_reducible assumption) | assumption)
                                                                obtain ⟨ad377, A377_0, c377_0, e377, hx377_0, hl377_0, hi377_0⟩ := at_L1 (Kd.S_reads' HO_8.out).2.2 (rd (rd_L1 t342 x218_6) 0) p377 q377
                                                                cases e377
                                                                obtain ⟨ce377, hce377, hMe377, hcc377⟩ := Kd.S_get HO_8.out [] (rd (rd_L1 t342 x218_6) 0) p377 (by first | exact q377 | exact of_decide_eq_true (by first | (with_reducible assumption) | assumption) | (have e_ := (Kd.S_reads' HO_8.out).1; omega))
                                                                obtain ⟨ve377_0, rfl, ge377_0⟩ := hMe377
                                                                have hv377_0 := hcc377 0 _ rfl
                                                                rw [Nat.add_zero, show ((Kd.slice 3 (Kd.int .i64))).sz = 1 from rfl, Nat.mul_one] at hv377_0
                                                                replace hv377_0 := Option.some.inj (hv377_0.symm.trans hx377_0)
                                                                rw [hv377_0] at ge377_0
                                                                have HL377_0 := Aside0.mk (show Kd.R (Kd.int .i64) 3 _ _ _ _ (rd_L1 t334 (rd (rd_L1 t342 x218_6) 0)) from ge377_0)
                                                                clear hv377_0 ge377_0
                                                                clear hcc377 hce377
                                                                have HR377_0 := Aside0.mk hi377_0
                                                                have HC377_0 := Aside0.mk hl377_0
                                                                clear hi377_0 hl377_0
                                                                replace p377 := eq_true p377
                                                                replace q377 := eq_true q377
                                                                have p378 : 0 ≤ (1 : Int) := (by omega)
                                                                have q378 : 1 < ((rd_L1 t342 x218_6).length : Int) := of_decide_eq_true (by first | (with_reducible assumption) | assumption)
                                                                obtain ⟨ad378, e378, hx378_0⟩ := Kd.at_int (by repeat (first | (with_reducible exact HR375_0.out) | (with_reducible refine Kd.C_alloc ?_ _) | (with_reducible refine Kd.C_drewN ?_ _) | (with_reducible refine Kd.C_drew ?_) | exact HR375_0.out)) 1 p378 q378
                                                                obtain rfl : ad376 = ad378 := (by injection e378)
                                                                (try simp only [show (1 : Int).toNat = 1 from rfl, Nat.reduceMul, Nat.reduceEqDiff, Go.Addr.add, ↓reduceIte] at hx378_0)
                                                                have qi378 : (1 < (rd_L1 t342 x218_6).length) = True := eq_true (by omega)
                                                                (try rw [show ((1 : Int)).toNat = 1 from rfl] at hx378_0)
                                                                replace p378 := eq_true p378
                                                                replace q378 := eq_true q378
                                                                go_wp2_with (first | (go_at_call 39; (with_reducible refine (laws_has.calls k6 _ _ (rd_L1 t334 (rd (rd_L1 t342 x218_6) 0)) (rd (rd_L1 t342 x218_6) 1) true _ ?side1 ?side2 A121.out).mono ?_); (case side1 => repeat (first | exact (by repeat (first | (with_reducible exact HR377_0.out) | (with_reducible refine Kd.C_alloc ?_ _) | (with_reducible refine Kd.C_drewN ?_ _) | (with_reducible refine Kd.C_drew ?_) | exact HR377_0.out)) | (with_reducible refine Kd.C_alloc ?_ _) | (with_reducible refine Kd.C_drewN ?_ _) | (with_reducible refine Kd.C_drew ?_))); (case side2 => exact HC377_0.out); rintro e w' ⟨rfl, ⟨nd, rfl⟩⟩; (try first | exact ⟨rfl, _, World.drewN_drewN _ _ _⟩ | exact ⟨rfl, _, Eq.trans (World.drewN_drewN _ _ _) (congrArg (World.drewN _) (Nat.add_assoc _ _ _))⟩); have hcz126_0 : wr.cell? ⟨gb325, 0, none⟩ = some (.slice Ao13 t322.length co13) := (blk_cell BK325.out 0).trans rfl; have hfz126_0 := blk_frozen BK325.out 0; have p380 : 0 ≤ (0 : Int) := (by omega); have q380 : 0 < ((rd_L1 t342 x218_6).length : Int) := of_decide_eq_true (by first | (with_reducible assumption) | assumption); obtain ⟨ad380, e380, hx380_0⟩ := Kd.at_int (by repeat (first | (with_reducible exact HR375_0.out) | (with_reducible refine Kd.C_alloc ?_ _) | (with_reducible refine Kd.C_drewN ?_ _) | (with_reducible refine Kd.C_drew ?_) | exact HR375_0.out)) 0 p380 q380; obtain rfl : ad376 = ad380 := (by injection e380); have qi380 : (0 < (rd_L1 t342 x218_6).length) = True := eq_true (by omega); (try rw [show ((0 : Int)).toNat = 0 from rfl] at hx380_0); (try rw [Addr.add_zero'] at hx380_0); replace p380 := eq_true p380; replace q380 := eq_true q380; have p381 : 0 ≤ ((rd (rd_L1 t342 x218_6) 0) : Int) := of_decide_eq_true (by first | (with_reducible assumption) | assumption); have q381 : (rd (rd_L1 t342 x218_6) 0) < (t322.length : Int) := of_decide_eq_true (by first | (with_reducible assumption) | assumption); obtain ⟨ad381, A381_0, c381_0, e381, hx381_0, hl381_0, hi381_0⟩ := at_L1 (Kd.S_reads' HO_326000.out).2.2 (rd (rd_L1 t342 x218_6) 0) p381 q381; cases e381; obtain ⟨ce381, hce381, hMe381, hcc381⟩ := Kd.S_get HO_326000.out [] (rd (rd_L1 t342 x218_6) 0) p381 (by first | exact q381 | exact of_decide_eq_true (by first | (with_reducible assumption) | assumption) | (have e_ := (Kd.S_reads' HO_326000.out).1; omega)); obtain ⟨ve381_0, rfl, ge381_0⟩ := hMe381; have hv381_0 := hcc381 0 _ rfl; rw [Nat.add_zero, show ((Kd.slice 3 (Kd.int .i64))).sz = 1 from rfl, Nat.mul_one] at hv381_0; replace hv381_0 := Option.some.inj (hv381_0.symm.trans hx381_0); rw [hv381_0] at ge381_0; have HL381_0 := Aside0.mk (show Kd.R (Kd.int .i64) 3 _ _ _ _ (rd_L1 t322 (rd (rd_L1 t342 x218_6) 0)) from ge381_0); clear hv381_0 ge381_0; clear hcc381 hce381; have HR381_0 := Aside0.mk hi381_0; have HC381_0 := Aside0.mk hl381_0; clear hi381_0 hl381_0; replace p381 := eq_true p381; replace q381 := eq_true q381; have p382 : 0 ≤ (1 : Int) := (by omega); have q382 : 1 < ((rd_L1 t342 x218_6).length : Int) := of_decide_eq_true (by first | (with_reducible assumption) | assumption); obtain ⟨ad382, e382, hx382_0⟩ := Kd.at_int (by repeat (first | (with_reducible exact HR375_0.out) | (with_reducible refine Kd.C_alloc ?_ _) | (with_reducible refine Kd.C_drewN ?_ _) | (with_reducible refine Kd.C_drew ?_) | exact HR375_0.out)) 1 p382 q382; obtain rfl : ad376 = ad382 := (by injection e382); (try simp only [show (1 : Int).toNat = 1 from rfl, Nat.reduceMul, Nat.reduceEqDiff, Go.Addr.add, ↓reduceIte] at hx382_0); have qi382 : (1 < (rd_L1 t342 x218_6).length) = True := eq_true (by omega); (try rw [show ((1 : Int)).toNat = 1 from rfl] at hx382_0); replace p382 := eq_true p382; replace q382 := eq_true q382) | (go_at_call 39; (with_reducible refine (laws_has.calls k6 _ _ (rd_L1 t322 (rd (rd_L1 t342 x218_6) 0)) (rd (rd_L1 t342 x218_6) 1) true _ ?side1 ?side2 A124.out).mono ?_); (case side1 => repeat (first | exact (by repeat (first | (with_reducible exact HR381_0.out) | (with_reducible refine Kd.C_alloc ?_ _) | (with_reducible refine Kd.C_drewN ?_ _) | (with_reducible refine Kd.C_drew ?_) | exact HR381_0.out)) | (with_reducible refine Kd.C_alloc ?_ _) | (with_reducible refine Kd.C_drewN ?_ _) | (with_reducible refine Kd.C_drew ?_))); (case side2 => exact HC381_0.out); rintro e w' ⟨rfl, ⟨nd, rfl⟩⟩; (try first | exact ⟨rfl, _, World.drewN_drewN _ _ _⟩ | exact ⟨rfl, _, Eq.trans (World.drewN_drewN _ _ _) (congrArg (World.drewN _) (Nat.add_assoc _ _ _))⟩)))
                                                                repeat (go_quiet (first | (go_at_call 39; (with_reducible refine (laws_has.calls k6 _ _ (rd_L1 t334 (rd (rd_L1 t342 x218_6) 0)) (rd (rd_L1 t342 x218_6) 1) true _ ?side1 ?side2 A121.out).mono ?_); (case side1 => repeat (first | exact (by repeat (first | (with_reducible exact HR377_0.out) | (with_reducible refine Kd.C_alloc ?_ _) | (with_reducible refine Kd.C_drewN ?_ _) | (with_reducible refine Kd.C_drew ?_) | exact HR377_0.out)) | (with_reducible refine Kd.C_alloc ?_ _) | (with_reducible refine Kd.C_drewN ?_ _) | (with_reducible refine Kd.C_drew ?_))); (case side2 => exact HC377_0.out); rintro e w' ⟨rfl, ⟨nd, rfl⟩⟩; (try first | exact ⟨rfl, _, World.drewN_drewN _ _ _⟩ | exact ⟨rfl, _, Eq.trans (World.drewN_drewN _ _ _) (congrArg (World.drewN _) (Nat.add_assoc _ _ _))⟩); have hcz126_0 : wr.cell? ⟨gb325, 0, none⟩ = some (.slice Ao13 t322.length co13) := (blk_cell BK325.out 0).trans rfl; have hfz126_0 := blk_frozen BK325.out 0; have p380 : 0 ≤ (0 : Int) := (by omega); have q380 : 0 < ((rd_L1 t342 x218_6).length : Int) := of_decide_eq_true (by first | (with_reducible assumption) | assumption); obtain ⟨ad380, e380, hx380_0⟩ := Kd.at_int (by repeat (first | (with_reducible exact HR375_0.out) | (with_reducible refine Kd.C_alloc ?_ _) | (with_reducible refine Kd.C_drewN ?_ _) | (with_reducible refine Kd.C_drew ?_) | exact HR375_0.out)) 0 p380 q380; obtain rfl : ad376 = ad380 := (by injection e380); have qi380 : (0 < (rd_L1 t342 x218_6).length) = True := eq_true (by omega); (try rw [show ((0 : Int)).toNat = 0 from rfl] at hx380_0); (try rw [Addr.add_zero'] at hx380_0); replace p380 := eq_true p380; replace q380 := eq_true q380; have p381 : 0 ≤ ((rd (rd_L1 t342 x218_6) 0) : Int) := of_decide_eq_true (by first | (with_reducible assumption) | assumption); have q381 : (rd (rd_L1 t342 x218_6) 0) < (t322.length : Int) := of_decide_eq_true (by first | (with_reducible assumption) | assumption); obtain ⟨ad381, A381_0, c381_0, e381, hx381_0, hl381_0, hi381_0⟩ := at_L1 (Kd.S_reads' HO_326000.out).2.2 (rd (rd_L1 t342 x218_6) 0) p381 q381; cases e381; obtain ⟨ce381, hce381, hMe381, hcc381⟩ := Kd.S_get HO_326000.out [] (rd (rd_L1 t342 x218_6) 0) p381 (by first | exact q381 | exact of_decide_eq_true (by first | (with_reducible assumption) | assumption) | (have e_ := (Kd.S_reads' HO_326000.out).1; omega)); obtain ⟨ve381_0, rfl, ge381_0⟩ := hMe381; have hv381_0 := hcc381 0 _ rfl; rw [Nat.add_zero, show ((Kd.slice 3 (Kd.int .i64))).sz = 1 from rfl, Nat.mul_one] at hv381_0; replace hv381_0 := Option.some.inj (hv381_0.symm.trans hx381_0); rw [hv381_0] at ge381_0; have HL381_0 := Aside0.mk (show Kd.R (Kd.int .i64) 3 _ _ _ _ (rd_L1 t322 (rd (rd_L1 t342 x218_6) 0)) from ge381_0); clear hv381_0 ge381_0; clear hcc381 hce381; have HR381_0 := Aside0.mk hi381_0; have HC381_0 := Aside0.mk hl381_0; clear hi381_0 hl381_0; replace p381 := eq_true p381; replace q381 := eq_true q381; have p382 : 0 ≤ (1 : Int) := (by omega); have q382 : 1 < ((rd_L1 t342 x218_6).length : Int) := of_decide_eq_true (by first | (with_reducible assumption) | assumption); obtain ⟨ad382, e382, hx382_0⟩ := Kd.at_int (by repeat (first | (with_reducible exact HR375_0.out) | (with_reducible refine Kd.C_alloc ?_ _) | (with_reducible refine Kd.C_drewN ?_ _) | (with_reducible refine Kd.C_drew ?_) | exact HR375_0.out)) 1 p382 q382; obtain rfl : ad376 = ad382 := (by injection e382); (try simp only [show (1 : Int).toNat = 1 from rfl, Nat.reduceMul, Nat.reduceEqDiff, Go.Addr.add, ↓reduceIte] at hx382_0); have qi382 : (1 < (rd_L1 t342 x218_6).length) = True := eq_true (by omega); (try rw [show ((1 : Int)).toNat = 1 from rfl] at hx382_0); replace p382 := eq_true p382; replace q382 := eq_true q382) | (go_at_call 39; (with_reducible refine (laws_has.calls k6 _ _ (rd_L1 t322 (rd (rd_L1 t342 x218_6) 0)) (rd (rd_L1 t342 x218_6) 1) true _ ?side1 ?side2 A124.out).mono ?_); (case side1 => repeat (first | exact (by repeat (first | (with_reducible exact HR381_0.out) | (with_reducible refine Kd.C_alloc ?_ _) | (with_reducible refine Kd.C_drewN ?_ _) | (with_reducible refine Kd.C_drew ?_) | exact HR381_0.out)) | (with_reducible refine Kd.C_alloc ?_ _) | (with_reducible refine Kd.C_drewN ?_ _) | (with_reducible refine Kd.C_drew ?_))); (case side2 => exact HC381_0.out); rintro e w' ⟨rfl, ⟨nd, rfl⟩⟩; (try first | exact ⟨rfl, _, World.drewN_drewN _ _ _⟩ | exact ⟨rfl, _, Eq.trans (World.drewN_drewN _ _ _) (congrArg (World.drewN _) (Nat.add_assoc _ _ _))⟩))); try go_wp2_with (first | (go_at_call 39; (with_reducible refine (laws_has.calls k6 _ _ (rd_L1 t334 (rd (rd_L1 t342 x218_6) 0)) (rd (rd_L1 t342 x218_6) 1) true _ ?side1 ?side2 A121.out).mono ?_); (case side1 => repeat (first | exact (by repeat (first | (with_reducible exact HR377_0.out) | (with_reducible refine Kd.C_alloc ?_ _) | (with_reducible refine Kd.C_drewN ?_ _) | (with_reducible refine Kd.C_drew ?_) | exact HR377_0.out)) | (with_reducible refine Kd.C_alloc ?_ _) | (with_reducible refine Kd.C_drewN ?_ _) | (with_reducible refine Kd.C_drew ?_))); (case side2 => exact HC377_0.out); rintro e w' ⟨rfl, ⟨nd, rfl⟩⟩; (try first | exact ⟨rfl, _, World.drewN_drewN _ _ _⟩ | exact ⟨rfl, _, Eq.trans (World.drewN_drewN _ _ _) (congrArg (World.drewN _) (Nat.add_assoc _ _ _))⟩); have hcz126_0 : wr.cell? ⟨gb325, 0, none⟩ = some (.slice Ao13 t322.length co13) := (blk_cell BK325.out 0).trans rfl; have hfz126_0 := blk_frozen BK325.out 0; have p380 : 0 ≤ (0 : Int) := (by omega); have q380 : 0 < ((rd_L1 t342 x218_6).length : Int) := of_decide_eq_true (by first | (with_reducible assumption) | assumption); obtain ⟨ad380, e380, hx380_0⟩ := Kd.at_int (by repeat (first | (with_reducible exact HR375_0.out) | (with_reducible refine Kd.C_alloc ?_ _) | (with_reducible refine Kd.C_drewN ?_ _) | (with_reducible refine Kd.C_drew ?_) | exact HR375_0.out)) 0 p380 q380; obtain rfl : ad376 = ad380 := (by injection e380); have qi380 : (0 < (rd_L1 t342 x218_6).length) = True := eq_true (by omega); (try rw [show ((0 : Int)).toNat = 0 from rfl] at hx380_0); (try rw [Addr.add_zero'] at hx380_0); replace p380 := eq_true p380; replace q380 := eq_true q380; have p381 : 0 ≤ ((rd (rd_L1 t342 x218_6) 0) : Int) := of_decide_eq_true (by first | (with_reducible assumption) | assumption); have q381 : (rd (rd_L1 t342 x218_6) 0) < (t322.length : Int) := of_decide_eq_true (by first | (with_reducible assumption) | assumption); obtain ⟨ad381, A381_0, c381_0, e381, hx381_0, hl381_0, hi381_0⟩ := at_L1 (Kd.S_reads' HO_326000.out).2.2 (rd (rd_L1 t342 x218_6) 0) p381 q381; cases e381; obtain ⟨ce381, hce381, hMe381, hcc381⟩ := Kd.S_get HO_326000.out [] (rd (rd_L1 t342 x218_6) 0) p381 (by first | exact q381 | exact of_decide_eq_true (by first | (with_reducible assumption) | assumption) | (have e_ := (Kd.S_reads' HO_326000.out).1; omega)); obtain ⟨ve381_0, rfl, ge381_0⟩ := hMe381; have hv381_0 := hcc381 0 _ rfl; rw [Nat.add_zero, show ((Kd.slice 3 (Kd.int .i64))).sz = 1 from rfl, Nat.mul_one] at hv381_0; replace hv381_0 := Option.some.inj (hv381_0.symm.trans hx381_0); rw [hv381_0] at ge381_0; have HL381_0 := Aside0.mk (show Kd.R (Kd.int .i64) 3 _ _ _ _ (rd_L1 t322 (rd (rd_L1 t342 x218_6) 0)) from ge381_0); clear hv381_0 ge381_0; clear hcc381 hce381; have HR381_0 := Aside0.mk hi381_0; have HC381_0 := Aside0.mk hl381_0; clear hi381_0 hl381_0; replace p381 := eq_true p381; replace q381 := eq_true q381; have p382 : 0 ≤ (1 : Int) := (by omega); have q382 : 1 < ((rd_L1 t342 x218_6).length : Int) := of_decide_eq_true (by first | (with_reducible assumption) | assumption); obtain ⟨ad382, e382, hx382_0⟩ := Kd.at_int (by repeat (first | (with_reducible exact HR375_0.out) | (with_reducible refine Kd.C_alloc ?_ _) | (with_reducible refine Kd.C_drewN ?_ _) | (with_reducible refine Kd.C_drew ?_) | exact HR375_0.out)) 1 p382 q382; obtain rfl : ad376 = ad382 := (by injection e382); (try simp only [show (1 : Int).toNat = 1 from rfl, Nat.reduceMul, Nat.reduceEqDiff, Go.Addr.add, ↓reduceIte] at hx382_0); have qi382 : (1 < (rd_L1 t342 x218_6).length) = True := eq_true (by omega); (try rw [show ((1 : Int)).toNat = 1 from rfl] at hx382_0); replace p382 := eq_true p382; replace q382 := eq_true q382) | (go_at_call 39; (with_reducible refine (laws_has.calls k6 _ _ (rd_L1 t322 (rd (rd_L1 t342 x218_6) 0)) (rd (rd_L1 t342 x218_6) 1) true _ ?side1 ?side2 A124.out).mono ?_); (case side1 => repeat (first | exact (by repeat (first | (with_reducible exact HR381_0.out) | (with_reducible refine Kd.C_alloc ?_ _) | (with_reducible refine Kd.C_drewN ?_ _) | (with_reducible refine Kd.C_drew ?_) | exact HR381_0.out)) | (with_reducible refine Kd.C_alloc ?_ _) | (with_reducible refine Kd.C_drewN ?_ _) | (with_reducible refine Kd.C_drew ?_))); (case side2 => exact HC381_0.out); rintro e w' ⟨rfl, ⟨nd, rfl⟩⟩; (try first | exact ⟨rfl, _, World.drewN_drewN _ _ _⟩ | exact ⟨rfl, _, Eq.trans (World.drewN_drewN _ _ _) (congrArg (World.drewN _) (Nat.add_assoc _ _ _))⟩))))
                                                                go_roundg k6
                                                                case measure => have := HJ9.out; have := HK2.out; have := HK3.out; have := HJ76.out; have := HK5.out; have := HK6.out; omega
                                                                case rel => exact ⟨(wrap64 (x218_6 + 1)), (by first | rfl | (simp; done) | (simp [*]; done)), H', ⟨by have := HJ9.out; have := HK2.out; have := HK3.out; have := HJ76.out; have := HK5.out; have := HK6.out; omega⟩, ⟨by (try simp only [hl16_2]); (try simp only [hl16_3]); (with_reducible repeat (first | apply Kd.S_alloc | apply Kd.S_drewN | apply Kd.S_drew)); exact HO_8.out⟩, ⟨by (try simp only [hl16_2]); (try simp only [hl16_3]); (with_reducible repeat (first | apply Kd.S_alloc | apply Kd.S_drewN | apply Kd.S_drew)); exact HO_216.out⟩, ⟨by (try simp only [hl16_2]); (try simp only [hl16_3]); (with_reducible repeat (first | apply Kd.S_alloc | apply Kd.S_drewN | apply Kd.S_drew)); exact HO_326000.out⟩, ⟨by (try simp only [hl16_2]); (try simp only [hl16_3]); (with_reducible repeat (first | refine blk_drewN ?_ _ | refine blk_drew ?_ | refine blk_alloc ?_ _)); exact BK325.out⟩, ⟨by repeat (first | (with_reducible first | exact HB.out | apply below_alloc | apply pw_below_drewN | apply below_drew1 | refine below_set ?_ GE325.out) | exact HB.out)⟩⟩
                                                              · replace c125 := Bool.eq_false_iff.mpr c125
                                                                subst c125
                                                                have H1 : (none) = some r := by rw [if_neg (show ¬ (false = true) by decide)] at H; exact H
                                                                exact absurd H1 (by simp)
                                                            · rw [if_neg c123] at H
                                                              exact absurd H (by simp)
                                                          · replace c122 := Bool.eq_false_iff.mpr c122
                                                            subst c122
                                                            have H1 : (none) = some r := by rw [if_neg (show ¬ (false = true) by decide)] at H; exact H
                                                            exact absurd H1 (by simp)
                                                        · rw [if_neg c120] at H
                                                          exact absurd H (by simp)
                                                      · rw [if_neg c119] at H
                                                        exact absurd H (by simp)
                                                    · rw [if_neg c118] at H
                                                      exact absurd H (by simp)
                                                  · rw [if_neg c117] at H
                                                    exact absurd H (by simp)
                                                · rw [if_neg c116] at H
                                                  exact absurd H (by simp)
                                              · rw [if_neg c115] at H
                                                exact absurd H (by simp)
                                            · rw [if_neg c114] at H
                                              have c114b0 : decide (x218_6 < (t342.length : Int)) = false := decide_eq_false c114
                                              (try (have c114b0_h := c114b0; rw [hl16_3] at c114b0_h))
                                              clear c114
                                              obtain rfl := Option.some.inj H
                                              go_wp2
                                              go_ret
                                              exact ⟨by first | rfl | (simp [errW_none, errW_some] <;> rfl) | (simp [*, errW_none, errW_some] <;> rfl), by repeat (first | (with_reducible first | exact HB.out | apply below_alloc | apply pw_below_drewN | apply below_drew1 | refine below_set ?_ GE325.out) | exact HB.out)⟩
              · rw [if_neg c55] at H
                exact absurd H (by simp)
            · rw [if_neg c54] at H
              exact absurd H (by simp)
          · replace c53 := Bool.eq_false_iff.mpr c53
            subst c53
            have H1 : (some ((t326.length : Int) == 0)) = some r := by rw [if_neg (show ¬ (false = true) by decide)] at H; exact H
            clear H
            have H := H1
            clear H1
            obtain rfl := Option.some.inj H
            obtain ⟨Ao128, co128, eo128⟩ := Kd.R_slice HO_4.out
            subst eo128
            go_wp2
            go_ret
            exact ⟨by first | rfl | (simp [errW_none, errW_some] <;> rfl) | (simp [*, errW_none, errW_some] <;> rfl), by repeat (first | (with_reducible first | exact HB.out | apply below_alloc | apply pw_below_drewN | apply below_drew1 | refine below_set ?_ GE325.out) | exact HB.out)⟩

/-- THE ONE PURE STATEMENT of laws_FnGraphs: yours. -/
def laws_FnGraphs.Pure : Prop := ∀ (l0 : List Int), l0.length ≤ maxLen → l0.length * 1 ≤ 140737488351232 → (∀ x ∈ l0, (Lit.int .u8 x).wf = true) → ∃ k, laws_FnGraphs.f k l0 = some true
theorem laws_FnGraphs.walk (P : laws_FnGraphs.Pure) (a0 : Option Addr) (len0 cap0 : Nat) (z0 : List Int) (w : World) (w0 : (a0 = none ∧ len0 = 0 ∧ cap0 = 0 ∧ z0 = []) ∨ ∃ x, a0 = some x ∧ len0 ≤ cap0 ∧ cap0 ≤ maxLen ∧ z0.length = cap0 ∧ (∀ i, i < z0.length → w.cell? (x.add i) = some (.int .u8 (z0.getD i 0))) ∧ ∀ n ∈ z0, (Lit.int .u8 n).wf = true) (y0 : len0 * 1 ≤ 140737488351232) :
    Calls Try.prog 10 #[.slice a0 len0 cap0] w fun e w' => e = .returned (.bool true) ∧ Below w.heap.size w w' := by
  obtain ⟨l0, rfl, hr0, hm0, hw0, hc0⟩ := ReadsInt.ofRowC w0
  obtain ⟨k, h⟩ := P l0 hm0 y0 hw0
  refine (laws_FnGraphs.calls k _ _ l0 true w (Kd.C_of_reads (d := (0 : Int)) (h1 := fun _ => rfl) hr0) hc0 h).mono ?_
  rintro e w' ⟨rfl, hd⟩
  exact ⟨rfl, hd⟩

end Go.Proofs.Ytbagmhcdhemopaa.Q




