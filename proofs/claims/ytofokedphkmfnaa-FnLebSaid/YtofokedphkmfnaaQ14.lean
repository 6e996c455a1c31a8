-- WRITTEN BY A PROGRAM OF THIS SESSION
import Derived.Test.YtofokedphkmfnaaQ0
import Derived.Test.YtofokedphkmfnaaQ1
import Derived.Test.YtofokedphkmfnaaQ2
import Derived.Test.YtofokedphkmfnaaQ3
import Derived.Test.YtofokedphkmfnaaQ4
import Derived.Test.YtofokedphkmfnaaQ5
import Derived.Test.YtofokedphkmfnaaQ12
import Derived.Test.YtofokedphkmfnaaQ13
namespace Go.Proofs.Ytofokedphkmfnaa.Q
open Go.RowKit Go.Proofs.YtofokedphkmfnaaW.PrintWords Go.Proofs.YtofokedphkmfnaaW.PrintLast Go.Proofs.YtofokedphkmfnaaW.PrintMore
attribute [local go_sem] max2_int min2_int max_two min_two max_three min_three max_four min_four   -- for this text's walks alone
set_option linter.unusedVariables false
set_option linter.unusedSimpArgs false

/-! ### laws_FnLeb: function 15 -/
mutual
def laws_FnLeb.j0 : Nat → List Int → List Int → Int → ByteArray → Bool → Bool → Option (Bool)
  | 0, _, _, _, _, _, _ => none
  | k + 1, x0, x1, x5, x6, x7, x83 => if x83 = true then (none) else (if x7 = true then (if x6.size + 1 ≤ 9223372036854775807 then ((impl_TakeU32.f k (x6 ++ (⟨#[120]⟩ : ByteArray)) 0).bind fun bt535 => (if bt535.2.2 = true then (if bt535.1 = x5 then (if bt535.2.1 = (x6.size : Int) then ((impl_IsLeast.f k x6).bind fun t538 => (if t538 = true then (if (x6.size : Int) > 1 then (if 0 ≤ (IntKind.u64.wrap (wrap64 ((wrap64 (7 * (x6.size : Int))) - 7))) then (if (shr .i64 x5 (IntKind.u64.wrap (wrap64 ((wrap64 (7 * (x6.size : Int))) - 7)))) = 0 then (none) else (laws_FnLeb.j1 k x0 x1)) else (none)) else (laws_FnLeb.j1 k x0 x1)) else (none))) else (none)) else (none)) else (none))) else (none)) else (laws_FnLeb.j1 k x0 x1))
def laws_FnLeb.j1 : Nat → List Int → List Int → Option (Bool)
  | 0, _, _ => none
  | k + 1, x0, x1 => (spec_DrawPutS32.f x0).bind fun t539 => ((impl_PutS32.f k t539).bind fun bt540 => ((spec_PutS32.f k t539).bind fun bt542 => ((impl_LenS32.f k t539).bind fun bt544 => (if (bt540.2 != bt542.2) = true then (none) else (if bt540.1.toList = bt542.1.toList then (if (bt544.2 != bt540.2) = true then (none) else (laws_FnLeb.j2 k x1 t539 bt540.1 bt540.2 (bt544.1 != (bt540.1.size : Int)))) else (none))))))
def laws_FnLeb.j2 : Nat → List Int → Int → ByteArray → Bool → Bool → Option (Bool)
  | 0, _, _, _, _, _ => none
  | k + 1, x1, x15, x16, x17, x160 => if x160 = true then (none) else (if x17 = true then (if x16.size + 1 ≤ 9223372036854775807 then ((impl_TakeS32.f k (x16 ++ (⟨#[120]⟩ : ByteArray)) 0).bind fun bt546 => (if bt546.2.2 = true then (if bt546.1 = x15 then (if bt546.2.1 = (x16.size : Int) then (laws_FnLeb.j3 k x1) else (none)) else (none)) else (none))) else (none)) else (laws_FnLeb.j3 k x1))
def laws_FnLeb.j3 : Nat → List Int → Option (Bool)
  | 0, _ => none
  | k + 1, x1 => (spec_DrawTakeU32.f k x1).bind fun bt549 => ((impl_TakeU32.f k bt549.1 bt549.2).bind fun bt551 => ((spec_TakeU32.f k bt549.1 bt549.2).bind fun bt554 => ((impl_TakeS32.f k bt549.1 bt549.2).bind fun bt557 => ((spec_TakeS32.f k bt549.1 bt549.2).bind fun bt560 => ((spec_DrawIsLeast.f k x1).bind fun t563 => (if (bt551.2.2 != bt554.2.2) = true then (none) else (if bt551.1 = bt554.1 then (if bt551.2.1 = bt554.2.1 then (if (bt557.2.2 != bt560.2.2) = true then (none) else (if bt557.1 = bt560.1 then (if bt557.2.1 = bt560.2.1 then ((impl_IsLeast.f k t563).bind fun t564 => ((spec_IsLeast.f k t563).bind fun t565 => (laws_FnLeb.j4 k bt549.1 bt549.2 bt551.1 bt551.2.1 bt551.2.2 (t564 != t565)))) else (none)) else (none))) else (none)) else (none))))))))
def laws_FnLeb.j4 : Nat → ByteArray → Int → Int → Int → Bool → Bool → Option (Bool)
  | 0, _, _, _, _, _, _ => none
  | k + 1, x25, x26, x27, x28, x29, x251 => if x251 = true then (none) else (if x29 = true then ((impl_PadU32.f k x27 (wrap64 (x28 - x26))).bind fun bt566 => (if bt566.2 = true then (if 0 ≤ x26 then (if x26 ≤ x28 then (if x28 ≤ (x25.size : Int) then (some (bt566.1.toList == (x25.extract (x26 : Int).toNat (x28 : Int).toNat).toList)) else (none)) else (none)) else (none)) else (none))) else (some true))
end
def laws_FnLeb.f (k : Nat) (l0 : List Int) (l1 : List Int) : Option (Bool) := if (wrap64 ((l0.length : Int) + (l1.length : Int))) > 1048576 then (some true) else ((spec_DrawPutU32.f l0).bind fun t528 => ((impl_PutU32.f k t528).bind fun bt529 => ((spec_PutU32.f k t528).bind fun bt531 => ((impl_LenU32.f k t528).bind fun bt533 => (if (bt529.2 != bt531.2) = true then (none) else (if bt529.1.toList = bt531.1.toList then (if (bt533.2 != bt529.2) = true then (none) else (laws_FnLeb.j0 k l0 l1 t528 bt529.1 bt529.2 (bt533.1 != (bt529.1.size : Int)))) else (none)))))))
theorem laws_FnLeb.mono_l : ∀ k, (∀ y0 y1 y2 y3 y4 y5, LeO (laws_FnLeb.j0 k y0 y1 y2 y3 y4 y5) (laws_FnLeb.j0 (k + 1) y0 y1 y2 y3 y4 y5)) ∧ (∀ y0 y1, LeO (laws_FnLeb.j1 k y0 y1) (laws_FnLeb.j1 (k + 1) y0 y1)) ∧ (∀ y0 y1 y2 y3 y4, LeO (laws_FnLeb.j2 k y0 y1 y2 y3 y4) (laws_FnLeb.j2 (k + 1) y0 y1 y2 y3 y4)) ∧ (∀ y0, LeO (laws_FnLeb.j3 k y0) (laws_FnLeb.j3 (k + 1) y0)) ∧ (∀ y0 y1 y2 y3 y4 y5, LeO (laws_FnLeb.j4 k y0 y1 y2 y3 y4 y5) (laws_FnLeb.j4 (k + 1) y0 y1 y2 y3 y4 y5))
  | 0 => ⟨fun _ _ _ _ _ _ r h => by simp [laws_FnLeb.j0] at h, fun _ _ r h => by simp [laws_FnLeb.j1] at h, fun _ _ _ _ _ r h => by simp [laws_FnLeb.j2] at h, fun _ r h => by simp [laws_FnLeb.j3] at h, fun _ _ _ _ _ _ r h => by simp [laws_FnLeb.j4] at h⟩
  | k + 1 => by
    obtain ⟨ih0, ih1, ih2, ih3, ih4⟩ := laws_FnLeb.mono_l k
    refine ⟨?_, ?_, ?_, ?_, ?_⟩
    · intro y0 y1 y2 y3 y4 y5
      unfold laws_FnLeb.j0
      repeat' first
      | (with_reducible exact ih0 _ _ _ _ _ _)
      | (with_reducible exact ih1 _ _)
      | (with_reducible exact ih2 _ _ _ _ _)
      | (with_reducible exact ih3 _)
      | (with_reducible exact ih4 _ _ _ _ _ _)
      | (with_reducible exact impl_IsLeast.mono _ _)
      | (with_reducible exact impl_LenS32.mono _ _)
      | (with_reducible exact impl_LenU32.mono _ _)
      | (with_reducible exact impl_PadU32.mono _ _ _)
      | (with_reducible exact impl_PutS32.mono _ _)
      | (with_reducible exact impl_PutU32.mono _ _)
      | (with_reducible exact impl_TakeS32.mono _ _ _)
      | (with_reducible exact impl_TakeU32.mono _ _ _)
      | (with_reducible exact spec_DrawIsLeast.mono _ _)
      | (with_reducible exact spec_DrawTakeU32.mono _ _)
      | (with_reducible exact spec_IsLeast.mono _ _)
      | (with_reducible exact spec_PutS32.mono _ _)
      | (with_reducible exact spec_PutU32.mono _ _)
      | (with_reducible exact spec_TakeS32.mono _ _ _)
      | (with_reducible exact spec_TakeU32.mono _ _ _)
      | (with_reducible exact LeO.refl _)
      | (with_reducible exact LeO.none _)
      | (with_reducible refine LeO.ite ?_ ?_)
      | (with_reducible refine LeO.bind ?_ (fun _ => ?_))
      | exact ih0 _ _ _ _ _ _
      | exact ih1 _ _
      | exact ih2 _ _ _ _ _
      | exact ih3 _
      | exact ih4 _ _ _ _ _ _
      | exact impl_IsLeast.mono _ _
      | exact impl_LenS32.mono _ _
      | exact impl_LenU32.mono _ _
      | exact impl_PadU32.mono _ _ _
      | exact impl_PutS32.mono _ _
      | exact impl_PutU32.mono _ _
      | exact impl_TakeS32.mono _ _ _
      | exact impl_TakeU32.mono _ _ _
      | exact spec_DrawIsLeast.mono _ _
      | exact spec_DrawTakeU32.mono _ _
      | exact spec_IsLeast.mono _ _
      | exact spec_PutS32.mono _ _
      | exact spec_PutU32.mono _ _
      | exact spec_TakeS32.mono _ _ _
      | exact spec_TakeU32.mono _ _ _
      | exact LeO.none _
      | refine LeO.ite ?_ ?_
      | refine LeO.bind ?_ (fun _ => ?_)
    · intro y0 y1
      unfold laws_FnLeb.j1
      repeat' first
      | (with_reducible exact ih0 _ _ _ _ _ _)
      | (with_reducible exact ih1 _ _)
      | (with_reducible exact ih2 _ _ _ _ _)
      | (with_reducible exact ih3 _)
      | (with_reducible exact ih4 _ _ _ _ _ _)
      | (with_reducible exact impl_IsLeast.mono _ _)
      | (with_reducible exact impl_LenS32.mono _ _)
      | (with_reducible exact impl_LenU32.mono _ _)
      | (with_reducible exact impl_PadU32.mono _ _ _)
      | (with_reducible exact impl_PutS32.mono _ _)
      | (with_reducible exact impl_PutU32.mono _ _)
      | (with_reducible exact impl_TakeS32.mono _ _ _)
      | (with_reducible exact impl_TakeU32.mono _ _ _)
      | (with_reducible exact spec_DrawIsLeast.mono _ _)
      | (with_reducible exact spec_DrawTakeU32.mono _ _)
      | (with_reducible exact spec_IsLeast.mono _ _)
      | (with_reducible exact spec_PutS32.mono _ _)
      | (with_reducible exact spec_PutU32.mono _ _)
      | (with_reducible exact spec_TakeS32.mono _ _ _)
      | (with_reducible exact spec_TakeU32.mono _ _ _)
      | (with_reducible exact LeO.refl _)
      | (with_reducible exact LeO.none _)
      | (with_reducible refine LeO.ite ?_ ?_)
      | (with_reducible refine LeO.bind ?_ (fun _ => ?_))
      | exact ih0 _ _ _ _ _ _
      | exact ih1 _ _
      | exact ih2 _ _ _ _ _
      | exact ih3 _
      | exact ih4 _ _ _ _ _ _
      | exact impl_IsLeast.mono _ _
      | exact impl_LenS32.mono _ _
      | exact impl_LenU32.mono _ _
      | exact impl_PadU32.mono _ _ _
      | exact impl_PutS32.mono _ _
      | exact impl_PutU32.mono _ _
      | exact impl_TakeS32.mono _ _ _
      | exact impl_TakeU32.mono _ _ _
      | exact spec_DrawIsLeast.mono _ _
      | exact spec_DrawTakeU32.mono _ _
      | exact spec_IsLeast.mono _ _
      | exact spec_PutS32.mono _ _
      | exact spec_PutU32.mono _ _
      | exact spec_TakeS32.mono _ _ _
      | exact spec_TakeU32.mono _ _ _
      | exact LeO.none _
      | refine LeO.ite ?_ ?_
      | refine LeO.bind ?_ (fun _ => ?_)
    · intro y0 y1 y2 y3 y4
      unfold laws_FnLeb.j2
      repeat' first
      | (with_reducible exact ih0 _ _ _ _ _ _)
      | (with_reducible exact ih1 _ _)
      | (with_reducible exact ih2 _ _ _ _ _)
      | (with_reducible exact ih3 _)
      | (with_reducible exact ih4 _ _ _ _ _ _)
      | (with_reducible exact impl_IsLeast.mono _ _)
      | (with_reducible exact impl_LenS32.mono _ _)
      | (with_reducible exact impl_LenU32.mono _ _)
      | (with_reducible exact impl_PadU32.mono _ _ _)
      | (with_reducible exact impl_PutS32.mono _ _)
      | (with_reducible exact impl_PutU32.mono _ _)
      | (with_reducible exact impl_TakeS32.mono _ _ _)
      | (with_reducible exact impl_TakeU32.mono _ _ _)
      | (with_reducible exact spec_DrawIsLeast.mono _ _)
      | (with_reducible exact spec_DrawTakeU32.mono _ _)
      | (with_reducible exact spec_IsLeast.mono _ _)
      | (with_reducible exact spec_PutS32.mono _ _)
      | (with_reducible exact spec_PutU32.mono _ _)
      | (with_reducible exact spec_TakeS32.mono _ _ _)
      | (with_reducible exact spec_TakeU32.mono _ _ _)
      | (with_reducible exact LeO.refl _)
      | (with_reducible exact LeO.none _)
      | (with_reducible refine LeO.ite ?_ ?_)
      | (with_reducible refine LeO.bind ?_ (fun _ => ?_))
      | exact ih0 _ _ _ _ _ _
      | exact ih1 _ _
      | exact ih2 _ _ _ _ _
      | exact ih3 _
      | exact ih4 _ _ _ _ _ _
      | exact impl_IsLeast.mono _ _
      | exact impl_LenS32.mono _ _
      | exact impl_LenU32.mono _ _
      | exact impl_PadU32.mono _ _ _
      | exact impl_PutS32.mono _ _
      | exact impl_PutU32.mono _ _
      | exact impl_TakeS32.mono _ _ _
      | exact impl_TakeU32.mono _ _ _
      | exact spec_DrawIsLeast.mono _ _
      | exact spec_DrawTakeU32.mono _ _
      | exact spec_IsLeast.mono _ _
      | exact spec_PutS32.mono _ _
      | exact spec_PutU32.mono _ _
      | exact spec_TakeS32.mono _ _ _
      | exact spec_TakeU32.mono _ _ _
      | exact LeO.none _
      | refine LeO.ite ?_ ?_
      | refine LeO.bind ?_ (fun _ => ?_)
    · intro y0
      unfold laws_FnLeb.j3
      repeat' first
      | (with_reducible exact ih0 _ _ _ _ _ _)
      | (with_reducible exact ih1 _ _)
      | (with_reducible exact ih2 _ _ _ _ _)
      | (with_reducible exact ih3 _)
      | (with_reducible exact ih4 _ _ _ _ _ _)
      | (with_reducible exact impl_IsLeast.mono _ _)
      | (with_reducible exact impl_LenS32.mono _ _)
      | (with_reducible exact impl_LenU32.mono _ _)
      | (with_reducible exact impl_PadU32.mono _ _ _)
      | (with_reducible exact impl_PutS32.mono _ _)
      | (with_reducible exact impl_PutU32.mono _ _)
      | (with_reducible exact impl_TakeS32.mono _ _ _)
      | (with_reducible exact impl_TakeU32.mono _ _ _)
      | (with_reducible exact spec_DrawIsLeast.mono _ _)
      | (with_reducible exact spec_DrawTakeU32.mono _ _)
      | (with_reducible exact spec_IsLeast.mono _ _)
      | (with_reducible exact spec_PutS32.mono _ _)
      | (with_reducible exact spec_PutU32.mono _ _)
      | (with_reducible exact spec_TakeS32.mono _ _ _)
      | (with_reducible exact spec_TakeU32.mono _ _ _)
      | (with_reducible exact LeO.refl _)
      | (with_reducible exact LeO.none _)
      | (with_reducible refine LeO.ite ?_ ?_)
      | (with_reducible refine LeO.bind ?_ (fun _ => ?_))
      | exact ih0 _ _ _ _ _ _
      | exact ih1 _ _
      | exact ih2 _ _ _ _ _
      | exact ih3 _
      | exact ih4 _ _ _ _ _ _
      | exact impl_IsLeast.mono _ _
      | exact impl_LenS32.mono _ _
      | exact impl_LenU32.mono _ _
      | exact impl_PadU32.mono _ _ _
      | exact impl_PutS32.mono _ _
      | exact impl_PutU32.mono _ _
      | exact impl_TakeS32.mono _ _ _
      | exact impl_TakeU32.mono _ _ _
      | exact spec_DrawIsLeast.mono _ _
      | exact spec_DrawTakeU32.mono _ _
      | exact spec_IsLeast.mono _ _
      | exact spec_PutS32.mono _ _
      | exact spec_PutU32.mono _ _
      | exact spec_TakeS32.mono _ _ _
      | exact spec_TakeU32.mono _ _ _
      | exact LeO.none _
      | refine LeO.ite ?_ ?_
      | refine LeO.bind ?_ (fun _ => ?_)
    · intro y0 y1 y2 y3 y4 y5
      unfold laws_FnLeb.j4
      repeat' first
      | (with_reducible exact ih0 _ _ _ _ _ _)
      | (with_reducible exact ih1 _ _)
      | (with_reducible exact ih2 _ _ _ _ _)
      | (with_reducible exact ih3 _)
      | (with_reducible exact ih4 _ _ _ _ _ _)
      | (with_reducible exact impl_IsLeast.mono _ _)
      | (with_reducible exact impl_LenS32.mono _ _)
      | (with_reducible exact impl_LenU32.mono _ _)
      | (with_reducible exact impl_PadU32.mono _ _ _)
      | (with_reducible exact impl_PutS32.mono _ _)
      | (with_reducible exact impl_PutU32.mono _ _)
      | (with_reducible exact impl_TakeS32.mono _ _ _)
      | (with_reducible exact impl_TakeU32.mono _ _ _)
      | (with_reducible exact spec_DrawIsLeast.mono _ _)
      | (with_reducible exact spec_DrawTakeU32.mono _ _)
      | (with_reducible exact spec_IsLeast.mono _ _)
      | (with_reducible exact spec_PutS32.mono _ _)
      | (with_reducible exact spec_PutU32.mono _ _)
      | (with_reducible exact spec_TakeS32.mono _ _ _)
      | (with_reducible exact spec_TakeU32.mono _ _ _)
      | (with_reducible exact LeO.refl _)
      | (with_reducible exact LeO.none _)
      | (with_reducible refine LeO.ite ?_ ?_)
      | (with_reducible refine LeO.bind ?_ (fun _ => ?_))
      | exact ih0 _ _ _ _ _ _
      | exact ih1 _ _
      | exact ih2 _ _ _ _ _
      | exact ih3 _
      | exact ih4 _ _ _ _ _ _
      | exact impl_IsLeast.mono _ _
      | exact impl_LenS32.mono _ _
      | exact impl_LenU32.mono _ _
      | exact impl_PadU32.mono _ _ _
      | exact impl_PutS32.mono _ _
      | exact impl_PutU32.mono _ _
      | exact impl_TakeS32.mono _ _ _
      | exact impl_TakeU32.mono _ _ _
      | exact spec_DrawIsLeast.mono _ _
      | exact spec_DrawTakeU32.mono _ _
      | exact spec_IsLeast.mono _ _
      | exact spec_PutS32.mono _ _
      | exact spec_PutU32.mono _ _
      | exact spec_TakeS32.mono _ _ _
      | exact spec_TakeU32.mono _ _ _
      | exact LeO.none _
      | refine LeO.ite ?_ ?_
      | refine LeO.bind ?_ (fun _ => ?_)
theorem laws_FnLeb.mono : ∀ a0 a1 k, LeO (laws_FnLeb.f k a0 a1) (laws_FnLeb.f (k + 1) a0 a1) := by
  intro a0 a1 k
  obtain ⟨ih0, ih1, ih2, ih3, ih4⟩ := laws_FnLeb.mono_l k
  unfold laws_FnLeb.f
  repeat' first
      | (with_reducible exact ih0 _ _ _ _ _ _)
      | (with_reducible exact ih1 _ _)
      | (with_reducible exact ih2 _ _ _ _ _)
      | (with_reducible exact ih3 _)
      | (with_reducible exact ih4 _ _ _ _ _ _)
      | (with_reducible exact impl_IsLeast.mono _ _)
      | (with_reducible exact impl_LenS32.mono _ _)
      | (with_reducible exact impl_LenU32.mono _ _)
      | (with_reducible exact impl_PadU32.mono _ _ _)
      | (with_reducible exact impl_PutS32.mono _ _)
      | (with_reducible exact impl_PutU32.mono _ _)
      | (with_reducible exact impl_TakeS32.mono _ _ _)
      | (with_reducible exact impl_TakeU32.mono _ _ _)
      | (with_reducible exact spec_DrawIsLeast.mono _ _)
      | (with_reducible exact spec_DrawTakeU32.mono _ _)
      | (with_reducible exact spec_IsLeast.mono _ _)
      | (with_reducible exact spec_PutS32.mono _ _)
      | (with_reducible exact spec_PutU32.mono _ _)
      | (with_reducible exact spec_TakeS32.mono _ _ _)
      | (with_reducible exact spec_TakeU32.mono _ _ _)
      | (with_reducible exact LeO.refl _)
      | (with_reducible exact LeO.none _)
      | (with_reducible refine LeO.ite ?_ ?_)
      | (with_reducible refine LeO.bind ?_ (fun _ => ?_))
      | exact ih0 _ _ _ _ _ _
      | exact ih1 _ _
      | exact ih2 _ _ _ _ _
      | exact ih3 _
      | exact ih4 _ _ _ _ _ _
      | exact impl_IsLeast.mono _ _
      | exact impl_LenS32.mono _ _
      | exact impl_LenU32.mono _ _
      | exact impl_PadU32.mono _ _ _
      | exact impl_PutS32.mono _ _
      | exact impl_PutU32.mono _ _
      | exact impl_TakeS32.mono _ _ _
      | exact impl_TakeU32.mono _ _ _
      | exact spec_DrawIsLeast.mono _ _
      | exact spec_DrawTakeU32.mono _ _
      | exact spec_IsLeast.mono _ _
      | exact spec_PutS32.mono _ _
      | exact spec_PutU32.mono _ _
      | exact spec_TakeS32.mono _ _ _
      | exact spec_TakeU32.mono _ _ _
      | exact LeO.none _
      | refine LeO.ite ?_ ?_
      | refine LeO.bind ?_ (fun _ => ?_)
set_option maxHeartbeats 8000000 in
set_option maxRecDepth 100000 in
theorem laws_FnLeb.calls (k : Nat) (A0 : Option Addr) (c0 : Nat) (l0 : List Int) (A1 : Option Addr) (c1 : Nat) (l1 : List Int) (r : Bool) (w : World) (hr0 : Kd.C (Kd.int .u8) w A0 l0.length l0) (hc0 : l0.length ≤ c0) (hr1 : Kd.C (Kd.int .u8) w A1 l1.length l1) (hc1 : l1.length ≤ c1) (h : laws_FnLeb.f k l0 l1 = some r) :
    Calls Try.prog 15 #[.slice A0 l0.length c0, .slice A1 l1.length c1] w fun e w' => e = .returned (.bool r) ∧ Below w.heap.size w w' := by
  have HR0 := Aside0.mk hr0
  have HC0 := Aside0.mk hc0
  clear hr0 hc0
  have HR1 := Aside0.mk hr1
  have HC1 := Aside0.mk hc1
  clear hr1 hc1
  have HB := Aside0.mk (Below.refl w.heap.size w)
  have H : (if (wrap64 ((l0.length : Int) + (l1.length : Int))) > 1048576 then (some true) else ((spec_DrawPutU32.f l0).bind fun t528 => ((impl_PutU32.f k t528).bind fun bt529 => ((spec_PutU32.f k t528).bind fun bt531 => ((impl_LenU32.f k t528).bind fun bt533 => (if (bt529.2 != bt531.2) = true then (none) else (if bt529.1.toList = bt531.1.toList then (if (bt533.2 != bt529.2) = true then (none) else (laws_FnLeb.j0 k l0 l1 t528 bt529.1 bt529.2 (bt533.1 != (bt529.1.size : Int)))) else (none)))))))) = some r := h
  clear h
  by_cases c3 : (wrap64 ((l0.length : Int) + (l1.length : Int))) > 1048576
  · rw [if_pos c3] at H
    have c3b0 : decide (1048576 < (wrap64 ((l0.length : Int) + (l1.length : Int)))) = true := decide_eq_true c3
    clear c3
    obtain rfl := Option.some.inj H
    go_enter Try.func15, Try.ntmps15
    go_wp2
    go_ret
    exact ⟨by first | rfl | (simp [errW_none, errW_some] <;> rfl) | (simp [*, errW_none, errW_some] <;> rfl), by repeat (first | (with_reducible first | exact HB.out | apply below_alloc | apply pw_below_drewN | apply below_drew1) | exact HB.out)⟩
  · rw [if_neg c3] at H
    have c3b0 : decide (1048576 < (wrap64 ((l0.length : Int) + (l1.length : Int)))) = false := decide_eq_false c3
    clear c3
    replace H := Option.bind_eq_some_iff.mp H
    obtain ⟨t528, A40, H⟩ := H
    replace H : ((impl_PutU32.f k t528).bind fun bt529 => ((spec_PutU32.f k t528).bind fun bt531 => ((impl_LenU32.f k t528).bind fun bt533 => (if (bt529.2 != bt531.2) = true then (none) else (if bt529.1.toList = bt531.1.toList then (if (bt533.2 != bt529.2) = true then (none) else (laws_FnLeb.j0 k l0 l1 t528 bt529.1 bt529.2 (bt533.1 != (bt529.1.size : Int)))) else (none)))))) = some r := H
    have A4 := Aside0.mk A40
    clear A40
    replace H := Option.bind_eq_some_iff.mp H
    obtain ⟨⟨t529, t530⟩, A50, H⟩ := H
    replace H : ((spec_PutU32.f k t528).bind fun bt531 => ((impl_LenU32.f k t528).bind fun bt533 => (if (t530 != bt531.2) = true then (none) else (if t529.toList = bt531.1.toList then (if (bt533.2 != t530) = true then (none) else (laws_FnLeb.j0 k l0 l1 t528 t529 t530 (bt533.1 != (t529.size : Int)))) else (none))))) = some r := H
    have A5 := Aside0.mk A50
    clear A50
    replace H := Option.bind_eq_some_iff.mp H
    obtain ⟨⟨t531, t532⟩, A60, H⟩ := H
    replace H : ((impl_LenU32.f k t528).bind fun bt533 => (if (t530 != t532) = true then (none) else (if t529.toList = t531.toList then (if (bt533.2 != t530) = true then (none) else (laws_FnLeb.j0 k l0 l1 t528 t529 t530 (bt533.1 != (t529.size : Int)))) else (none)))) = some r := H
    have A6 := Aside0.mk A60
    clear A60
    replace H := Option.bind_eq_some_iff.mp H
    obtain ⟨⟨t533, t534⟩, A70, H⟩ := H
    replace H : (if (t530 != t532) = true then (none) else (if t529.toList = t531.toList then (if (t534 != t530) = true then (none) else (laws_FnLeb.j0 k l0 l1 t528 t529 t530 (t533 != (t529.size : Int)))) else (none))) = some r := H
    have A7 := Aside0.mk A70
    clear A70
    have HC8 := Aside0.mk H
    clear H
    go_enter Try.func15, Try.ntmps15
    go_upto_region 7 with (first | ((with_reducible refine gate_callee (f := 44) rfl ?_); refine goesL_ (some 49) rfl rfl Try.func44 (by kernel_rfl) rfl #[.slice A0 l0.length c0] rfl (by (try simp only [List.map_toArray, List.map_cons, List.map_nil]); first | done | rfl | (simp only [List.length_drop, List.length_take]; rfl)) ?_; (with_reducible refine (spec_DrawPutU32.calls _ _ l0 t528 _ ?side1 ?side2 A4.out).mono ?_); (case side1 => repeat (first | exact HR0.out | (with_reducible refine Kd.C_alloc ?_ _) | (with_reducible refine Kd.C_drewN ?_ _) | (with_reducible refine Kd.C_drew ?_))); (case side2 => exact HC0.out); rintro e w9 ⟨rfl, hb⟩; refine ⟨_, rfl, ?_⟩; have n0_ := Aside0.mk (below_step (by repeat (first | (with_reducible first | exact HB.out | apply below_alloc | apply pw_below_drewN | apply below_drew1) | exact HB.out)) hb); clear HB; have HB := n0_; clear n0_; (try clear hb); (try clear hb2); (try clear hk); (try clear hi)) | ((with_reducible refine gate_callee (f := 19) rfl ?_); refine goesL_ (some 52) rfl rfl Try.func19 (by kernel_rfl) rfl #[.int .i64 t528] rfl (by (try simp only [List.map_toArray, List.map_cons, List.map_nil]); first | done | rfl | (simp only [List.length_drop, List.length_take]; rfl)) ?_; (with_reducible refine (impl_PutU32.calls k t528 t529 t530 _ A5.out).mono ?_); rintro e w10 ⟨rfl, hb⟩; refine ⟨_, rfl, ?_⟩; have n0_ := Aside0.mk (below_step (by repeat (first | (with_reducible first | exact HB.out | apply below_alloc | apply pw_below_drewN | apply below_drew1) | exact HB.out)) hb); clear HB; have HB := n0_; clear n0_; (try clear hb); (try clear hb2); (try clear hk); (try clear hi)) | ((with_reducible refine gate_callee (f := 18) rfl ?_); refine goesL_ (some 57) rfl rfl Try.func18 (by kernel_rfl) rfl #[.int .i64 t528] rfl (by (try simp only [List.map_toArray, List.map_cons, List.map_nil]); first | done | rfl | (simp only [List.length_drop, List.length_take]; rfl)) ?_; (with_reducible refine (spec_PutU32.calls k t528 t531 t532 _ A6.out).mono ?_); rintro e w11 ⟨rfl, hb⟩; refine ⟨_, rfl, ?_⟩; have n0_ := Aside0.mk (below_step (by repeat (first | (with_reducible first | exact HB.out | apply below_alloc | apply pw_below_drewN | apply below_drew1) | exact HB.out)) hb); clear HB; have HB := n0_; clear n0_; (try clear hb); (try clear hb2); (try clear hk); (try clear hi)) | ((with_reducible refine gate_callee (f := 23) rfl ?_); refine goesL_ (some 62) rfl rfl Try.func23 (by kernel_rfl) rfl #[.int .i64 t528] rfl (by (try simp only [List.map_toArray, List.map_cons, List.map_nil]); first | done | rfl | (simp only [List.length_drop, List.length_take]; rfl)) ?_; (with_reducible refine (impl_LenU32.calls k t528 t533 t534 _ A7.out).mono ?_); rintro e w12 ⟨rfl, hb⟩; refine ⟨_, rfl, ?_⟩; have n0_ := Aside0.mk (below_step (by repeat (first | (with_reducible first | exact HB.out | apply below_alloc | apply pw_below_drewN | apply below_drew1) | exact HB.out)) hb); clear HB; have HB := n0_; clear n0_; (try clear hb); (try clear hb2); (try clear hk); (try clear hi)))
    (try simp only [Act.put, List.setIfInBounds_toArray, List.set_cons_zero, List.set_cons_succ])
    as_aux_lemma =>
    go_cut [83] (fun v83 wc => ∃ (kq : Nat) (x83_7 : Bool), v83 = .bool x83_7 ∧ Aside0 (laws_FnLeb.j0 kq l0 l1 t528 t529 t530 x83_7 = some r) ∧ Aside0 (kq ≤ k) ∧ Aside0 (Below w.heap.size w wc))
    case first =>
      as_aux_lemma =>
      have H := HC8.out
      clear HC8
      by_cases c13 : (t530 != t532) = true
      · rw [if_pos c13] at H
        exact absurd H (by simp)
      · rw [if_neg c13] at H
        have c13b0 : (t530 != t532) = false := by simpa using c13
        (try (have c13b1 : decide (t530 = t532) = true := by simpa using c13))
        (try (have c13b2 : (t530 == t532) = true := by simpa using c13))
        clear c13
        (first | rw [c13b0] | (simp only [i64_w, i32_w]; rw [c13b0]) | skip)
        by_cases c14 : t529.toList = t531.toList
        · rw [if_pos c14] at H
          have c14b0 : (t529.toList == t531.toList) = true := beq_iff_eq.mpr c14
          have c14b1 : (t529.toList != t531.toList) = false := bne_eq_false_iff_eq.mpr c14
          clear c14
          by_cases c15 : (t534 != t530) = true
          · rw [if_pos c15] at H
            exact absurd H (by simp)
          · rw [if_neg c15] at H
            have c15b0 : (t534 != t530) = false := by simpa using c15
            (try (have c15b1 : decide (t534 = t530) = true := by simpa using c15))
            (try (have c15b2 : (t534 == t530) = true := by simpa using c15))
            clear c15
            have H' := Aside0.mk H
            clear H
            go_wp2
            go_meet
            case rel => exact ⟨_, ((t533 != (t529.size : Int))), (by first | rfl | (simp; done) | (simp [*]; done)), H', ⟨by first | omega | exact Nat.le_refl _⟩, ⟨by repeat (first | (with_reducible first | exact HB.out | apply below_alloc | apply pw_below_drewN | apply below_drew1) | exact HB.out)⟩⟩
        · rw [if_neg c14] at H
          exact absurd H (by simp)
    case rest =>
      as_aux_lemma =>
      clear HC8
      try clear c1
      try clear c2
      try clear p2
      try clear c3
      try clear c3b0
      try clear c4
      try clear p6
      try clear c13
      try clear c13b0
      try clear c13b1
      try clear c13b2
      try clear c14
      try clear c14b0
      try clear c14b1
      try clear c15
      try clear c15b0
      try clear c15b1
      try clear c15b2
      obtain ⟨kq, x83_7, rfl, HA, HJ7, HB⟩ := hcut
      cases kq with
      | zero => exact absurd HA.out (by simp [laws_FnLeb.j0])
      | succ kj7 =>
        have H := HA.out
        clear HA
        simp only [laws_FnLeb.j0] at H
        by_cases c16 : x83_7 = true
        · subst c16
          have H1 : (none) = some r := by rw [if_pos rfl] at H; exact H
          exact absurd H1 (by simp)
        · replace c16 := Bool.eq_false_iff.mpr c16
          subst c16
          have H1 : (if t530 = true then (if t529.size + 1 ≤ 9223372036854775807 then ((impl_TakeU32.f kj7 (t529 ++ (⟨#[120]⟩ : ByteArray)) 0).bind fun bt535 => (if bt535.2.2 = true then (if bt535.1 = t528 then (if bt535.2.1 = (t529.size : Int) then ((impl_IsLeast.f kj7 t529).bind fun t538 => (if t538 = true then (if (t529.size : Int) > 1 then (if 0 ≤ (IntKind.u64.wrap (wrap64 ((wrap64 (7 * (t529.size : Int))) - 7))) then (if (shr .i64 t528 (IntKind.u64.wrap (wrap64 ((wrap64 (7 * (t529.size : Int))) - 7)))) = 0 then (none) else (laws_FnLeb.j1 kj7 l0 l1)) else (none)) else (laws_FnLeb.j1 kj7 l0 l1)) else (none))) else (none)) else (none)) else (none))) else (none)) else (laws_FnLeb.j1 kj7 l0 l1)) = some r := by rw [if_neg (show ¬ (false = true) by decide)] at H; exact H
          clear H
          have H := H1
          clear H1
          have HC17 := Aside0.mk H
          clear H
          go_upto_if 84 with (fail)
          as_aux_lemma =>
          go_cut [] (fun wc => ∃ (kq : Nat), Aside0 (laws_FnLeb.j1 kq l0 l1 = some r) ∧ Aside0 (kq ≤ kj7) ∧ Aside0 (Below w.heap.size w wc))
          case first =>
            as_aux_lemma =>
            have H := HC17.out
            clear HC17
            by_cases c18 : t530 = true
            · subst c18
              have H1 : (if t529.size + 1 ≤ 9223372036854775807 then ((impl_TakeU32.f kj7 (t529 ++ (⟨#[120]⟩ : ByteArray)) 0).bind fun bt535 => (if bt535.2.2 = true then (if bt535.1 = t528 then (if bt535.2.1 = (t529.size : Int) then ((impl_IsLeast.f kj7 t529).bind fun t538 => (if t538 = true then (if (t529.size : Int) > 1 then (if 0 ≤ (IntKind.u64.wrap (wrap64 ((wrap64 (7 * (t529.size : Int))) - 7))) then (if (shr .i64 t528 (IntKind.u64.wrap (wrap64 ((wrap64 (7 * (t529.size : Int))) - 7)))) = 0 then (none) else (laws_FnLeb.j1 kj7 l0 l1)) else (none)) else (laws_FnLeb.j1 kj7 l0 l1)) else (none))) else (none)) else (none)) else (none))) else (none)) = some r := by rw [if_pos rfl] at H; exact H
              clear H
              have H := H1
              clear H1
              by_cases c19 : t529.size + 1 ≤ 9223372036854775807
              · rw [if_pos c19] at H
                have c19b0 := eq_true c19
                have c19b1 : decide (t529.size + 1 ≤ 9223372036854775807) = true := decide_eq_true c19
                try have c19b2 : (9223372036854775807 < t529.size + 1) = False := eq_false (Nat.not_lt.2 c19)
                replace H := Option.bind_eq_some_iff.mp H
                obtain ⟨⟨t535, t536, t537⟩, A200, H⟩ := H
                replace H : (if t537 = true then (if t535 = t528 then (if t536 = (t529.size : Int) then ((impl_IsLeast.f kj7 t529).bind fun t538 => (if t538 = true then (if (t529.size : Int) > 1 then (if 0 ≤ (IntKind.u64.wrap (wrap64 ((wrap64 (7 * (t529.size : Int))) - 7))) then (if (shr .i64 t528 (IntKind.u64.wrap (wrap64 ((wrap64 (7 * (t529.size : Int))) - 7)))) = 0 then (none) else (laws_FnLeb.j1 kj7 l0 l1)) else (none)) else (laws_FnLeb.j1 kj7 l0 l1)) else (none))) else (none)) else (none)) else (none)) = some r := H
                have A20 := Aside0.mk A200
                clear A200
                by_cases c21 : t537 = true
                · subst c21
                  have H1 : (if t535 = t528 then (if t536 = (t529.size : Int) then ((impl_IsLeast.f kj7 t529).bind fun t538 => (if t538 = true then (if (t529.size : Int) > 1 then (if 0 ≤ (IntKind.u64.wrap (wrap64 ((wrap64 (7 * (t529.size : Int))) - 7))) then (if (shr .i64 t528 (IntKind.u64.wrap (wrap64 ((wrap64 (7 * (t529.size : Int))) - 7)))) = 0 then (none) else (laws_FnLeb.j1 kj7 l0 l1)) else (none)) else (laws_FnLeb.j1 kj7 l0 l1)) else (none))) else (none)) else (none)) = some r := by rw [if_pos rfl] at H; exact H
                  clear H
                  have H := H1
                  clear H1
                  by_cases c22 : t535 = t528
                  · rw [if_pos c22] at H
                    have c22b0 : (t535 == t528) = true := beq_iff_eq.mpr c22
                    have c22b1 : (t535 != t528) = false := bne_eq_false_iff_eq.mpr c22
                    clear c22
                    (first | rw [c22b0] | (simp only [i64_w, i32_w]; rw [c22b0]) | skip)
                    by_cases c23 : t536 = (t529.size : Int)
                    · rw [if_pos c23] at H
                      have c23b0 : (t536 == (t529.size : Int)) = true := beq_iff_eq.mpr c23
                      have c23b1 : (t536 != (t529.size : Int)) = false := bne_eq_false_iff_eq.mpr c23
                      clear c23
                      replace H := Option.bind_eq_some_iff.mp H
                      obtain ⟨t538, A240, H⟩ := H
                      replace H : (if t538 = true then (if (t529.size : Int) > 1 then (if 0 ≤ (IntKind.u64.wrap (wrap64 ((wrap64 (7 * (t529.size : Int))) - 7))) then (if (shr .i64 t528 (IntKind.u64.wrap (wrap64 ((wrap64 (7 * (t529.size : Int))) - 7)))) = 0 then (none) else (laws_FnLeb.j1 kj7 l0 l1)) else (none)) else (laws_FnLeb.j1 kj7 l0 l1)) else (none)) = some r := H
                      have A24 := Aside0.mk A240
                      clear A240
                      by_cases c25 : t538 = true
                      · subst c25
                        have H1 : (if (t529.size : Int) > 1 then (if 0 ≤ (IntKind.u64.wrap (wrap64 ((wrap64 (7 * (t529.size : Int))) - 7))) then (if (shr .i64 t528 (IntKind.u64.wrap (wrap64 ((wrap64 (7 * (t529.size : Int))) - 7)))) = 0 then (none) else (laws_FnLeb.j1 kj7 l0 l1)) else (none)) else (laws_FnLeb.j1 kj7 l0 l1)) = some r := by rw [if_pos rfl] at H; exact H
                        clear H
                        have H := H1
                        clear H1
                        by_cases c26 : (t529.size : Int) > 1
                        · rw [if_pos c26] at H
                          have c26b0 : decide (1 < (t529.size : Int)) = true := decide_eq_true c26
                          have c26b1 : decide (1 < t529.size) = true := decide_eq_true (by omega)
                          clear c26
                          obtain ⟨ji27, hji27⟩ : ∃ j_ : Int, (IntKind.u64.wrap (wrap64 ((wrap64 (7 * (t529.size : Int))) - 7))) = j_ := ⟨_, rfl⟩
                          replace H : (if 0 ≤ (ji27) then (if (shr .i64 t528 (ji27)) = 0 then (none) else (laws_FnLeb.j1 kj7 l0 l1)) else (none)) = some r := by first | (rw [hji27] at H; exact H) | (simp only [hji27] at H ⊢; exact H)
                          (try rw [hji27] at A20)
                          (try rw [hji27] at A24)
                          by_cases c28 : 0 ≤ (ji27)
                          · rw [if_pos c28] at H
                            have c28b0 := eq_true c28
                            have c28b1 : decide (0 ≤ (ji27)) = true := decide_eq_true c28
                            clear c28
                            obtain ⟨ji29, hji29⟩ : ∃ j_ : Int, (shr .i64 t528 (ji27)) = j_ := ⟨_, rfl⟩
                            replace H : (if (ji29) = 0 then (none) else (laws_FnLeb.j1 kj7 l0 l1)) = some r := by first | (rw [hji29] at H; exact H) | (simp only [hji29] at H ⊢; exact H)
                            (try rw [hji29] at A20)
                            (try rw [hji29] at A24)
                            have hji29_ : (t528 / 2 ^ min (ji27).toNat 64) = ji29 := hji29
                            have hji29z : (ji27) ≤ 64 → (t528 / 2 ^ (ji27).toNat) = ji29 := shr_small hji29
                            by_cases c30 : (ji29) = 0
                            · rw [if_pos c30] at H
                              exact absurd H (by simp)
                            · rw [if_neg c30] at H
                              have c30b0 : ((ji29) == 0) = false := beq_eq_false_iff_ne.mpr c30
                              have c30b1 : ((ji29) != 0) = true := bne_iff_ne.mpr c30
                              have H' := Aside0.mk H
                              clear H
                              go_wp2_with (first | ((with_reducible refine gate_callee (f := 27) rfl ?_); refine goesL_ (some 88) rfl rfl Try.func27 (by kernel_rfl) rfl #[.string (t529 ++ (⟨#[120]⟩ : ByteArray)), .int .i64 0] rfl (by (try simp only [List.map_toArray, List.map_cons, List.map_nil]); first | done | rfl | (simp only [List.length_drop, List.length_take]; rfl)) ?_; (with_reducible refine (impl_TakeU32.calls kj7 (t529 ++ (⟨#[120]⟩ : ByteArray)) 0 t535 t536 true _ A20.out).mono ?_); rintro e w' ⟨rfl, ⟨nd, rfl⟩⟩; refine ⟨_, rfl, ?_⟩) | (go_at_call 31; (with_reducible refine (impl_IsLeast.calls kj7 t529 true _ A24.out).mono ?_); rintro e w32 ⟨rfl, hb⟩; have n0_ := Aside0.mk (below_step (by repeat (first | (with_reducible first | exact HB.out | apply below_alloc | apply pw_below_drewN | apply below_drew1) | exact HB.out)) hb); clear HB; have HB := n0_; clear n0_; (try clear hb); (try clear hb2); (try clear hk); (try clear hi)))
                              go_meet
                              case rel => exact ⟨_, H', ⟨by have := HJ7.out; first | omega | exact Nat.le_refl _⟩, ⟨by repeat (first | (with_reducible first | exact HB.out | apply below_alloc | apply pw_below_drewN | apply below_drew1) | exact HB.out)⟩⟩
                          · rw [if_neg c28] at H
                            exact absurd H (by simp)
                        · rw [if_neg c26] at H
                          have c26b0 : decide (1 < (t529.size : Int)) = false := decide_eq_false c26
                          have c26b1 : decide (1 < t529.size) = false := decide_eq_false (by omega)
                          clear c26
                          have H' := Aside0.mk H
                          clear H
                          go_wp2_with (first | ((with_reducible refine gate_callee (f := 27) rfl ?_); refine goesL_ (some 88) rfl rfl Try.func27 (by kernel_rfl) rfl #[.string (t529 ++ (⟨#[120]⟩ : ByteArray)), .int .i64 0] rfl (by (try simp only [List.map_toArray, List.map_cons, List.map_nil]); first | done | rfl | (simp only [List.length_drop, List.length_take]; rfl)) ?_; (with_reducible refine (impl_TakeU32.calls kj7 (t529 ++ (⟨#[120]⟩ : ByteArray)) 0 t535 t536 true _ A20.out).mono ?_); rintro e w' ⟨rfl, ⟨nd, rfl⟩⟩; refine ⟨_, rfl, ?_⟩) | (go_at_call 31; (with_reducible refine (impl_IsLeast.calls kj7 t529 true _ A24.out).mono ?_); rintro e w33 ⟨rfl, hb⟩; have n0_ := Aside0.mk (below_step (by repeat (first | (with_reducible first | exact HB.out | apply below_alloc | apply pw_below_drewN | apply below_drew1) | exact HB.out)) hb); clear HB; have HB := n0_; clear n0_; (try clear hb); (try clear hb2); (try clear hk); (try clear hi)))
                          go_meet
                          case rel => exact ⟨_, H', ⟨by have := HJ7.out; first | omega | exact Nat.le_refl _⟩, ⟨by repeat (first | (with_reducible first | exact HB.out | apply below_alloc | apply pw_below_drewN | apply below_drew1) | exact HB.out)⟩⟩
                      · replace c25 := Bool.eq_false_iff.mpr c25
                        subst c25
                        have H1 : (none) = some r := by rw [if_neg (show ¬ (false = true) by decide)] at H; exact H
                        exact absurd H1 (by simp)
                    · rw [if_neg c23] at H
                      exact absurd H (by simp)
                  · rw [if_neg c22] at H
                    exact absurd H (by simp)
                · replace c21 := Bool.eq_false_iff.mpr c21
                  subst c21
                  have H1 : (none) = some r := by rw [if_neg (show ¬ (false = true) by decide)] at H; exact H
                  exact absurd H1 (by simp)
              · rw [if_neg c19] at H
                exact absurd H (by simp)
            · replace c18 := Bool.eq_false_iff.mpr c18
              subst c18
              have H1 : (laws_FnLeb.j1 kj7 l0 l1) = some r := by rw [if_neg (show ¬ (false = true) by decide)] at H; exact H
              clear H
              have H := H1
              clear H1
              have H' := Aside0.mk H
              clear H
              go_wp2
              go_meet
              case rel => exact ⟨_, H', ⟨by have := HJ7.out; first | omega | exact Nat.le_refl _⟩, ⟨by repeat (first | (with_reducible first | exact HB.out | apply below_alloc | apply pw_below_drewN | apply below_drew1) | exact HB.out)⟩⟩
          case rest =>
            as_aux_lemma =>
            clear HC17
            try clear c1
            try clear c2
            try clear p2
            try clear c3
            try clear c3b0
            try clear c4
            try clear p6
            try clear c13
            try clear c13b0
            try clear c13b1
            try clear c13b2
            try clear c14
            try clear c14b0
            try clear c14b1
            try clear c15
            try clear c15b0
            try clear c15b1
            try clear c15b2
            try clear c16
            try clear c18
            try clear c19
            try clear c19b0
            try clear c19b1
            try clear c19b2
            try clear c21
            try clear c22
            try clear c22b0
            try clear c22b1
            try clear c23
            try clear c23b0
            try clear c23b1
            try clear c25
            try clear c26
            try clear c26b0
            try clear c26b1
            try clear c27
            try clear c28
            try clear c28b0
            try clear c28b1
            try clear c30
            try clear c30b0
            try clear c30b1
            try clear p2
            try clear p6
            obtain ⟨kq, HA, HJ16, HB⟩ := hcut
            cases kq with
            | zero => exact absurd HA.out (by simp [laws_FnLeb.j1])
            | succ kj16 =>
              have H := HA.out
              clear HA
              simp only [laws_FnLeb.j1] at H
              replace H := Option.bind_eq_some_iff.mp H
              obtain ⟨t539, A350, H⟩ := H
              replace H : ((impl_PutS32.f kj16 t539).bind fun bt540 => ((spec_PutS32.f kj16 t539).bind fun bt542 => ((impl_LenS32.f kj16 t539).bind fun bt544 => (if (bt540.2 != bt542.2) = true then (none) else (if bt540.1.toList = bt542.1.toList then (if (bt544.2 != bt540.2) = true then (none) else (laws_FnLeb.j2 kj16 l1 t539 bt540.1 bt540.2 (bt544.1 != (bt540.1.size : Int)))) else (none)))))) = some r := H
              have A35 := Aside0.mk A350
              clear A350
              replace H := Option.bind_eq_some_iff.mp H
              obtain ⟨⟨t540, t541⟩, A360, H⟩ := H
              replace H : ((spec_PutS32.f kj16 t539).bind fun bt542 => ((impl_LenS32.f kj16 t539).bind fun bt544 => (if (t541 != bt542.2) = true then (none) else (if t540.toList = bt542.1.toList then (if (bt544.2 != t541) = true then (none) else (laws_FnLeb.j2 kj16 l1 t539 t540 t541 (bt544.1 != (t540.size : Int)))) else (none))))) = some r := H
              have A36 := Aside0.mk A360
              clear A360
              replace H := Option.bind_eq_some_iff.mp H
              obtain ⟨⟨t542, t543⟩, A370, H⟩ := H
              replace H : ((impl_LenS32.f kj16 t539).bind fun bt544 => (if (t541 != t543) = true then (none) else (if t540.toList = t542.toList then (if (bt544.2 != t541) = true then (none) else (laws_FnLeb.j2 kj16 l1 t539 t540 t541 (bt544.1 != (t540.size : Int)))) else (none)))) = some r := H
              have A37 := Aside0.mk A370
              clear A370
              replace H := Option.bind_eq_some_iff.mp H
              obtain ⟨⟨t544, t545⟩, A380, H⟩ := H
              replace H : (if (t541 != t543) = true then (none) else (if t540.toList = t542.toList then (if (t545 != t541) = true then (none) else (laws_FnLeb.j2 kj16 l1 t539 t540 t541 (t544 != (t540.size : Int)))) else (none))) = some r := H
              have A38 := Aside0.mk A380
              clear A380
              have HC39 := Aside0.mk H
              clear H
              go_upto_region 17 with (first | ((with_reducible refine gate_callee (f := 45) rfl ?_); refine goesL_ (some 126) rfl rfl Try.func45 (by kernel_rfl) rfl #[.slice A0 l0.length c0] rfl (by (try simp only [List.map_toArray, List.map_cons, List.map_nil]); first | done | rfl | (simp only [List.length_drop, List.length_take]; rfl)) ?_; (with_reducible refine (spec_DrawPutS32.calls _ _ l0 t539 _ ?side1 ?side2 A35.out).mono ?_); (case side1 => repeat (first | exact (Kd.C_below HR0.out HB.out) | (with_reducible refine Kd.C_alloc ?_ _) | (with_reducible refine Kd.C_drewN ?_ _) | (with_reducible refine Kd.C_drew ?_))); (case side2 => exact HC0.out); rintro e w40 ⟨rfl, hb⟩; refine ⟨_, rfl, ?_⟩; have n0_ := Aside0.mk (below_step (by repeat (first | (with_reducible first | exact HB.out | apply below_alloc | apply pw_below_drewN | apply below_drew1) | exact HB.out)) hb); clear HB; have HB := n0_; clear n0_; (try clear hb); (try clear hb2); (try clear hk); (try clear hi)) | ((with_reducible refine gate_callee (f := 17) rfl ?_); refine goesL_ (some 129) rfl rfl Try.func17 (by kernel_rfl) rfl #[.int .i64 t539] rfl (by (try simp only [List.map_toArray, List.map_cons, List.map_nil]); first | done | rfl | (simp only [List.length_drop, List.length_take]; rfl)) ?_; (with_reducible refine (impl_PutS32.calls kj16 t539 t540 t541 _ A36.out).mono ?_); rintro e w41 ⟨rfl, hb⟩; refine ⟨_, rfl, ?_⟩; have n0_ := Aside0.mk (below_step (by repeat (first | (with_reducible first | exact HB.out | apply below_alloc | apply pw_below_drewN | apply below_drew1) | exact HB.out)) hb); clear HB; have HB := n0_; clear n0_; (try clear hb); (try clear hb2); (try clear hk); (try clear hi)) | ((with_reducible refine gate_callee (f := 16) rfl ?_); refine goesL_ (some 134) rfl rfl Try.func16 (by kernel_rfl) rfl #[.int .i64 t539] rfl (by (try simp only [List.map_toArray, List.map_cons, List.map_nil]); first | done | rfl | (simp only [List.length_drop, List.length_take]; rfl)) ?_; (with_reducible refine (spec_PutS32.calls kj16 t539 t542 t543 _ A37.out).mono ?_); rintro e w42 ⟨rfl, hb⟩; refine ⟨_, rfl, ?_⟩; have n0_ := Aside0.mk (below_step (by repeat (first | (with_reducible first | exact HB.out | apply below_alloc | apply pw_below_drewN | apply below_drew1) | exact HB.out)) hb); clear HB; have HB := n0_; clear n0_; (try clear hb); (try clear hb2); (try clear hk); (try clear hi)) | ((with_reducible refine gate_callee (f := 21) rfl ?_); refine goesL_ (some 139) rfl rfl Try.func21 (by kernel_rfl) rfl #[.int .i64 t539] rfl (by (try simp only [List.map_toArray, List.map_cons, List.map_nil]); first | done | rfl | (simp only [List.length_drop, List.length_take]; rfl)) ?_; (with_reducible refine (impl_LenS32.calls kj16 t539 t544 t545 _ A38.out).mono ?_); rintro e w43 ⟨rfl, hb⟩; refine ⟨_, rfl, ?_⟩; have n0_ := Aside0.mk (below_step (by repeat (first | (with_reducible first | exact HB.out | apply below_alloc | apply pw_below_drewN | apply below_drew1) | exact HB.out)) hb); clear HB; have HB := n0_; clear n0_; (try clear hb); (try clear hb2); (try clear hk); (try clear hi)))
              (try simp only [Act.put, List.setIfInBounds_toArray, List.set_cons_zero, List.set_cons_succ])
              as_aux_lemma =>
              go_cut [160] (fun v160 wc => ∃ (kq : Nat) (x160_38 : Bool), v160 = .bool x160_38 ∧ Aside0 (laws_FnLeb.j2 kq l1 t539 t540 t541 x160_38 = some r) ∧ Aside0 (kq ≤ kj16) ∧ Aside0 (Below w.heap.size w wc))
              case first =>
                as_aux_lemma =>
                have H := HC39.out
                clear HC39
                by_cases c44 : (t541 != t543) = true
                · rw [if_pos c44] at H
                  exact absurd H (by simp)
                · rw [if_neg c44] at H
                  have c44b0 : (t541 != t543) = false := by simpa using c44
                  (try (have c44b1 : decide (t541 = t543) = true := by simpa using c44))
                  (try (have c44b2 : (t541 == t543) = true := by simpa using c44))
                  clear c44
                  (first | rw [c44b0] | (simp only [i64_w, i32_w]; rw [c44b0]) | skip)
                  by_cases c45 : t540.toList = t542.toList
                  · rw [if_pos c45] at H
                    have c45b0 : (t540.toList == t542.toList) = true := beq_iff_eq.mpr c45
                    have c45b1 : (t540.toList != t542.toList) = false := bne_eq_false_iff_eq.mpr c45
                    clear c45
                    by_cases c46 : (t545 != t541) = true
                    · rw [if_pos c46] at H
                      exact absurd H (by simp)
                    · rw [if_neg c46] at H
                      have c46b0 : (t545 != t541) = false := by simpa using c46
                      (try (have c46b1 : decide (t545 = t541) = true := by simpa using c46))
                      (try (have c46b2 : (t545 == t541) = true := by simpa using c46))
                      clear c46
                      have H' := Aside0.mk H
                      clear H
                      go_wp2
                      go_meet
                      case rel => exact ⟨_, ((t544 != (t540.size : Int))), (by first | rfl | (simp; done) | (simp [*]; done)), H', ⟨by have := HJ7.out; have := HJ16.out; first | omega | exact Nat.le_refl _⟩, ⟨by repeat (first | (with_reducible first | exact HB.out | apply below_alloc | apply pw_below_drewN | apply below_drew1) | exact HB.out)⟩⟩
                  · rw [if_neg c45] at H
                    exact absurd H (by simp)
              case rest =>
                as_aux_lemma =>
                clear HC39
                try clear c1
                try clear c2
                try clear p2
                try clear c3
                try clear c3b0
                try clear c4
                try clear p6
                try clear c13
                try clear c13b0
                try clear c13b1
                try clear c13b2
                try clear c14
                try clear c14b0
                try clear c14b1
                try clear c15
                try clear c15b0
                try clear c15b1
                try clear c15b2
                try clear c16
                try clear c17
                try clear c18
                try clear c19
                try clear c19b0
                try clear c19b1
                try clear c19b2
                try clear c21
                try clear c22
                try clear c22b0
                try clear c22b1
                try clear c23
                try clear c23b0
                try clear c23b1
                try clear c25
                try clear c26
                try clear c26b0
                try clear c26b1
                try clear c27
                try clear c28
                try clear c28b0
                try clear c28b1
                try clear c30
                try clear c30b0
                try clear c30b1
                try clear c44
                try clear c44b0
                try clear c44b1
                try clear c44b2
                try clear c45
                try clear c45b0
                try clear c45b1
                try clear c46
                try clear c46b0
                try clear c46b1
                try clear c46b2
                try clear p2
                try clear p6
                obtain ⟨kq, x160_38, rfl, HA, HJ38, HB⟩ := hcut
                cases kq with
                | zero => exact absurd HA.out (by simp [laws_FnLeb.j2])
                | succ kj38 =>
                  have H := HA.out
                  clear HA
                  simp only [laws_FnLeb.j2] at H
                  by_cases c47 : x160_38 = true
                  · subst c47
                    have H1 : (none) = some r := by rw [if_pos rfl] at H; exact H
                    exact absurd H1 (by simp)
                  · replace c47 := Bool.eq_false_iff.mpr c47
                    subst c47
                    have H1 : (if t541 = true then (if t540.size + 1 ≤ 9223372036854775807 then ((impl_TakeS32.f kj38 (t540 ++ (⟨#[120]⟩ : ByteArray)) 0).bind fun bt546 => (if bt546.2.2 = true then (if bt546.1 = t539 then (if bt546.2.1 = (t540.size : Int) then (laws_FnLeb.j3 kj38 l1) else (none)) else (none)) else (none))) else (none)) else (laws_FnLeb.j3 kj38 l1)) = some r := by rw [if_neg (show ¬ (false = true) by decide)] at H; exact H
                    clear H
                    have H := H1
                    clear H1
                    have HC48 := Aside0.mk H
                    clear H
                    go_upto_if 161 with (fail)
                    as_aux_lemma =>
                    go_cut [] (fun wc => ∃ (kq : Nat), Aside0 (laws_FnLeb.j3 kq l1 = some r) ∧ Aside0 (kq ≤ kj38) ∧ Aside0 (Below w.heap.size w wc))
                    case first =>
                      as_aux_lemma =>
                      have H := HC48.out
                      clear HC48
                      by_cases c49 : t541 = true
                      · subst c49
                        have H1 : (if t540.size + 1 ≤ 9223372036854775807 then ((impl_TakeS32.f kj38 (t540 ++ (⟨#[120]⟩ : ByteArray)) 0).bind fun bt546 => (if bt546.2.2 = true then (if bt546.1 = t539 then (if bt546.2.1 = (t540.size : Int) then (laws_FnLeb.j3 kj38 l1) else (none)) else (none)) else (none))) else (none)) = some r := by rw [if_pos rfl] at H; exact H
                        clear H
                        have H := H1
                        clear H1
                        by_cases c50 : t540.size + 1 ≤ 9223372036854775807
                        · rw [if_pos c50] at H
                          have c50b0 := eq_true c50
                          have c50b1 : decide (t540.size + 1 ≤ 9223372036854775807) = true := decide_eq_true c50
                          try have c50b2 : (9223372036854775807 < t540.size + 1) = False := eq_false (Nat.not_lt.2 c50)
                          replace H := Option.bind_eq_some_iff.mp H
                          obtain ⟨⟨t546, t547, t548⟩, A510, H⟩ := H
                          replace H : (if t548 = true then (if t546 = t539 then (if t547 = (t540.size : Int) then (laws_FnLeb.j3 kj38 l1) else (none)) else (none)) else (none)) = some r := H
                          have A51 := Aside0.mk A510
                          clear A510
                          by_cases c52 : t548 = true
                          · subst c52
                            have H1 : (if t546 = t539 then (if t547 = (t540.size : Int) then (laws_FnLeb.j3 kj38 l1) else (none)) else (none)) = some r := by rw [if_pos rfl] at H; exact H
                            clear H
                            have H := H1
                            clear H1
                            by_cases c53 : t546 = t539
                            · rw [if_pos c53] at H
                              have c53b0 : (t546 == t539) = true := beq_iff_eq.mpr c53
                              have c53b1 : (t546 != t539) = false := bne_eq_false_iff_eq.mpr c53
                              clear c53
                              (first | rw [c53b0] | (simp only [i64_w, i32_w]; rw [c53b0]) | skip)
                              by_cases c54 : t547 = (t540.size : Int)
                              · rw [if_pos c54] at H
                                have c54b0 : (t547 == (t540.size : Int)) = true := beq_iff_eq.mpr c54
                                have c54b1 : (t547 != (t540.size : Int)) = false := bne_eq_false_iff_eq.mpr c54
                                clear c54
                                have H' := Aside0.mk H
                                clear H
                                go_wp2_with (first | ((with_reducible refine gate_callee (f := 29) rfl ?_); refine goesL_ (some 165) rfl rfl Try.func29 (by kernel_rfl) rfl #[.string (t540 ++ (⟨#[120]⟩ : ByteArray)), .int .i64 0] rfl (by (try simp only [List.map_toArray, List.map_cons, List.map_nil]); first | done | rfl | (simp only [List.length_drop, List.length_take]; rfl)) ?_; (with_reducible refine (impl_TakeS32.calls kj38 (t540 ++ (⟨#[120]⟩ : ByteArray)) 0 t546 t547 true _ A51.out).mono ?_); rintro e w' ⟨rfl, ⟨nd, rfl⟩⟩; refine ⟨_, rfl, ?_⟩))
                                go_meet
                                case rel => exact ⟨_, H', ⟨by have := HJ7.out; have := HJ16.out; have := HJ38.out; first | omega | exact Nat.le_refl _⟩, ⟨by repeat (first | (with_reducible first | exact HB.out | apply below_alloc | apply pw_below_drewN | apply below_drew1) | exact HB.out)⟩⟩
                              · rw [if_neg c54] at H
                                exact absurd H (by simp)
                            · rw [if_neg c53] at H
                              exact absurd H (by simp)
                          · replace c52 := Bool.eq_false_iff.mpr c52
                            subst c52
                            have H1 : (none) = some r := by rw [if_neg (show ¬ (false = true) by decide)] at H; exact H
                            exact absurd H1 (by simp)
                        · rw [if_neg c50] at H
                          exact absurd H (by simp)
                      · replace c49 := Bool.eq_false_iff.mpr c49
                        subst c49
                        have H1 : (laws_FnLeb.j3 kj38 l1) = some r := by rw [if_neg (show ¬ (false = true) by decide)] at H; exact H
                        clear H
                        have H := H1
                        clear H1
                        have H' := Aside0.mk H
                        clear H
                        go_wp2
                        go_meet
                        case rel => exact ⟨_, H', ⟨by have := HJ7.out; have := HJ16.out; have := HJ38.out; first | omega | exact Nat.le_refl _⟩, ⟨by repeat (first | (with_reducible first | exact HB.out | apply below_alloc | apply pw_below_drewN | apply below_drew1) | exact HB.out)⟩⟩
                    case rest =>
                      as_aux_lemma =>
                      clear HC48
                      try clear c1
                      try clear c2
                      try clear p2
                      try clear c3
                      try clear c3b0
                      try clear c4
                      try clear c5
                      try clear p6
                      try clear c13
                      try clear c13b0
                      try clear c13b1
                      try clear c13b2
                      try clear c14
                      try clear c14b0
                      try clear c14b1
                      try clear c15
                      try clear c15b0
                      try clear c15b1
                      try clear c15b2
                      try clear c16
                      try clear c17
                      try clear c18
                      try clear c19
                      try clear c19b0
                      try clear c19b1
                      try clear c19b2
                      try clear c21
                      try clear c22
                      try clear c22b0
                      try clear c22b1
                      try clear c23
                      try clear c23b0
                      try clear c23b1
                      try clear c25
                      try clear c26
                      try clear c26b0
                      try clear c26b1
                      try clear c27
                      try clear c28
                      try clear c28b0
                      try clear c28b1
                      try clear c29
                      try clear c30
                      try clear c30b0
                      try clear c30b1
                      try clear c44
                      try clear c44b0
                      try clear c44b1
                      try clear c44b2
                      try clear c45
                      try clear c45b0
                      try clear c45b1
                      try clear c46
                      try clear c46b0
                      try clear c46b1
                      try clear c46b2
                      try clear c47
                      try clear c49
                      try clear c50
                      try clear c50b0
                      try clear c50b1
                      try clear c50b2
                      try clear c52
                      try clear c53
                      try clear c53b0
                      try clear c53b1
                      try clear c54
                      try clear c54b0
                      try clear c54b1
                      try clear p2
                      try clear p6
                      obtain ⟨kq, HA, HJ47, HB⟩ := hcut
                      cases kq with
                      | zero => exact absurd HA.out (by simp [laws_FnLeb.j3])
                      | succ kj47 =>
                        have H := HA.out
                        clear HA
                        simp only [laws_FnLeb.j3] at H
                        replace H := Option.bind_eq_some_iff.mp H
                        obtain ⟨⟨t549, t550⟩, A550, H⟩ := H
                        replace H : ((impl_TakeU32.f kj47 t549 t550).bind fun bt551 => ((spec_TakeU32.f kj47 t549 t550).bind fun bt554 => ((impl_TakeS32.f kj47 t549 t550).bind fun bt557 => ((spec_TakeS32.f kj47 t549 t550).bind fun bt560 => ((spec_DrawIsLeast.f kj47 l1).bind fun t563 => (if (bt551.2.2 != bt554.2.2) = true then (none) else (if bt551.1 = bt554.1 then (if bt551.2.1 = bt554.2.1 then (if (bt557.2.2 != bt560.2.2) = true then (none) else (if bt557.1 = bt560.1 then (if bt557.2.1 = bt560.2.1 then ((impl_IsLeast.f kj47 t563).bind fun t564 => ((spec_IsLeast.f kj47 t563).bind fun t565 => (laws_FnLeb.j4 kj47 t549 t550 bt551.1 bt551.2.1 bt551.2.2 (t564 != t565)))) else (none)) else (none))) else (none)) else (none)))))))) = some r := H
                        have A55 := Aside0.mk A550
                        clear A550
                        replace H := Option.bind_eq_some_iff.mp H
                        obtain ⟨⟨t551, t552, t553⟩, A560, H⟩ := H
                        replace H : ((spec_TakeU32.f kj47 t549 t550).bind fun bt554 => ((impl_TakeS32.f kj47 t549 t550).bind fun bt557 => ((spec_TakeS32.f kj47 t549 t550).bind fun bt560 => ((spec_DrawIsLeast.f kj47 l1).bind fun t563 => (if (t553 != bt554.2.2) = true then (none) else (if t551 = bt554.1 then (if t552 = bt554.2.1 then (if (bt557.2.2 != bt560.2.2) = true then (none) else (if bt557.1 = bt560.1 then (if bt557.2.1 = bt560.2.1 then ((impl_IsLeast.f kj47 t563).bind fun t564 => ((spec_IsLeast.f kj47 t563).bind fun t565 => (laws_FnLeb.j4 kj47 t549 t550 t551 t552 t553 (t564 != t565)))) else (none)) else (none))) else (none)) else (none))))))) = some r := H
                        have A56 := Aside0.mk A560
                        clear A560
                        replace H := Option.bind_eq_some_iff.mp H
                        obtain ⟨⟨t554, t555, t556⟩, A570, H⟩ := H
                        replace H : ((impl_TakeS32.f kj47 t549 t550).bind fun bt557 => ((spec_TakeS32.f kj47 t549 t550).bind fun bt560 => ((spec_DrawIsLeast.f kj47 l1).bind fun t563 => (if (t553 != t556) = true then (none) else (if t551 = t554 then (if t552 = t555 then (if (bt557.2.2 != bt560.2.2) = true then (none) else (if bt557.1 = bt560.1 then (if bt557.2.1 = bt560.2.1 then ((impl_IsLeast.f kj47 t563).bind fun t564 => ((spec_IsLeast.f kj47 t563).bind fun t565 => (laws_FnLeb.j4 kj47 t549 t550 t551 t552 t553 (t564 != t565)))) else (none)) else (none))) else (none)) else (none)))))) = some r := H
                        have A57 := Aside0.mk A570
                        clear A570
                        replace H := Option.bind_eq_some_iff.mp H
                        obtain ⟨⟨t557, t558, t559⟩, A580, H⟩ := H
                        replace H : ((spec_TakeS32.f kj47 t549 t550).bind fun bt560 => ((spec_DrawIsLeast.f kj47 l1).bind fun t563 => (if (t553 != t556) = true then (none) else (if t551 = t554 then (if t552 = t555 then (if (t559 != bt560.2.2) = true then (none) else (if t557 = bt560.1 then (if t558 = bt560.2.1 then ((impl_IsLeast.f kj47 t563).bind fun t564 => ((spec_IsLeast.f kj47 t563).bind fun t565 => (laws_FnLeb.j4 kj47 t549 t550 t551 t552 t553 (t564 != t565)))) else (none)) else (none))) else (none)) else (none))))) = some r := H
                        have A58 := Aside0.mk A580
                        clear A580
                        replace H := Option.bind_eq_some_iff.mp H
                        obtain ⟨⟨t560, t561, t562⟩, A590, H⟩ := H
                        replace H : ((spec_DrawIsLeast.f kj47 l1).bind fun t563 => (if (t553 != t556) = true then (none) else (if t551 = t554 then (if t552 = t555 then (if (t559 != t562) = true then (none) else (if t557 = t560 then (if t558 = t561 then ((impl_IsLeast.f kj47 t563).bind fun t564 => ((spec_IsLeast.f kj47 t563).bind fun t565 => (laws_FnLeb.j4 kj47 t549 t550 t551 t552 t553 (t564 != t565)))) else (none)) else (none))) else (none)) else (none)))) = some r := H
                        have A59 := Aside0.mk A590
                        clear A590
                        replace H := Option.bind_eq_some_iff.mp H
                        obtain ⟨t563, A600, H⟩ := H
                        replace H : (if (t553 != t556) = true then (none) else (if t551 = t554 then (if t552 = t555 then (if (t559 != t562) = true then (none) else (if t557 = t560 then (if t558 = t561 then ((impl_IsLeast.f kj47 t563).bind fun t564 => ((spec_IsLeast.f kj47 t563).bind fun t565 => (laws_FnLeb.j4 kj47 t549 t550 t551 t552 t553 (t564 != t565)))) else (none)) else (none))) else (none)) else (none))) = some r := H
                        have A60 := Aside0.mk A600
                        clear A600
                        have HC61 := Aside0.mk H
                        clear H
                        go_upto_region 29 with (first | ((with_reducible refine gate_callee (f := 46) rfl ?_); refine goesL_ (some 184) rfl rfl Try.func46 (by kernel_rfl) rfl #[.slice A1 l1.length c1] rfl (by (try simp only [List.map_toArray, List.map_cons, List.map_nil]); first | done | rfl | (simp only [List.length_drop, List.length_take]; rfl)) ?_; (with_reducible refine (spec_DrawTakeU32.calls kj47 _ _ l1 t549 t550 _ ?side1 ?side2 A55.out).mono ?_); (case side1 => repeat (first | exact (Kd.C_below HR1.out HB.out) | (with_reducible refine Kd.C_alloc ?_ _) | (with_reducible refine Kd.C_drewN ?_ _) | (with_reducible refine Kd.C_drew ?_))); (case side2 => exact HC1.out); rintro e w62 ⟨rfl, hb⟩; refine ⟨_, rfl, ?_⟩; have n0_ := Aside0.mk (below_step (by repeat (first | (with_reducible first | exact HB.out | apply below_alloc | apply pw_below_drewN | apply below_drew1) | exact HB.out)) hb); clear HB; have HB := n0_; clear n0_; (try clear hb); (try clear hb2); (try clear hk); (try clear hi)) | ((with_reducible refine gate_callee (f := 27) rfl ?_); refine goesL_ (some 190) rfl rfl Try.func27 (by kernel_rfl) rfl #[.string t549, .int .i64 t550] rfl (by (try simp only [List.map_toArray, List.map_cons, List.map_nil]); first | done | rfl | (simp only [List.length_drop, List.length_take]; rfl)) ?_; (with_reducible refine (impl_TakeU32.calls kj47 t549 t550 t551 t552 t553 _ A56.out).mono ?_); rintro e w' ⟨rfl, ⟨nd, rfl⟩⟩; refine ⟨_, rfl, ?_⟩) | ((with_reducible refine gate_callee (f := 26) rfl ?_); refine goesL_ (some 197) rfl rfl Try.func26 (by kernel_rfl) rfl #[.string t549, .int .i64 t550] rfl (by (try simp only [List.map_toArray, List.map_cons, List.map_nil]); first | done | rfl | (simp only [List.length_drop, List.length_take]; rfl)) ?_; (with_reducible refine (spec_TakeU32.calls kj47 t549 t550 t554 t555 t556 _ A57.out).mono ?_); rintro e w' ⟨rfl, ⟨nd, rfl⟩⟩; refine ⟨_, rfl, ?_⟩) | ((with_reducible refine gate_callee (f := 29) rfl ?_); refine goesL_ (some 204) rfl rfl Try.func29 (by kernel_rfl) rfl #[.string t549, .int .i64 t550] rfl (by (try simp only [List.map_toArray, List.map_cons, List.map_nil]); first | done | rfl | (simp only [List.length_drop, List.length_take]; rfl)) ?_; (with_reducible refine (impl_TakeS32.calls kj47 t549 t550 t557 t558 t559 _ A58.out).mono ?_); rintro e w' ⟨rfl, ⟨nd, rfl⟩⟩; refine ⟨_, rfl, ?_⟩) | ((with_reducible refine gate_callee (f := 28) rfl ?_); refine goesL_ (some 211) rfl rfl Try.func28 (by kernel_rfl) rfl #[.string t549, .int .i64 t550] rfl (by (try simp only [List.map_toArray, List.map_cons, List.map_nil]); first | done | rfl | (simp only [List.length_drop, List.length_take]; rfl)) ?_; (with_reducible refine (spec_TakeS32.calls kj47 t549 t550 t560 t561 t562 _ A59.out).mono ?_); rintro e w' ⟨rfl, ⟨nd, rfl⟩⟩; refine ⟨_, rfl, ?_⟩) | ((with_reducible refine gate_callee (f := 47) rfl ?_); refine goesL_ (some 216) rfl rfl Try.func47 (by kernel_rfl) rfl #[.slice A1 l1.length c1] rfl (by (try simp only [List.map_toArray, List.map_cons, List.map_nil]); first | done | rfl | (simp only [List.length_drop, List.length_take]; rfl)) ?_; (with_reducible refine (spec_DrawIsLeast.calls kj47 _ _ l1 t563 _ ?side1 ?side2 A60.out).mono ?_); (case side1 => repeat (first | exact (Kd.C_below HR1.out (by repeat (first | (with_reducible first | exact HB.out | apply below_alloc | apply pw_below_drewN | apply below_drew1) | exact HB.out))) | (with_reducible refine Kd.C_alloc ?_ _) | (with_reducible refine Kd.C_drewN ?_ _) | (with_reducible refine Kd.C_drew ?_))); (case side2 => exact HC1.out); rintro e w63 ⟨rfl, hb⟩; refine ⟨_, rfl, ?_⟩; have n0_ := Aside0.mk (below_step (by repeat (first | (with_reducible first | exact HB.out | apply below_alloc | apply pw_below_drewN | apply below_drew1) | exact HB.out)) hb); clear HB; have HB := n0_; clear n0_; (try clear hb); (try clear hb2); (try clear hk); (try clear hi)))
                        (try simp only [Act.put, List.setIfInBounds_toArray, List.set_cons_zero, List.set_cons_succ])
                        as_aux_lemma =>
                        go_cut [251] (fun v251 wc => ∃ (kq : Nat) (x251_60 : Bool), v251 = .bool x251_60 ∧ Aside0 (laws_FnLeb.j4 kq t549 t550 t551 t552 t553 x251_60 = some r) ∧ Aside0 (kq ≤ kj47) ∧ Aside0 (Below w.heap.size w wc))
                        case first =>
                          as_aux_lemma =>
                          have H := HC61.out
                          clear HC61
                          by_cases c64 : (t553 != t556) = true
                          · rw [if_pos c64] at H
                            exact absurd H (by simp)
                          · rw [if_neg c64] at H
                            have c64b0 : (t553 != t556) = false := by simpa using c64
                            (try (have c64b1 : decide (t553 = t556) = true := by simpa using c64))
                            (try (have c64b2 : (t553 == t556) = true := by simpa using c64))
                            clear c64
                            (first | rw [c64b0] | (simp only [i64_w, i32_w]; rw [c64b0]) | skip)
                            by_cases c65 : t551 = t554
                            · rw [if_pos c65] at H
                              have c65b0 : (t551 == t554) = true := beq_iff_eq.mpr c65
                              have c65b1 : (t551 != t554) = false := bne_eq_false_iff_eq.mpr c65
                              clear c65
                              by_cases c66 : t552 = t555
                              · rw [if_pos c66] at H
                                have c66b0 : (t552 == t555) = true := beq_iff_eq.mpr c66
                                have c66b1 : (t552 != t555) = false := bne_eq_false_iff_eq.mpr c66
                                clear c66
                                by_cases c67 : (t559 != t562) = true
                                · rw [if_pos c67] at H
                                  exact absurd H (by simp)
                                · rw [if_neg c67] at H
                                  have c67b0 : (t559 != t562) = false := by simpa using c67
                                  (try (have c67b1 : decide (t559 = t562) = true := by simpa using c67))
                                  (try (have c67b2 : (t559 == t562) = true := by simpa using c67))
                                  clear c67
                                  by_cases c68 : t557 = t560
                                  · rw [if_pos c68] at H
                                    have c68b0 : (t557 == t560) = true := beq_iff_eq.mpr c68
                                    have c68b1 : (t557 != t560) = false := bne_eq_false_iff_eq.mpr c68
                                    clear c68
                                    by_cases c69 : t558 = t561
                                    · rw [if_pos c69] at H
                                      have c69b0 : (t558 == t561) = true := beq_iff_eq.mpr c69
                                      have c69b1 : (t558 != t561) = false := bne_eq_false_iff_eq.mpr c69
                                      clear c69
                                      replace H := Option.bind_eq_some_iff.mp H
                                      obtain ⟨t564, A700, H⟩ := H
                                      replace H : ((spec_IsLeast.f kj47 t563).bind fun t565 => (laws_FnLeb.j4 kj47 t549 t550 t551 t552 t553 (t564 != t565))) = some r := H
                                      have A70 := Aside0.mk A700
                                      clear A700
                                      replace H := Option.bind_eq_some_iff.mp H
                                      obtain ⟨t565, A710, H⟩ := H
                                      replace H : (laws_FnLeb.j4 kj47 t549 t550 t551 t552 t553 (t564 != t565)) = some r := H
                                      have A71 := Aside0.mk A710
                                      clear A710
                                      have H' := Aside0.mk H
                                      clear H
                                      go_wp2_with (first | (go_at_call 31; (with_reducible refine (impl_IsLeast.calls kj47 t563 t564 _ A70.out).mono ?_); rintro e w72 ⟨rfl, hb⟩; have n0_ := Aside0.mk (below_step (by repeat (first | (with_reducible first | exact HB.out | apply below_alloc | apply pw_below_drewN | apply below_drew1) | exact HB.out)) hb); clear HB; have HB := n0_; clear n0_; (try clear hb); (try clear hb2); (try clear hk); (try clear hi)) | (go_at_call 30; (with_reducible refine (spec_IsLeast.calls kj47 t563 t565 _ A71.out).mono ?_); rintro e w73 ⟨rfl, hb⟩; have n0_ := Aside0.mk (below_step (by repeat (first | (with_reducible first | exact HB.out | apply below_alloc | apply pw_below_drewN | apply below_drew1) | exact HB.out)) hb); clear HB; have HB := n0_; clear n0_; (try clear hb); (try clear hb2); (try clear hk); (try clear hi)))
                                      go_meet
                                      case rel => exact ⟨_, ((t564 != t565)), (by first | rfl | (simp; done) | (simp [*]; done)), H', ⟨by have := HJ7.out; have := HJ16.out; have := HJ38.out; have := HJ47.out; first | omega | exact Nat.le_refl _⟩, ⟨by repeat (first | (with_reducible first | exact HB.out | apply below_alloc | apply pw_below_drewN | apply below_drew1) | exact HB.out)⟩⟩
                                    · rw [if_neg c69] at H
                                      exact absurd H (by simp)
                                  · rw [if_neg c68] at H
                                    exact absurd H (by simp)
                              · rw [if_neg c66] at H
                                exact absurd H (by simp)
                            · rw [if_neg c65] at H
                              exact absurd H (by simp)
                        case rest =>
                          as_aux_lemma =>
                          clear HC61
                          try clear c1
                          try clear c2
                          try clear p2
                          try clear c3
                          try clear c3b0
                          try clear c4
                          try clear c5
                          try clear c6
                          try clear p6
                          try clear c13
                          try clear c13b0
                          try clear c13b1
                          try clear c13b2
                          try clear c14
                          try clear c14b0
                          try clear c14b1
                          try clear c15
                          try clear c15b0
                          try clear c15b1
                          try clear c15b2
                          try clear c16
                          try clear c17
                          try clear c18
                          try clear c19
                          try clear c19b0
                          try clear c19b1
                          try clear c19b2
                          try clear c21
                          try clear c22
                          try clear c22b0
                          try clear c22b1
                          try clear c23
                          try clear c23b0
                          try clear c23b1
                          try clear c25
                          try clear c26
                          try clear c26b0
                          try clear c26b1
                          try clear c27
                          try clear c28
                          try clear c28b0
                          try clear c28b1
                          try clear c29
                          try clear c30
                          try clear c30b0
                          try clear c30b1
                          try clear c44
                          try clear c44b0
                          try clear c44b1
                          try clear c44b2
                          try clear c45
                          try clear c45b0
                          try clear c45b1
                          try clear c46
                          try clear c46b0
                          try clear c46b1
                          try clear c46b2
                          try clear c47
                          try clear c49
                          try clear c50
                          try clear c50b0
                          try clear c50b1
                          try clear c50b2
                          try clear c52
                          try clear c53
                          try clear c53b0
                          try clear c53b1
                          try clear c54
                          try clear c54b0
                          try clear c54b1
                          try clear c64
                          try clear c64b0
                          try clear c64b1
                          try clear c64b2
                          try clear c65
                          try clear c65b0
                          try clear c65b1
                          try clear c66
                          try clear c66b0
                          try clear c66b1
                          try clear c67
                          try clear c67b0
                          try clear c67b1
                          try clear c67b2
                          try clear c68
                          try clear c68b0
                          try clear c68b1
                          try clear c69
                          try clear c69b0
                          try clear c69b1
                          try clear p2
                          try clear p6
                          obtain ⟨kq, x251_60, rfl, HA, HJ60, HB⟩ := hcut
                          cases kq with
                          | zero => exact absurd HA.out (by simp [laws_FnLeb.j4])
                          | succ kj60 =>
                            have H := HA.out
                            clear HA
                            simp only [laws_FnLeb.j4] at H
                            by_cases c74 : x251_60 = true
                            · subst c74
                              have H1 : (none) = some r := by rw [if_pos rfl] at H; exact H
                              exact absurd H1 (by simp)
                            · replace c74 := Bool.eq_false_iff.mpr c74
                              subst c74
                              have H1 : (if t553 = true then ((impl_PadU32.f kj60 t551 (wrap64 (t552 - t550))).bind fun bt566 => (if bt566.2 = true then (if 0 ≤ t550 then (if t550 ≤ t552 then (if t552 ≤ (t549.size : Int) then (some (bt566.1.toList == (t549.extract (t550 : Int).toNat (t552 : Int).toNat).toList)) else (none)) else (none)) else (none)) else (none))) else (some true)) = some r := by rw [if_neg (show ¬ (false = true) by decide)] at H; exact H
                              clear H
                              have H := H1
                              clear H1
                              by_cases c75 : t553 = true
                              · subst c75
                                have H1 : ((impl_PadU32.f kj60 t551 (wrap64 (t552 - t550))).bind fun bt566 => (if bt566.2 = true then (if 0 ≤ t550 then (if t550 ≤ t552 then (if t552 ≤ (t549.size : Int) then (some (bt566.1.toList == (t549.extract (t550 : Int).toNat (t552 : Int).toNat).toList)) else (none)) else (none)) else (none)) else (none))) = some r := by rw [if_pos rfl] at H; exact H
                                clear H
                                have H := H1
                                clear H1
                                replace H := Option.bind_eq_some_iff.mp H
                                obtain ⟨⟨t566, t567⟩, A760, H⟩ := H
                                replace H : (if t567 = true then (if 0 ≤ t550 then (if t550 ≤ t552 then (if t552 ≤ (t549.size : Int) then (some (t566.toList == (t549.extract (t550 : Int).toNat (t552 : Int).toNat).toList)) else (none)) else (none)) else (none)) else (none)) = some r := H
                                have A76 := Aside0.mk A760
                                clear A760
                                by_cases c77 : t567 = true
                                · subst c77
                                  have H1 : (if 0 ≤ t550 then (if t550 ≤ t552 then (if t552 ≤ (t549.size : Int) then (some (t566.toList == (t549.extract (t550 : Int).toNat (t552 : Int).toNat).toList)) else (none)) else (none)) else (none)) = some r := by rw [if_pos rfl] at H; exact H
                                  clear H
                                  have H := H1
                                  clear H1
                                  by_cases c78 : 0 ≤ t550
                                  · rw [if_pos c78] at H
                                    have c78b0 := eq_true c78
                                    have c78b1 : decide (0 ≤ t550) = true := decide_eq_true c78
                                    clear c78
                                    by_cases c79 : t550 ≤ t552
                                    · rw [if_pos c79] at H
                                      have c79b0 := eq_true c79
                                      have c79b1 : decide (t550 ≤ t552) = true := decide_eq_true c79
                                      clear c79
                                      by_cases c80 : t552 ≤ (t549.size : Int)
                                      · rw [if_pos c80] at H
                                        have c80b0 := eq_true c80
                                        have c80b1 : decide (t552 ≤ (t549.size : Int)) = true := decide_eq_true c80
                                        clear c80
                                        obtain rfl := Option.some.inj H
                                        go_wp2_with (first | ((with_reducible refine gate_callee (f := 25) rfl ?_); refine goesL_ (some 258) rfl rfl Try.func25 (by kernel_rfl) rfl #[.int .i64 t551, .int .i64 (wrap64 (t552 - t550))] rfl (by (try simp only [List.map_toArray, List.map_cons, List.map_nil]); first | done | rfl | (simp only [List.length_drop, List.length_take]; rfl)) ?_; (with_reducible refine (impl_PadU32.calls kj60 t551 (wrap64 (t552 - t550)) t566 true _ A76.out).mono ?_); rintro e w81 ⟨rfl, hb⟩; refine ⟨_, rfl, ?_⟩; have n0_ := Aside0.mk (below_step (by repeat (first | (with_reducible first | exact HB.out | apply below_alloc | apply pw_below_drewN | apply below_drew1) | exact HB.out)) hb); clear HB; have HB := n0_; clear n0_; (try clear hb); (try clear hb2); (try clear hk); (try clear hi)))
                                        go_ret
                                        exact ⟨by first | rfl | (simp [errW_none, errW_some] <;> rfl) | (simp [*, errW_none, errW_some] <;> rfl), by repeat (first | (with_reducible first | exact HB.out | apply below_alloc | apply pw_below_drewN | apply below_drew1) | exact HB.out)⟩
                                      · rw [if_neg c80] at H
                                        exact absurd H (by simp)
                                    · rw [if_neg c79] at H
                                      exact absurd H (by simp)
                                  · rw [if_neg c78] at H
                                    exact absurd H (by simp)
                                · replace c77 := Bool.eq_false_iff.mpr c77
                                  subst c77
                                  have H1 : (none) = some r := by rw [if_neg (show ¬ (false = true) by decide)] at H; exact H
                                  exact absurd H1 (by simp)
                              · replace c75 := Bool.eq_false_iff.mpr c75
                                subst c75
                                have H1 : (some true) = some r := by rw [if_neg (show ¬ (false = true) by decide)] at H; exact H
                                clear H
                                have H := H1
                                clear H1
                                obtain rfl := Option.some.inj H
                                go_wp2
                                go_ret
                                exact ⟨by first | rfl | (simp [errW_none, errW_some] <;> rfl) | (simp [*, errW_none, errW_some] <;> rfl), by repeat (first | (with_reducible first | exact HB.out | apply below_alloc | apply pw_below_drewN | apply below_drew1) | exact HB.out)⟩

/-- THE ONE PURE STATEMENT of laws_FnLeb: yours. -/
def laws_FnLeb.Pure : Prop := ∀ (l0 : List Int) (l1 : List Int), l0.length ≤ maxLen → l0.length * 1 ≤ 140737488351232 → (∀ x ∈ l0, (Lit.int .u8 x).wf = true) → l1.length ≤ maxLen → l1.length * 1 ≤ 140737488351232 → (∀ x ∈ l1, (Lit.int .u8 x).wf = true) → ∃ k, laws_FnLeb.f k l0 l1 = some true
theorem laws_FnLeb.walk (P : laws_FnLeb.Pure) (a0 : Option Addr) (len0 cap0 : Nat) (z0 : List Int) (a1 : Option Addr) (len1 cap1 : Nat) (z1 : List Int) (w : World) (w0 : (a0 = none ∧ len0 = 0 ∧ cap0 = 0 ∧ z0 = []) ∨ ∃ x, a0 = some x ∧ len0 ≤ cap0 ∧ cap0 ≤ maxLen ∧ z0.length = cap0 ∧ (∀ i, i < z0.length → w.cell? (x.add i) = some (.int .u8 (z0.getD i 0))) ∧ ∀ n ∈ z0, (Lit.int .u8 n).wf = true) (y0 : len0 * 1 ≤ 140737488351232) (w1 : (a1 = none ∧ len1 = 0 ∧ cap1 = 0 ∧ z1 = []) ∨ ∃ x, a1 = some x ∧ len1 ≤ cap1 ∧ cap1 ≤ maxLen ∧ z1.length = cap1 ∧ (∀ i, i < z1.length → w.cell? (x.add i) = some (.int .u8 (z1.getD i 0))) ∧ ∀ n ∈ z1, (Lit.int .u8 n).wf = true) (y1 : len1 * 1 ≤ 140737488351232) :
    Calls Try.prog 15 #[.slice a0 len0 cap0, .slice a1 len1 cap1] w fun e w' => e = .returned (.bool true) ∧ Below w.heap.size w w' := by
  obtain ⟨l0, rfl, hr0, hm0, hw0, hc0⟩ := ReadsInt.ofRowC w0
  obtain ⟨l1, rfl, hr1, hm1, hw1, hc1⟩ := ReadsInt.ofRowC w1
  obtain ⟨k, h⟩ := P l0 l1 hm0 y0 hw0 hm1 y1 hw1
  refine (laws_FnLeb.calls k _ _ l0 _ _ l1 true w (Kd.C_of_reads (d := (0 : Int)) (h1 := fun _ => rfl) hr0) hc0 (Kd.C_of_reads (d := (0 : Int)) (h1 := fun _ => rfl) hr1) hc1 h).mono ?_
  rintro e w' ⟨rfl, hd⟩
  exact ⟨rfl, hd⟩

end Go.Proofs.Ytofokedphkmfnaa.Q


