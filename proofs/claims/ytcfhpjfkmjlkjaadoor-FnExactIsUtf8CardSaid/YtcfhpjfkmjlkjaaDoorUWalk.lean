-- The walk of laws.FnExactIsUtf8: utf8.ValidString by its contract on the shelf, spec.IsUtf8 by its print.
import Derived.Test.YtcfhpjfkmjlkjaaDoorPFnExactIsUtf8x1
import Derived.Ground.NamesProg
import Derived.WalkKit
import Derived.WalkMore
import Derived.Below
import Derived.Shelf.Unicode.ValidAny
namespace Go.Proofs
open Go.RowKit Go.Shelf Go.Lib

def Tryd.laysValid_ren : Go.Shelf.Ren := ⟨fun | 196 => 7 | 259 => 8 | n => n, fun | 9 => 9 | 4 => 4 | 3 => 3 | 5 => 5 | 12 => 12 | 119 => 26 | 0 => 0 | 46 => 23 | 139 => 29 | 138 => 28 | 53 => 30 | n => n, fun | 3 => 0 | 4 => 1 | n => n⟩
theorem Tryd.laysValid : Go.Proofs.Lays.n196 Tryd.prog Tryd.laysValid_ren := {
  mixed := by kernel_rfl
  f196 := Tryd.func7.trans (congrArg some (by kernel_rfl))
  f259 := Tryd.func8.trans (congrArg some (by kernel_rfl))
  t0 := Tryd.underlying0
  a0 := Tryd.isAgg0
  z0 := Tryd.sizeOf0
  v0 := Tryd.zeroValue0
  t3 := Tryd.underlying3
  a3 := Tryd.isAgg3
  z3 := Tryd.sizeOf3
  v3 := Tryd.zeroValue3
  t4 := Tryd.underlying4
  a4 := Tryd.isAgg4
  z4 := Tryd.sizeOf4
  v4 := Tryd.zeroValue4
  t5 := Tryd.underlying5
  a5 := Tryd.isAgg5
  z5 := Tryd.sizeOf5
  v5 := Tryd.zeroValue5
  t9 := Tryd.underlying9
  a9 := Tryd.isAgg9
  z9 := Tryd.sizeOf9
  v9 := Tryd.zeroValue9
  t12 := Tryd.underlying12
  a12 := Tryd.isAgg12
  z12 := Tryd.sizeOf12
  v12 := Tryd.zeroValue12
  t46 := Tryd.underlying23
  a46 := Tryd.isAgg23
  z46 := Tryd.sizeOf23
  v46 := Tryd.zeroValue23
  t53 := Tryd.underlying30
  a53 := Tryd.isAgg30
  z53 := Tryd.sizeOf30
  v53 := Tryd.zeroValue30
  t119 := Tryd.underlying26
  a119 := Tryd.isAgg26
  z119 := Tryd.sizeOf26
  t138 := Tryd.underlying28
  a138 := Tryd.isAgg28
  z138 := Tryd.sizeOf28
  v138 := Tryd.zeroValue28
  t139 := Tryd.underlying29
  a139 := Tryd.isAgg29
  z139 := Tryd.sizeOf29
  v139 := Tryd.zeroValue29
  g3 := by kernel_rfl
  g4 := by kernel_rfl }

namespace YtcfhpjfkmjlkjaaDoor
namespace UWalk
open Go.Proofs.YtcfhpjfkmjlkjaaDoor.PFnExactIsUtf8
def Tabs (w : World) : Prop := Lib.Utf8Tabs (Tryd.laysValid_ren.g 3) (Tryd.laysValid_ren.g 4) w

set_option maxHeartbeats 1000000 in
set_option maxRecDepth 1000000 in
theorem impl_walk (s : ByteArray) (w : World) (hs : s.size ≤ 9223372036854775807) (hT : Tabs w) :
    Calls Tryd.prog 5 #[.string s] w fun e w' => e = .returned (.bool (Lib.validD s.data.toList)) ∧ Below w.heap.size w w' := by
  have cV : Calls Tryd.prog 7 #[.string s] w _ := Any.utf8_ValidString Tryd.laysValid s w hs hT
  generalize Lib.validD s.data.toList = V at cV ⊢
  go_enter Tryd.func5, Tryd.ntmps5
  go_wp2_with (go_at_call 7; refine cV.mono ?_; rintro e w' ⟨rfl, hb⟩)
  go_ret
  exact ⟨rfl, hb⟩

set_option maxHeartbeats 1000000 in
set_option maxRecDepth 1000000 in
theorem law_walk (P : ∀ s : ByteArray, s.size ≤ 1048576 → ∃ k, spec_IsUtf8.f k s = some (Lib.validD s.data.toList)) (s : ByteArray) (w : World) (hs : s.size ≤ 9223372036854775807) (hT : Tabs w) :
    Calls Tryd.prog 3 #[.string s] w fun e w' => e = .returned (.bool true) ∧ Below w.heap.size w w' := by
  by_cases h0 : 1048576 < s.size
  · have h0z : decide ((1048576 : Int) < (s.size : Int)) = true := decide_eq_true (by omega)
    go_enter Tryd.func3, Tryd.ntmps3
    go_wp2
    go_ret
    exact ⟨rfl, Below.refl _ _⟩
  · have h0z : decide ((1048576 : Int) < (s.size : Int)) = false := decide_eq_false (by omega)
    obtain ⟨k, hk⟩ := P s (by omega)
    have hV := fun w1 (h1 : Tabs w1) => impl_walk s w1 hs h1
    generalize Lib.validD s.data.toList = V at hk hV
    have hvv : (V != V) = false := by simp
    have hk' := Go.Proofs.YtcfhpjfkmjlkjaaDoorW.PrintWords.Aside0.mk hk
    clear hk
    go_enter Tryd.func3, Tryd.ntmps3
    go_wp2_with (first | (go_at_call 4; refine (spec_IsUtf8.calls k s V w hk'.out).mono ?_; rintro e w' ⟨rfl, ⟨nd, rfl⟩⟩) | (go_at_call 5; refine (hV _ (Utf8Tabs_below hT (Go.Proofs.YtcfhpjfkmjlkjaaDoorW.PrintWords.pw_below_drewN (Below.refl _ _) nd))).mono ?_; rintro e w' ⟨rfl, hb⟩))
    go_ret
    exact ⟨rfl, (Go.Proofs.YtcfhpjfkmjlkjaaDoorW.PrintWords.pw_below_drewN (Below.refl _ _) nd).trans hb⟩
end UWalk
end YtcfhpjfkmjlkjaaDoor
end Go.Proofs
