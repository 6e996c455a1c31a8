-- The walk of laws.FnExactIsUtf8: utf8.ValidString by its contract on the shelf, spec.IsUtf8 by its print.
import Derived.Test.YtcfhpjfkmjlkjaaDoorPFnExactIsUtf8x1
import Derived.Ground.NamesProg
import Derived.WalkKit
import Derived.WalkMore
import Derived.Below
import Derived.Shelf.Lay
import Derived.Shelf.Unicode.ValidAny
namespace Go.Proofs
open Go.RowKit Go.Shelf Go.Lib

shelf_lay Lays.n196 Nm 196 at Tryd as Tryd.laysValid

namespace YtcfhpjfkmjlkjaaDoor
namespace UWalk
open Go.Proofs.YtcfhpjfkmjlkjaaDoor.PFnExactIsUtf8
def Tabs (w : World) : Prop := Lib.Utf8Tabs (Tryd.laysValid_ren.g 3) (Tryd.laysValid_ren.g 4) w

set_option maxHeartbeats 1000000 in
set_option maxRecDepth 1000000 in
theorem impl_walk (s : ByteArray) (w : World) (hs : s.size ≤ 9223372036854775807) (hT : Tabs w) :
    Calls Tryd.prog 5 #[.string s] w fun e w' => e = .returned (.bool (Lib.validD s.data.toList)) ∧ Below w.heap.size w w' := by
  have cV : Calls Tryd.prog 7 #[.string s] w _ := Any.utf8_ValidString Tryd.laysValid s w hs hT
  generalize Lib.validD s.data.toList = V at cV ⊢
  go_enter Tryd.func5, Tryd.ntmps5
  go_wp2_with (go_at_call 7; refine cV.mono ?_; rintro e w' ⟨rfl, hb⟩)
  go_ret
  exact ⟨rfl, hb⟩

set_option maxHeartbeats 1000000 in
set_option maxRecDepth 1000000 in
theorem law_walk (P : ∀ s : ByteArray, s.size ≤ 1048576 → ∃ k, spec_IsUtf8.f k s = some (Lib.validD s.data.toList)) (s : ByteArray) (w : World) (hs : s.size ≤ 9223372036854775807) (hT : Tabs w) :
    Calls Tryd.prog 3 #[.string s] w fun e w' => e = .returned (.bool true) ∧ Below w.heap.size w w' := by
  by_cases h0 : 1048576 < s.size
  · have h0z : decide ((1048576 : Int) < (s.size : Int)) = true := decide_eq_true (by omega)
    go_enter Tryd.func3, Tryd.ntmps3
    go_wp2
    go_ret
    exact ⟨rfl, Below.refl _ _⟩
  · have h0z : decide ((1048576 : Int) < (s.size : Int)) = false := decide_eq_false (by omega)
    obtain ⟨k, hk⟩ := P s (by omega)
    have hV := fun w1 (h1 : Tabs w1) => impl_walk s w1 hs h1
    generalize Lib.validD s.data.toList = V at hk hV
    have hvv : (V != V) = false := by simp
    have hk' := Go.Proofs.YtcfhpjfkmjlkjaaDoorW.PrintWords.Aside0.mk hk
    clear hk
    go_enter Tryd.func3, Tryd.ntmps3
    go_wp2_with (first | (go_at_call 4; refine (spec_IsUtf8.calls k s V w hk'.out).mono ?_; rintro e w' ⟨rfl, ⟨nd, rfl⟩⟩) | (go_at_call 5; refine (hV _ (Utf8Tabs_below hT (Go.Proofs.YtcfhpjfkmjlkjaaDoorW.PrintWords.pw_below_drewN (Below.refl _ _) nd))).mono ?_; rintro e w' ⟨rfl, hb⟩))
    go_ret
    exact ⟨rfl, (Go.Proofs.YtcfhpjfkmjlkjaaDoorW.PrintWords.pw_below_drewN (Below.refl _ _) nd).trans hb⟩
end UWalk
end YtcfhpjfkmjlkjaaDoor
end Go.Proofs
