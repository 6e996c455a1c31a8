-- WRITTEN BY A PROGRAM OF THIS SESSION
import Derived.Test.YtmljikgegclolaaDoorQ0
import Derived.Test.YtmljikgegclolaaDoorOpen
import Derived.KernelRfl
namespace Go.Proofs.YtmljikgegclolaaDoor.Q
open Go.RowKit Go.Proofs.YtmljikgegclolaaDoorW.PrintWords Go.Proofs.YtmljikgegclolaaDoor.Open
section
variable {H : Type} {enc : TypeId × Value → H} {W : World}
theorem opens_T24 : Opens enc Tryd.prog W 24 k24 Good24 := by
  intro fuel cs y h
  obtain ⟨xs, n, _, rfl, hl, hlen, hf⟩ := DataW.trod_struct Tryd.underlying24 h
  have hl' : cs.length = 3 := hl.trans (by kernel_rfl)
  match xs, hlen with
  | [y0, y1, y2], _ =>
    have p0 := Part.of (d := (Kd.int .i64)) ((Opens.int Tryd.underlying3) : Opens enc Tryd.prog W 3 (Kd.int .i64) (fun x => (Lit.int .i64 x).wf = true)) (by kernel_rfl) (off := 0) (hf 0 _ rfl) rfl
    have p1 := Part.of (d := (Kd.int .i64)) ((Opens.int Tryd.underlying3) : Opens enc Tryd.prog W 3 (Kd.int .i64) (fun x => (Lit.int .i64 x).wf = true)) (by kernel_rfl) (off := (0 + ((Kd.int .i64)).sz)) (hf 1 _ rfl) rfl
    have p2 := Part.of (d := (Kd.slice 3 (Kd.int .i64))) ((Opens.slice Tryd.underlying22 (by kernel_rfl) (Opens.int Tryd.underlying3)) : Opens enc Tryd.prog W 22 (Kd.slice 3 (Kd.int .i64)) (fun xs => xs.length ≤ maxLen ∧ ∀ x ∈ xs, (fun x => (Lit.int .i64 x).wf = true) x)) (by kernel_rfl) (off := ((0 + ((Kd.int .i64)).sz) + ((Kd.int .i64)).sz)) (hf 2 _ rfl) rfl
    obtain ⟨z, hK, hg⟩ := Part.pair (off := 0) p0 (Part.pair (off := (0 + ((Kd.int .i64)).sz)) p1 (Part.last (off := ((0 + ((Kd.int .i64)).sz) + ((Kd.int .i64)).sz)) (by rw [hl']; rfl) p2))
    exact ⟨⟨z.1, z.2.1, z.2.2⟩, hK, hg⟩
end
end Go.Proofs.YtmljikgegclolaaDoor.Q
