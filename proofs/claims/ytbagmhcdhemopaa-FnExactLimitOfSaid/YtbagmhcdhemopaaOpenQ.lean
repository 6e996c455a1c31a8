-- WRITTEN BY A PROGRAM OF THIS SESSION
import Derived.Test.YtbagmhcdhemopaaQ0
import Derived.Test.YtbagmhcdhemopaaOpen
import Derived.KernelRfl
namespace Go.Proofs.Ytbagmhcdhemopaa.Q
open Go.RowKit Go.Proofs.YtbagmhcdhemopaaW.PrintWords Go.Proofs.Ytbagmhcdhemopaa.Open
section
variable {H : Type} {enc : TypeId × Value → H} {W : World}
theorem opens_T24 : Opens enc Try.prog W 24 k24 Good24 := by
  intro fuel cs y h
  obtain ⟨xs, n, _, rfl, hl, hlen, hf⟩ := DataW.trod_struct Try.underlying24 h
  have hl' : cs.length = 1 := hl.trans (by kernel_rfl)
  match xs, hlen with
  | [y0], _ =>
    have p0 := Part.of (d := (Kd.slice 31 (Kd.slice 3 (Kd.int .i64)))) ((Opens.slice Try.underlying22 (by kernel_rfl) (Opens.slice Try.underlying31 (by kernel_rfl) (Opens.int Try.underlying3))) : Opens enc Try.prog W 22 (Kd.slice 31 (Kd.slice 3 (Kd.int .i64))) (fun xs => xs.length ≤ maxLen ∧ ∀ x ∈ xs, (fun xs => xs.length ≤ maxLen ∧ ∀ x ∈ xs, (fun x => (Lit.int .i64 x).wf = true) x) x)) (by kernel_rfl) (off := 0) (hf 0 _ rfl) rfl
    obtain ⟨z, hK, hg⟩ := Part.last (off := 0) (by rw [hl']; rfl) p0
    exact ⟨⟨z⟩, hK, hg⟩
end
end Go.Proofs.Ytbagmhcdhemopaa.Q
