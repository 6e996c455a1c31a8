-- WRITTEN BY A PROGRAM OF THIS SESSION
import Derived.Test.YthgkhfhfahifmaaQ0
import Derived.Test.YthgkhfhfahifmaaOpen
import Derived.KernelRfl
namespace Go.Proofs.Ythgkhfhfahifmaa.Q
open Go.RowKit Go.Proofs.YthgkhfhfahifmaaW.PrintWords Go.Proofs.Ythgkhfhfahifmaa.Open
section
variable {H : Type} {enc : TypeId × Value → H} {W : World}
theorem opens_T97 : Opens enc Try.prog W 97 k97 Good97 := by
  intro fuel cs y h
  obtain ⟨xs, n, _, rfl, hl, hlen, hf⟩ := DataW.trod_struct Try.underlying97 h
  have hl' : cs.length = 6 := hl.trans (by kernel_rfl)
  match xs, hlen with
  | [y0, y1, y2, y3, y4, y5], _ =>
    have p0 := Part.of (d := (Kd.int .i64)) ((Opens.int Try.underlying3) : Opens enc Try.prog W 3 (Kd.int .i64) (fun x => (Lit.int .i64 x).wf = true)) (by kernel_rfl) (off := 0) (hf 0 _ rfl) rfl
    have p1 := Part.of (d := (Kd.int .i64)) ((Opens.int Try.underlying3) : Opens enc Try.prog W 3 (Kd.int .i64) (fun x => (Lit.int .i64 x).wf = true)) (by kernel_rfl) (off := (0 + ((Kd.int .i64)).sz)) (hf 1 _ rfl) rfl
    have p2 := Part.of (d := (Kd.int .i64)) ((Opens.int Try.underlying3) : Opens enc Try.prog W 3 (Kd.int .i64) (fun x => (Lit.int .i64 x).wf = true)) (by kernel_rfl) (off := ((0 + ((Kd.int .i64)).sz) + ((Kd.int .i64)).sz)) (hf 2 _ rfl) rfl
    have p3 := Part.of (d := (Kd.int .i64)) ((Opens.int Try.underlying3) : Opens enc Try.prog W 3 (Kd.int .i64) (fun x => (Lit.int .i64 x).wf = true)) (by kernel_rfl) (off := (((0 + ((Kd.int .i64)).sz) + ((Kd.int .i64)).sz) + ((Kd.int .i64)).sz)) (hf 3 _ rfl) rfl
    have p4 := Part.of (d := (Kd.int .i64)) ((Opens.int Try.underlying3) : Opens enc Try.prog W 3 (Kd.int .i64) (fun x => (Lit.int .i64 x).wf = true)) (by kernel_rfl) (off := ((((0 + ((Kd.int .i64)).sz) + ((Kd.int .i64)).sz) + ((Kd.int .i64)).sz) + ((Kd.int .i64)).sz)) (hf 4 _ rfl) rfl
    have p5 := Part.of (d := (Kd.int .i64)) ((Opens.int Try.underlying3) : Opens enc Try.prog W 3 (Kd.int .i64) (fun x => (Lit.int .i64 x).wf = true)) (by kernel_rfl) (off := (((((0 + ((Kd.int .i64)).sz) + ((Kd.int .i64)).sz) + ((Kd.int .i64)).sz) + ((Kd.int .i64)).sz) + ((Kd.int .i64)).sz)) (hf 5 _ rfl) rfl
    obtain ⟨z, hK, hg⟩ := Part.pair (off := 0) p0 (Part.pair (off := (0 + ((Kd.int .i64)).sz)) p1 (Part.pair (off := ((0 + ((Kd.int .i64)).sz) + ((Kd.int .i64)).sz)) p2 (Part.pair (off := (((0 + ((Kd.int .i64)).sz) + ((Kd.int .i64)).sz) + ((Kd.int .i64)).sz)) p3 (Part.pair (off := ((((0 + ((Kd.int .i64)).sz) + ((Kd.int .i64)).sz) + ((Kd.int .i64)).sz) + ((Kd.int .i64)).sz)) p4 (Part.last (off := (((((0 + ((Kd.int .i64)).sz) + ((Kd.int .i64)).sz) + ((Kd.int .i64)).sz) + ((Kd.int .i64)).sz) + ((Kd.int .i64)).sz)) (by rw [hl']; rfl) p5)))))
    exact ⟨⟨z.1, z.2.1, z.2.2.1, z.2.2.2.1, z.2.2.2.2.1, z.2.2.2.2.2⟩, hK, hg⟩
theorem opens_T53 : Opens enc Try.prog W 53 k53 Good53 := by
  intro fuel cs y h
  obtain ⟨xs, n, _, rfl, hl, hlen, hf⟩ := DataW.trod_struct Try.underlying53 h
  have hl' : cs.length = 4 := hl.trans (by kernel_rfl)
  match xs, hlen with
  | [y0, y1, y2, y3], _ =>
    have p0 := Part.of (d := (Kd.slice 97 k97)) ((Opens.slice Try.underlying51 (by kernel_rfl) opens_T97) : Opens enc Try.prog W 51 (Kd.slice 97 k97) (fun xs => xs.length ≤ maxLen ∧ ∀ x ∈ xs, Good97 x)) (by kernel_rfl) (off := 0) (hf 0 _ rfl) rfl
    have p1 := Part.of (d := (Kd.int .i64)) ((Opens.int Try.underlying3) : Opens enc Try.prog W 3 (Kd.int .i64) (fun x => (Lit.int .i64 x).wf = true)) (by kernel_rfl) (off := (0 + ((Kd.slice 97 k97)).sz)) (hf 1 _ rfl) rfl
    have p2 := Part.of (d := (Kd.int .i64)) ((Opens.int Try.underlying3) : Opens enc Try.prog W 3 (Kd.int .i64) (fun x => (Lit.int .i64 x).wf = true)) (by kernel_rfl) (off := ((0 + ((Kd.slice 97 k97)).sz) + ((Kd.int .i64)).sz)) (hf 2 _ rfl) rfl
    have p3 := Part.of (d := (Kd.slice 3 (Kd.int .i64))) ((Opens.slice Try.underlying37 (by kernel_rfl) (Opens.int Try.underlying3)) : Opens enc Try.prog W 37 (Kd.slice 3 (Kd.int .i64)) (fun xs => xs.length ≤ maxLen ∧ ∀ x ∈ xs, (fun x => (Lit.int .i64 x).wf = true) x)) (by kernel_rfl) (off := (((0 + ((Kd.slice 97 k97)).sz) + ((Kd.int .i64)).sz) + ((Kd.int .i64)).sz)) (hf 3 _ rfl) rfl
    obtain ⟨z, hK, hg⟩ := Part.pair (off := 0) p0 (Part.pair (off := (0 + ((Kd.slice 97 k97)).sz)) p1 (Part.pair (off := ((0 + ((Kd.slice 97 k97)).sz) + ((Kd.int .i64)).sz)) p2 (Part.last (off := (((0 + ((Kd.slice 97 k97)).sz) + ((Kd.int .i64)).sz) + ((Kd.int .i64)).sz)) (by rw [hl']; rfl) p3)))
    exact ⟨⟨z.1, z.2.1, z.2.2.1, z.2.2.2⟩, hK, hg⟩
end
end Go.Proofs.Ythgkhfhfahifmaa.Q
