/- slices.Delete by its contract on the shelf, in the words of the printed walks. No conditions. -/
import Derived.Test.YtbagmhcdhemopaaWk
import Derived.Ground.NamesProg
import Derived.Ground.Names2Prog
import Derived.Shelf.Slices.Delete
namespace Go.Proofs
open Go.Shelf
def Try.laysDelete_ren : Go.Shelf.Ren := ⟨fun | 23 => 65 | n => n, fun | 22 => 31 | 3 => 3 | 4 => 4 | 0 => 0 | n => n, fun | n => n⟩
theorem Try.laysDelete : Go.Proofs.Lays2.n23 Try.prog Try.laysDelete_ren := {
  mixed := by kernel_rfl
  f23 := Try.func65.trans (congrArg some (by kernel_rfl))
  t0 := Try.underlying0
  a0 := Try.isAgg0
  z0 := Try.sizeOf0
  v0 := Try.zeroValue0
  t3 := Try.underlying3
  a3 := Try.isAgg3
  z3 := Try.sizeOf3
  v3 := Try.zeroValue3
  t4 := Try.underlying4
  a4 := Try.isAgg4
  z4 := Try.sizeOf4
  v4 := Try.zeroValue4
  t22 := Try.underlying31
  a22 := Try.isAgg31
  z22 := Try.sizeOf31
  v22 := Try.zeroValue31
  i3 := by kernel_rfl }
end Go.Proofs
namespace Go.Proofs.Ytbagmhcdhemopaa.Q
set_option linter.unusedVariables false
set_option linter.unusedSimpArgs false
open Go.RowKit Go.Proofs.YtbagmhcdhemopaaW.PrintWords Go.Proofs.YtbagmhcdhemopaaW.PrintLast Go.Proofs.YtbagmhcdhemopaaW.PrintMore

theorem putCells_take (d : List Int) (cur : Array Value) (h : d.length ≤ cur.size) : (Sort.putCells (Value.int .i64) 0 d.toArray cur).toList.take d.length = encs (Value.int .i64) d := by
  refine List.ext_getElem? fun j => ?_
  rw [List.getElem?_take]
  by_cases hj : j < d.length
  · rw [if_pos hj, encs_get (d := (0 : Int)) _ j hj, Array.getElem?_toList]
    unfold Sort.putCells
    rw [Array.getElem?_mapIdx, Array.getElem?_eq_getElem (by omega)]
    simp only [Option.map_some]
    rw [if_pos ⟨Nat.zero_le _, by simpa using hj⟩]
    simp [List.getD_eq_getElem?_getD, hj]
  · rw [if_neg hj, List.getElem?_eq_none (by rw [encs_length]; omega)]
theorem R_putRow {e base g cap q : Nat} {W : World} {ok : Nat → Prop} {xs d : List Int} (h : (Kd.int .i64).R e W base ok (.slice (some ⟨g, 0, none⟩) xs.length cap) xs) (hl : d.length = xs.length) :
    (Kd.int .i64).R e (Sort.putRow (Value.int .i64) (Sort.ahead W q) g 0 d.toArray) base ok (.slice (some ⟨g, 0, none⟩) xs.length cap) d ∧ Kept W (Sort.putRow (Value.int .i64) (Sort.ahead W q) g 0 d.toArray) (fun k => k = g) ∧ base ≤ g := by
  obtain ⟨hlen, ho⟩ := Kd.own_of_R h
  rcases ho with ⟨ho, _⟩ | ⟨g', cap', cur, hs, hb, hc, h1, h2, h3, h4⟩
  · cases ho
  · injection hs with hs _ hcap
    injection hs with hs
    injection hs with hs _ _
    subst hs
    subst hcap
    have hnew : (Sort.putRow (Value.int .i64) (Sort.ahead W q) g 0 d.toArray).heap[g]? = some (.cells (Sort.putCells (Value.int .i64) 0 d.toArray cur) e (0, 0)) := by
      show (W.heap.modify g _)[g]? = _
      rw [Array.getElem?_modify, if_pos rfl, hc]
      rfl
    refine ⟨?_, ⟨by simp [Sort.ahead], fun k hk hn => ?_⟩, hb⟩
    · rw [← hl]
      refine Kd.R_of_own ⟨by rw [encs_length, Nat.mul_one], .inr ⟨g, cap, _, rfl, hb, hnew, by omega, h2, by simp [Sort.putCells, h3], ?_⟩⟩ (fun k hk => h.1 k (by simpa [Value.ownBlock] using hk))
      rw [Nat.mul_one]
      exact putCells_take d cur (by omega)
    · show (W.heap.modify g _)[k]? = _
      rw [Array.getElem?_modify, if_neg (fun e => hn e.symm)]
/-- slices.Delete of one element, of a row of the call's own. -/
theorem delete_calls (P0_ : Nat → Prop) (g cap : Nat) (xs : List Int) (i : Nat) (w0 w : World) (hB : Below w0.heap.size w0 w) (ho0 : Kd.R (Kd.int .i64) 3 w w0.heap.size P0_ (.slice (some ⟨g, 0, none⟩) xs.length cap) xs) (hi : i < xs.length) :
    Calls Try.prog (Try.laysDelete_ren.f 23) #[.slice (some ⟨g, 0, none⟩) xs.length cap, .int .i64 (i : Int), .int .i64 ((i : Int) + 1)] w fun e w' => e = .returned (.slice (some ⟨g, 0, none⟩) (xs.take i ++ xs.drop (i + 1)).length cap) ∧ Kd.R (Kd.int .i64) 3 w' w0.heap.size P0_ (.slice (some ⟨g, 0, none⟩) (xs.take i ++ xs.drop (i + 1)).length cap) (xs.take i ++ xs.drop (i + 1)) ∧ Below w0.heap.size w0 w' ∧ Kept w w' (fun k_ => k_ = g) := by
  have hn : (xs.take i ++ xs.drop (i + 1)).length = xs.length - (i + 1 - i) := by simp; omega
  obtain ⟨hlen, ho⟩ := Kd.own_of_R ho0
  have hcap : xs.length ≤ cap ∧ cap ≤ 9223372036854775807 := by
    rcases ho with ⟨ho, _⟩ | ⟨g', cap', cur, hs, hb, hc, h1, h2, h3, h4⟩
    · cases ho
    · injection hs with _ _ hcap
      subst hcap
      exact ⟨h1, h2⟩
  have hH : Sort.Holds (Value.int .i64) w g 0 xs.toArray := fun j hj => by
    have hj' : j < xs.length := by simpa using hj
    obtain ⟨h1, h2⟩ := Kd.R_celln (0 : Int) ho0 (j : Int) (by omega) (by omega)
    rw [Int.toNat_natCast] at h1 h2
    refine ⟨?_, by rw [Nat.zero_add]; exact h2⟩
    rw [Nat.zero_add, h1]
    simp [rdOf, List.getD_eq_getElem?_getD, hj']
  have h := Any.slices_Delete_int Try.laysDelete g 0 cap i (i + 1) xs w hH hcap.1 hcap.2 (by omega) (by omega)
  rw [show (((i + 1 : Nat)) : Int) = (i : Int) + 1 by omega] at h
  refine h.mono ?_
  rintro e w' ⟨rfl, q, rfl⟩
  have hd : (xs.take i ++ xs.drop (i + 1) ++ List.replicate (i + 1 - i) 0).length = xs.length := by simp; omega
  obtain ⟨hr, hk, hb⟩ := R_putRow (q := q) ho0 hd
  refine ⟨by rw [hn], ?_, ?_, hk⟩
  · have h2 := Kd.R_take (m := (xs.take i ++ xs.drop (i + 1)).length) hr (by rw [List.length_append (bs := List.replicate _ _)]; omega)
    rwa [List.take_left] at h2
  · refine ⟨hB.os, hB.tape, hB.output, Nat.le_trans hB.size hk.1, fun k hlt => ?_⟩
    exact (hk.2 k (by have := hB.size; omega) (by omega)).trans (hB.block k hlt)
end Go.Proofs.Ytbagmhcdhemopaa.Q
