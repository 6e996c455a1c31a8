/- slices.DeleteFunc by its contract on the shelf. No conditions. -/
import Derived.Test.YtbmnoenbhlfjaaaWk
import Derived.Test.YtbmnoenbhlfjaaaWMiN
import Derived.Test.YtbmnoenbhlfjaaaQ7
import Derived.Shelf.SlicesE.DeleteFunc
namespace Go.Proofs
open Go.Shelf
def Try.laysDF_ren : Go.Shelf.Ren := ⟨fun | 6 => 96 | 10 => 82 | n => n, fun | 22 => 43 | 23 => 3 | 3 => 3 | 4 => 4 | 25 => 87 | 0 => 0 | n => n, fun | n => n⟩
theorem Try.laysDF : Go.Proofs.SlLaysH.n10 Try.prog Try.laysDF_ren := {
  mixed := by kernel_rfl
  f6 := ⟨"slices.IndexFunc[[]int,int]", by kernel_rfl, Try.func96.trans (congrArg some (by kernel_rfl))⟩
  f10 := ⟨"slices.DeleteFunc[[]int,int]", by kernel_rfl, Try.func82.trans (congrArg some (by kernel_rfl))⟩
  t0 := Try.underlying0
  a0 := Try.isAgg0
  z0 := Try.sizeOf0
  v0 := Try.zeroValue0
  t3 := Try.underlying3
  a3 := Try.isAgg3
  z3 := Try.sizeOf3
  v3 := Try.zeroValue3
  t4 := Try.underlying4
  a4 := Try.isAgg4
  z4 := Try.sizeOf4
  v4 := Try.zeroValue4
  t22 := Try.underlying43
  a22 := Try.isAgg43
  z22 := Try.sizeOf43
  v22 := Try.zeroValue43
  a23 := Try.isAgg3
  z23 := Try.sizeOf3
  t25 := Try.underlying87
  a25 := Try.isAgg87
  z25 := Try.sizeOf87
  v25 := Try.zeroValue87 }
end Go.Proofs
namespace Go.Proofs.Ytbmnoenbhlfjaaa.Q
set_option linter.unusedVariables false
set_option linter.unusedSimpArgs false
open Go.RowKit Go.Proofs.YtbmnoenbhlfjaaaW.PrintWords Go.Proofs.YtbmnoenbhlfjaaaW.PrintLast Go.Proofs.YtbmnoenbhlfjaaaW.PrintMore

theorem putCells_take (d : List Int) (cur : Array Value) (h : d.length ≤ cur.size) : (Sort.putCells (Value.int .i64) 0 d.toArray cur).toList.take d.length = encs (Value.int .i64) d := by
  refine List.ext_getElem? fun j => ?_
  rw [List.getElem?_take]
  by_cases hj : j < d.length
  · rw [if_pos hj, encs_get (d := (0 : Int)) _ j hj, Array.getElem?_toList]
    unfold Sort.putCells
    rw [Array.getElem?_mapIdx, Array.getElem?_eq_getElem (by omega)]
    simp only [Option.map_some]
    rw [if_pos ⟨Nat.zero_le _, by simpa using hj⟩]
    simp [List.getD_eq_getElem?_getD, hj]
  · rw [if_neg hj, List.getElem?_eq_none (by rw [encs_length]; omega)]
theorem R_putRow {e base g cap q : Nat} {W : World} {ok : Nat → Prop} {xs d : List Int} (h : (Kd.int .i64).R e W base ok (.slice (some ⟨g, 0, none⟩) xs.length cap) xs) (hl : d.length = xs.length) :
    (Kd.int .i64).R e (Sort.putRow (Value.int .i64) (Sort.ahead W q) g 0 d.toArray) base ok (.slice (some ⟨g, 0, none⟩) xs.length cap) d ∧ Kept W (Sort.putRow (Value.int .i64) (Sort.ahead W q) g 0 d.toArray) (fun k => k = g) ∧ base ≤ g := by
  obtain ⟨hlen, ho⟩ := Kd.own_of_R h
  rcases ho with ⟨ho, _⟩ | ⟨g', cap', cur, hs, hb, hc, h1, h2, h3, h4⟩
  · cases ho
  · injection hs with hs _ hcap
    injection hs with hs
    injection hs with hs _ _
    subst hs
    subst hcap
    have hnew : (Sort.putRow (Value.int .i64) (Sort.ahead W q) g 0 d.toArray).heap[g]? = some (.cells (Sort.putCells (Value.int .i64) 0 d.toArray cur) e (0, 0)) := by
      show (W.heap.modify g _)[g]? = _
      rw [Array.getElem?_modify, if_pos rfl, hc]
      rfl
    refine ⟨?_, ⟨by simp [Sort.ahead], fun k hk hn => ?_⟩, hb⟩
    · rw [← hl]
      refine Kd.R_of_own ⟨by rw [encs_length, Nat.mul_one], .inr ⟨g, cap, _, rfl, hb, hnew, by omega, h2, by simp [Sort.putCells, h3], ?_⟩⟩ (fun k hk => h.1 k (by simpa [Value.ownBlock] using hk))
      rw [Nat.mul_one]
      exact putCells_take d cur (by omega)
    · show (W.heap.modify g _)[k]? = _
      rw [Array.getElem?_modify, if_neg (fun e => hn e.symm)]
/-- slices.DeleteFunc with a literal that captures a box, of a row of the call's own. -/
theorem deletefunc_calls (P0_ : Nat → Prop) (g cap : Nat) (xs : List Int) (fg : Nat) (lb : Array Value) (p : Int → Bool) (w0 w : World) (hB : Below w0.heap.size w0 w) (ho0 : Kd.R (Kd.int .i64) 3 w w0.heap.size P0_ (.slice (some ⟨g, 0, none⟩) xs.length cap) xs)
    (eg : ∀ args w, (callFunc fg args).run Try.prog w = .ok (.enter fg args) w) (hp : PredAt Try.prog fg lb (Value.int .i64) p w) (hpo : PredOver Try.prog fg lb (Value.int .i64) p g 0 xs.length w) :
    Calls Try.prog (Try.laysDF_ren.f 10) #[.slice (some ⟨g, 0, none⟩) xs.length cap, .func (.func fg) #[] lb] w fun e w' => e = .returned (.slice (some ⟨g, 0, none⟩) (xs.filter fun x => !p x).length cap) ∧ Kd.R (Kd.int .i64) 3 w' w0.heap.size P0_ (.slice (some ⟨g, 0, none⟩) (xs.filter fun x => !p x).length cap) (xs.filter fun x => !p x) ∧ Below w0.heap.size w0 w' ∧ Kept w w' (fun k => k = g) := by
  have hfl : (xs.filter fun x => !p x).length ≤ xs.length := List.length_filter_le _ _
  obtain ⟨hlen, ho⟩ := Kd.own_of_R ho0
  have hcap : xs.length ≤ cap ∧ cap ≤ 9223372036854775807 := by
    rcases ho with ⟨ho, _⟩ | ⟨g', cap', cur, hs, hb, hc, h1, h2, h3, h4⟩
    · cases ho
    · injection hs with _ _ hcap
      subst hcap
      exact ⟨h1, h2⟩
  have hH : Sort.Holds (Value.int .i64) w g 0 xs.toArray := fun j hj => by
    have hj' : j < xs.length := by simpa using hj
    obtain ⟨h1, h2⟩ := Kd.R_celln (0 : Int) ho0 (j : Int) (by omega) (by omega)
    rw [Int.toNat_natCast] at h1 h2
    refine ⟨?_, by rw [Nat.zero_add]; exact h2⟩
    rw [Nat.zero_add, h1]
    simp [rdOf, List.getD_eq_getElem?_getD, hj']
  have h := AnyE.slices_DeleteFunc Try.laysDF (Value.int .i64) (fun _ => rfl) p fg lb eg (0 : Int) (fun w => Try.zeroValue3 w) g 0 cap xs.toArray w hp (by simpa using hpo) hH (by simp; omega) (by simp; exact hcap.1)
  simp only [List.size_toArray] at h
  refine h.mono ?_
  rintro e w' ⟨rfl, q, rfl⟩
  have hd : ((xs.filter fun x => !p x) ++ List.replicate (xs.length - (xs.filter fun x => !p x).length) 0).length = xs.length := by simp; omega
  obtain ⟨hr, hk, hb⟩ := R_putRow (q := q) ho0 hd
  refine ⟨rfl, ?_, ?_, hk⟩
  · have h2 := Kd.R_take (m := (xs.filter fun x => !p x).length) hr (by rw [List.length_append]; omega)
    rwa [List.take_left] at h2
  · refine ⟨hB.os, hB.tape, hB.output, Nat.le_trans hB.size hk.1, fun k hlt => ?_⟩
    exact (hk.2 k (by have := hB.size; omega) (by omega)).trans (hB.block k hlt)
end Go.Proofs.Ytbmnoenbhlfjaaa.Q
