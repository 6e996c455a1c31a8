/- slices.Sort and slices.Compact of whole numbers by their contracts on the shelf, in the words of the printed walks (r4; types by number). No conditions. -/
import Derived.Test.YthgkhfhfahifmaaWk
import Derived.Test.YthgkhfhfahifmaaWMis
import Derived.Ground.NamesProg
import Derived.Ground.Names2Prog
import Derived.Shelf.Slices.CompactI
import Derived.Shelf.Sort.Plain
import Derived.Shelf.Slices.In.SortNone
namespace Go.Proofs
open Go.Shelf
def Try.laysSort_ren : Go.Shelf.Ren := ⟨fun | 125 => 93 | 128 => 106 | 129 => 107 | 189 => 76 | 215 => 115 | 216 => 103 | 257 => 92 | 294 => 97 | 295 => 98 | 296 => 99 | 297 => 100 | 298 => 101 | 299 => 102 | 300 => 104 | 301 => 105 | 328 => 110 | 329 => 111 | 330 => 112 | 331 => 113 | 332 => 114 | 343 => 116 | n => n, fun | 3 => 3 | 4 => 4 | 5 => 5 | 9 => 9 | 28 => 37 | 46 => 108 | 51 => 123 | 53 => 125 | 131 => 120 | 182 => 114 | 183 => 115 | 218 => 130 | 222 => 134 | 228 => 136 | 229 => 137 | 0 => 0 | n => n, fun | n => n⟩
set_option maxRecDepth 100000 in
theorem Try.laysSort : Go.Proofs.Lays.n189 Try.prog Try.laysSort_ren := {
  mixed := by kernel_rfl
  f125 := Try.func93.trans (congrArg some (by kernel_rfl))
  f128 := Try.func106.trans (congrArg some (by kernel_rfl))
  f129 := Try.func107.trans (congrArg some (by kernel_rfl))
  f189 := Try.func76.trans (congrArg some (by kernel_rfl))
  f215 := Try.func115.trans (congrArg some (by kernel_rfl))
  f216 := Try.func103.trans (congrArg some (by kernel_rfl))
  f257 := Try.func92.trans (congrArg some (by kernel_rfl))
  f294 := Try.func97.trans (congrArg some (by kernel_rfl))
  f295 := Try.func98.trans (congrArg some (by kernel_rfl))
  f296 := Try.func99.trans (congrArg some (by kernel_rfl))
  f297 := Try.func100.trans (congrArg some (by kernel_rfl))
  f298 := Try.func101.trans (congrArg some (by kernel_rfl))
  f299 := Try.func102.trans (congrArg some (by kernel_rfl))
  f300 := Try.func104.trans (congrArg some (by kernel_rfl))
  f301 := Try.func105.trans (congrArg some (by kernel_rfl))
  f328 := Try.func110.trans (congrArg some (by kernel_rfl))
  f329 := Try.func111.trans (congrArg some (by kernel_rfl))
  f330 := Try.func112.trans (congrArg some (by kernel_rfl))
  f331 := Try.func113.trans (congrArg some (by kernel_rfl))
  f332 := Try.func114.trans (congrArg some (by kernel_rfl))
  f343 := Try.func116.trans (congrArg some (by kernel_rfl))
  t0 := Try.underlying0
  a0 := Try.isAgg0
  z0 := Try.sizeOf0
  v0 := Try.zeroValue0
  t3 := Try.underlying3
  a3 := Try.isAgg3
  z3 := Try.sizeOf3
  v3 := Try.zeroValue3
  t4 := Try.underlying4
  a4 := Try.isAgg4
  z4 := Try.sizeOf4
  v4 := Try.zeroValue4
  t5 := Try.underlying5
  a5 := Try.isAgg5
  z5 := Try.sizeOf5
  v5 := Try.zeroValue5
  t9 := Try.underlying9
  a9 := Try.isAgg9
  z9 := Try.sizeOf9
  v9 := Try.zeroValue9
  t28 := Try.underlying37
  a28 := Try.isAgg37
  z28 := Try.sizeOf37
  v28 := Try.zeroValue37
  t46 := Try.underlying108
  a46 := Try.isAgg108
  z46 := Try.sizeOf108
  v46 := Try.zeroValue108
  t51 := Try.underlying123
  a51 := Try.isAgg123
  z51 := Try.sizeOf123
  v51 := Try.zeroValue123
  t53 := Try.underlying125
  a53 := Try.isAgg125
  z53 := Try.sizeOf125
  v53 := Try.zeroValue125
  t131 := Try.underlying120
  a131 := Try.isAgg120
  z131 := Try.sizeOf120
  v131 := Try.zeroValue120
  t182 := Try.underlying114
  a182 := Try.isAgg114
  z182 := Try.sizeOf114
  v182 := Try.zeroValue114
  t183 := Try.underlying115
  a183 := Try.isAgg115
  z183 := Try.sizeOf115
  v183 := Try.zeroValue115
  t218 := Try.underlying130
  a218 := Try.isAgg130
  z218 := Try.sizeOf130
  v218 := Try.zeroValue130
  t222 := Try.underlying134
  a222 := Try.isAgg134
  z222 := Try.sizeOf134
  v222 := Try.zeroValue134
  t228 := Try.underlying136
  a228 := Try.isAgg136
  z228 := Try.sizeOf136
  v228 := Try.zeroValue136
  t229 := Try.underlying137
  a229 := Try.isAgg137
  z229 := Try.sizeOf137
  v229 := Try.zeroValue137 }
def Try.laysCompact_ren : Go.Shelf.Ren := ⟨fun | 20 => 77 | n => n, fun | 22 => 37 | 3 => 3 | 4 => 4 | 0 => 0 | n => n, fun | n => n⟩
theorem Try.laysCompact : Go.Proofs.Lays2.n20 Try.prog Try.laysCompact_ren := {
  mixed := by kernel_rfl
  f20 := Try.func77.trans (congrArg some (by kernel_rfl))
  t0 := Try.underlying0
  a0 := Try.isAgg0
  z0 := Try.sizeOf0
  v0 := Try.zeroValue0
  t3 := Try.underlying3
  a3 := Try.isAgg3
  z3 := Try.sizeOf3
  v3 := Try.zeroValue3
  t4 := Try.underlying4
  a4 := Try.isAgg4
  z4 := Try.sizeOf4
  v4 := Try.zeroValue4
  t22 := Try.underlying37
  a22 := Try.isAgg37
  z22 := Try.sizeOf37
  v22 := Try.zeroValue37
  i3 := by kernel_rfl }
end Go.Proofs

namespace Go.Proofs.Ythgkhfhfahifmaa.Q
set_option linter.unusedVariables false
set_option linter.unusedSimpArgs false
open Go.RowKit Go.Proofs.YthgkhfhfahifmaaW.PrintWords Go.Proofs.YthgkhfhfahifmaaW.PrintLast Go.Proofs.YthgkhfhfahifmaaW.PrintMore

theorem putCells_take (d : List Int) (cur : Array Value) (h : d.length ≤ cur.size) : (Sort.putCells (Value.int .i64) 0 d.toArray cur).toList.take d.length = encs (Value.int .i64) d := by
  refine List.ext_getElem? fun j => ?_
  rw [List.getElem?_take]
  by_cases hj : j < d.length
  · rw [if_pos hj, encs_get (d := (0 : Int)) _ j hj, Array.getElem?_toList]
    unfold Sort.putCells
    rw [Array.getElem?_mapIdx, Array.getElem?_eq_getElem (by omega)]
    simp only [Option.map_some]
    rw [if_pos ⟨Nat.zero_le _, by simpa using hj⟩]
    simp [List.getD_eq_getElem?_getD, hj]
  · rw [if_neg hj, List.getElem?_eq_none (by rw [encs_length]; omega)]
theorem R_putRow {e base g cap q : Nat} {W : World} {ok : Nat → Prop} {xs d : List Int} (h : (Kd.int .i64).R e W base ok (.slice (some ⟨g, 0, none⟩) xs.length cap) xs) (hl : d.length = xs.length) :
    (Kd.int .i64).R e (Sort.putRow (Value.int .i64) (Sort.ahead W q) g 0 d.toArray) base ok (.slice (some ⟨g, 0, none⟩) xs.length cap) d ∧ Kept W (Sort.putRow (Value.int .i64) (Sort.ahead W q) g 0 d.toArray) (fun k => k = g) ∧ base ≤ g := by
  obtain ⟨hlen, ho⟩ := Kd.own_of_R h
  rcases ho with ⟨ho, _⟩ | ⟨g', cap', cur, hs, hb, hc, h1, h2, h3, h4⟩
  · cases ho
  · injection hs with hs _ hcap
    injection hs with hs
    injection hs with hs _ _
    subst hs
    subst hcap
    have hnew : (Sort.putRow (Value.int .i64) (Sort.ahead W q) g 0 d.toArray).heap[g]? = some (.cells (Sort.putCells (Value.int .i64) 0 d.toArray cur) e (0, 0)) := by
      show (W.heap.modify g _)[g]? = _
      rw [Array.getElem?_modify, if_pos rfl, hc]
      rfl
    refine ⟨?_, ⟨by simp [Sort.ahead], fun k hk hn => ?_⟩, hb⟩
    · rw [← hl]
      refine Kd.R_of_own ⟨by rw [encs_length, Nat.mul_one], .inr ⟨g, cap, _, rfl, hb, hnew, by omega, h2, by simp [Sort.putCells, h3], ?_⟩⟩ (fun k hk => h.1 k (by simpa [Value.ownBlock] using hk))
      rw [Nat.mul_one]
      exact putCells_take d cur (by omega)
    · show (W.heap.modify g _)[k]? = _
      rw [Array.getElem?_modify, if_neg (fun e => hn e.symm)]
theorem R_holds {base e n c : Nat} {W : World} {ok : Nat → Prop} {g : Nat} {xs : List Int} (h : (Kd.int .i64).R e W base ok (.slice (some ⟨g, 0, none⟩) xs.length c) xs) : Sort.Holds (Value.int .i64) W g 0 xs.toArray := fun j hj => by
  have hj' : j < xs.length := by simpa using hj
  obtain ⟨h1, h2⟩ := Kd.R_celln (0 : Int) h (j : Int) (by omega) (by omega)
  rw [Int.toNat_natCast] at h1 h2
  refine ⟨?_, by rw [Nat.zero_add]; exact h2⟩
  rw [Nat.zero_add, h1]
  simp [rdOf, List.getD_eq_getElem?_getD, hj']
theorem R_capInt {base e c : Nat} {W : World} {ok : Nat → Prop} {A : Option Addr} {xs : List Int} (h : (Kd.int .i64).R e W base ok (.slice A xs.length c) xs) : xs.length ≤ c ∧ c ≤ 9223372036854775807 := by
  obtain ⟨hlen, ho⟩ := Kd.own_of_R h
  rcases ho with ⟨ho, hx⟩ | ⟨g', cap', cur, hs, hb, hc, h1, h2, h3, h4⟩
  · injection ho with _ hn hc
    omega
  · injection hs with _ _ hcap
    subst hcap
    exact ⟨h1, h2⟩
theorem compact_le (xs : List Int) : (Lib.compact xs).length ≤ xs.length := by
  unfold Lib.compact Lib.compactUpTo
  rw [List.length_map]
  exact Nat.le_trans (List.length_filter_le _ _) (by simp)
/-- slices.Compact, of a row of the call's own. -/
theorem compact_calls (P0_ : Nat → Prop) (A : Option Addr) (c : Nat) (xs : List Int) (w0 w : World) (hB : Below w0.heap.size w0 w) (ho0 : Kd.R (Kd.int .i64) 3 w w0.heap.size P0_ (.slice A xs.length c) xs) :
    Calls Try.prog 77 #[.slice A xs.length c] w fun e w' => e = .returned (.slice A (Lib.compact xs).length c) ∧ Kd.R (Kd.int .i64) 3 w' w0.heap.size P0_ (.slice A (Lib.compact xs).length c) (Lib.compact xs) ∧ Below w0.heap.size w0 w' ∧ Kept w w' P0_ := by
  by_cases hn : 0 < xs.length
  · obtain ⟨g, cap, hv, hbg, hlt, _⟩ := Kd.R_form ho0 hn
    injection hv with hA _ hc
    subst hA
    subst hc
    obtain ⟨hc1, hc2⟩ := R_capInt ho0
    have h := Any.slices_Compact_int Try.laysCompact g 0 c xs w (R_holds ho0 (n := 0)) (by omega) hc1
    refine h.mono ?_
    rintro e w' ⟨rfl, q, rfl⟩
    have hle := compact_le xs
    have hd : (Lib.compact xs ++ List.replicate (xs.length - (Lib.compact xs).length) 0).length = xs.length := by simp; omega
    obtain ⟨hr, hk, hb⟩ := R_putRow (q := q) ho0 hd
    refine ⟨rfl, ?_, ?_, hk.mono (fun k hk => by subst hk; exact ho0.1 _ (by simp [Value.ownBlock]))⟩
    · have h2 := Kd.R_take (m := (Lib.compact xs).length) hr (by rw [List.length_append]; omega)
      rwa [List.take_left] at h2
    · refine ⟨hB.os, hB.tape, hB.output, Nat.le_trans hB.size hk.1, fun k hlt => ?_⟩
      exact (hk.2 k (by have := hB.size; omega) (by omega)).trans (hB.block k hlt)
  · obtain rfl : xs = [] := List.eq_nil_of_length_eq_zero (by omega)
    have h := Any.slices_Compact_int_empty Try.laysCompact A c w
    refine h.mono ?_
    rintro e w' ⟨rfl, rfl⟩
    exact ⟨rfl, ho0, hB, Kept.refl _ _⟩
/-- slices.Sort, of a row of the call's own. -/
theorem sort_calls (P0_ : Nat → Prop) (A : Option Addr) (c : Nat) (xs : List Int) (w0 w : World) (hB : Below w0.heap.size w0 w) (ho0 : Kd.R (Kd.int .i64) 3 w w0.heap.size P0_ (.slice A xs.length c) xs) (hm : xs.length ≤ 1000000) :
    Calls Try.prog 76 #[.slice A xs.length c] w fun e w' => e = .returned (.tuple #[]) ∧ Kd.R (Kd.int .i64) 3 w' w0.heap.size P0_ (.slice A xs.length c) (xs.mergeSort fun x y => decide (x ≤ y)) ∧ Below w0.heap.size w0 w' ∧ Kept w w' P0_ := by
  by_cases hn : 0 < xs.length
  · obtain ⟨g, cap, hv, hbg, hlt, _⟩ := Kd.R_form ho0 hn
    injection hv with hA _ hc
    subst hA
    subst hc
    have h := Any.slices_Sort_int Try.laysSort g 0 c xs w (R_holds ho0 (n := 0)) hlt (by omega)
    refine h.mono ?_
    rintro e w' ⟨rfl, q, os, rfl⟩
    have hd : (xs.mergeSort fun x y => decide (x ≤ y)).length = xs.length := List.length_mergeSort _
    obtain ⟨hr, hk, hb⟩ := R_putRow (q := q) ho0 hd
    have hg : Below (Sort.putRow (Value.int .i64) (Sort.ahead w q) g 0 (xs.mergeSort fun x y => decide (x ≤ y)).toArray).heap.size (Sort.putRow (Value.int .i64) (Sort.ahead w q) g 0 (xs.mergeSort fun x y => decide (x ≤ y)).toArray) (Sort.grow (Sort.putRow (Value.int .i64) (Sort.ahead w q) g 0 (xs.mergeSort fun x y => decide (x ≤ y)).toArray) os) :=
      ⟨rfl, rfl, rfl, by rw [Sort.size_grow]; omega, fun k hk => Sort.heap_grow_old _ _ hk⟩
    have hk2 := hk.below hg
    refine ⟨rfl, Kd.R_below hr hg, ?_, hk2.mono (fun k hk => by subst hk; exact ho0.1 _ (by simp [Value.ownBlock]))⟩
    refine ⟨hB.os, hB.tape, hB.output, Nat.le_trans hB.size hk2.1, fun k hlt => ?_⟩
    exact (hk2.2 k (by have := hB.size; omega) (by omega)).trans (hB.block k hlt)
  · obtain rfl : xs = [] := List.eq_nil_of_length_eq_zero (by omega)
    have h := Any.slices_Sort_int_none Try.laysSort A c w
    refine h.mono ?_
    rintro e w' ⟨rfl, rfl⟩
    refine ⟨rfl, ?_, hB, Kept.refl _ _⟩
    rw [List.mergeSort_nil]
    exact ho0
end Go.Proofs.Ythgkhfhfahifmaa.Q
