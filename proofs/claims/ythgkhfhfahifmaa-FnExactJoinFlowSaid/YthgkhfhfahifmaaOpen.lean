/- What can be read at a type, read as a value of its kind: whole numbers, bools, strings, slices, structs, in each other. No program in sight. -/
import Derived.Test.YthgkhfhfahifmaaWMore
import Derived.Deep.Slices
import Derived.ChangeArms
import Derived.DataReads
import Derived.WideShapes
namespace Go.Proofs.Ythgkhfhfahifmaa.Open
open Go.RowKit Go.Proofs.YthgkhfhfahifmaaW.PrintWords
section
variable {H : Type} {enc : TypeId × Value → H} {P : Program} {W : World}
/-- Whatever can be read at type t reads as a value of kind d, and that is good. -/
def Opens {α : Type} (enc : TypeId × Value → H) (P : Program) (W : World) (t : TypeId) (d : Kd α) (good : α → Prop) : Prop :=
  ∀ (fuel : Nat) (cs : List Value) (y : DataW H × List MemPlace), DataW.trod enc P W 0 (fun _ => true) true fuel t cs = some y → ∃ x, d.K W x cs ∧ good x
theorem Opens.int {t : TypeId} {k : IntKind} (ht : P.underlying t = some (.int k)) : Opens enc P W t (Kd.int k) (fun x => (Lit.int k x).wf = true) := by
  intro fuel cs y h
  obtain ⟨m, rfl, _, hw⟩ := DataW.trod_int ht h
  exact ⟨m, rfl, hw⟩
theorem Opens.bool {t : TypeId} (ht : P.underlying t = some .bool) : Opens enc P W t Kd.bool (fun _ => True) := by
  intro fuel cs y h
  obtain ⟨m, rfl, _⟩ := DataW.trod_bool ht h
  exact ⟨m, rfl, trivial⟩
theorem Opens.string {t : TypeId} (ht : P.underlying t = some .string) : Opens enc P W t Kd.string (fun s => s.size ≤ maxLen) := by
  intro fuel cs y h
  obtain ⟨m, rfl, _, hw⟩ := DataW.trod_string ht h
  exact ⟨m, rfl, hw⟩
theorem C_none {α : Type} (d : Kd α) (A : Option Addr) : d.C W A 0 [] := ⟨rfl, by omega, fun h => absurd h (by omega)⟩
theorem Opens.row {α : Type} {t e : TypeId} {d : Kd α} {good : α → Prop} (ht : P.underlying t = some (.slice e)) (he : P.cellsOf e = d.sz) (hO : Opens enc P W e d good)
    {fuel : Nat} {cs : List Value} {y : DataW H × List MemPlace} (h : DataW.trod enc P W 0 (fun _ => true) true fuel t cs = some y) :
    ∃ A c xs, cs = [.slice A xs.length c] ∧ xs.length ≤ c ∧ d.C W A xs.length xs ∧ xs.length ≤ maxLen ∧ ∀ x ∈ xs, good x := by
  rcases Deep.open_slice ht h with ⟨rfl, _⟩ | ⟨a, len, cap, m, n, D, Pl, rfl, hb, hl, hm, hmm, rfl, hx⟩
  · exact ⟨none, 0, [], rfl, Nat.le_refl _, C_none d none, Nat.zero_le _, fun x hx => by simp at hx⟩
  · rw [if_pos rfl] at hmm
    subst hmm
    have each : ∀ i : Fin len, ∃ q : α × List Value, W.cells? 0 (a.add (i.1 * d.sz)) d.sz = some q.2 ∧ d.K W q.1 q.2 ∧ good q.1 := by
      intro i
      obtain ⟨cs', h1, h2⟩ := hx i.1 (by have := i.2; omega)
      rw [he] at h1
      obtain ⟨x, hK, hg⟩ := hO n cs' _ h2
      exact ⟨(x, cs'), h1, hK, hg⟩
    obtain ⟨f, hf⟩ := Classical.axiomOfChoice each
    refine ⟨some a, m, List.ofFn fun i => (f i).1, by rw [List.length_ofFn], by rw [List.length_ofFn]; exact hl, ?_, by rw [List.length_ofFn]; omega, ?_⟩
    · refine ⟨rfl, by rw [List.length_ofFn]; unfold maxLen at hm; omega, fun _ => ⟨a, rfl, fun j p hp => ?_⟩⟩
      rw [List.getElem?_ofFn] at hp
      split at hp
      · rename_i hj
        injection hp with hp
        subst hp
        obtain ⟨h1, h2, _⟩ := hf ⟨j, hj⟩
        obtain ⟨_, hlen, hc⟩ := World.cells?_some h1
        refine ⟨_, hlen, h2, fun i u hu => ?_⟩
        have hi : i < d.sz := by rw [← hlen]; exact (List.getElem?_eq_some_iff.1 hu).1
        rw [← Deep.add_add, hc i hi]; exact hu
      · cases hp
    · intro x hx
      rw [List.mem_ofFn] at hx
      obtain ⟨i, rfl⟩ := hx
      exact (hf i).2.2
theorem Opens.slice {α : Type} {t e : TypeId} {d : Kd α} {good : α → Prop} (ht : P.underlying t = some (.slice e)) (he : P.cellsOf e = d.sz) (hO : Opens enc P W e d good) :
    Opens enc P W t (Kd.slice e d) (fun xs => xs.length ≤ maxLen ∧ ∀ x ∈ xs, good x) := by
  intro fuel cs y h
  obtain ⟨A, c, xs, rfl, hl, hC, hm, hg⟩ := Opens.row ht he hO h
  exact ⟨xs, ⟨A, c, rfl, hl, hC⟩, hm, hg⟩
/-- A part of a struct's cells. -/
def Part {α : Type} (W : World) (d : Kd α) (good : α → Prop) (cs : List Value) : Prop := ∃ x, d.K W x cs ∧ good x
theorem Part.pair {α β : Type} {a : Kd α} {b : Kd β} {ga : α → Prop} {gb : β → Prop} {cs : List Value} {off : Nat} (h0 : Part W a ga ((cs.drop off).take a.sz)) (h1 : Part W b gb (cs.drop (off + a.sz))) :
    Part W (Kd.pair a b) (fun z => ga z.1 ∧ gb z.2) (cs.drop off) := by
  obtain ⟨x, hx, gx⟩ := h0
  obtain ⟨y, hy, gy⟩ := h1
  refine ⟨(x, y), ⟨_, _, ?_, hx, hy⟩, gx, gy⟩
  rw [← List.drop_drop, List.take_append_drop]
theorem Part.last {α : Type} {a : Kd α} {ga : α → Prop} {cs : List Value} {off : Nat} (hl : cs.length = off + a.sz) (h0 : Part W a ga ((cs.drop off).take a.sz)) : Part W a ga (cs.drop off) := by
  rwa [List.take_of_length_le (by rw [List.length_drop]; omega)] at h0
theorem Part.of {α : Type} {t : TypeId} {d : Kd α} {good : α → Prop} (hO : Opens enc P W t d good) (hsz : P.cellsOf t = d.sz) {n off : Nat} {cs : List Value} {x : Option (DataW H × List MemPlace)} (h : DataW.trod enc P W 0 (fun _ => true) true n t ((cs.drop off).take (P.cellsOf t)) = x) (hx : x.isSome = true) :
    Part W d good ((cs.drop off).take d.sz) := by
  obtain ⟨y, rfl⟩ := Option.isSome_iff_exists.1 hx
  rw [hsz] at h
  exact hO n _ y h
end
end Go.Proofs.Ythgkhfhfahifmaa.Open
