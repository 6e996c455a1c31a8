/- Plain facts on tables over the numbers below n, and on loops that count; no program in sight. No conditions. -/
import Derived.Test.YthgkhfhfahifmaaLib1
import Derived.Test.YthgkhfhfahifmaaLib2
set_option linter.unusedVariables false
set_option linter.unusedSimpArgs false
namespace Go.Proofs.Ythgkhfhfahifmaa.Lib
open Go.RowKit Go.Proofs.YthgkhfhfahifmaaW.PrintWords Go.Proofs.YthgkhfhfahifmaaW.PrintLast Go.Proofs.YthgkhfhfahifmaaW.PrintMore

/-- A loop that counts from 0 to n: the state is told for each number. -/
theorem Ev.count {β ρ : Type} (n : Nat) (F : Nat → β → Int → Option ρ) (St : Nat → β) (r : ρ)
    (hlast : Ev (fun k => F k (St n) (n : Int)) r)
    (hstep : ∀ m, m < n → Ev (fun k => F k (St (m + 1)) ((m : Int) + 1)) r → Ev (fun k => F k (St m) (m : Int)) r) :
    Ev (fun k => F k (St 0) 0) r := by
  have main : ∀ j, j ≤ n → Ev (fun k => F k (St (n - j)) ((n - j : Nat) : Int)) r := by
    intro j
    induction j with
    | zero => intro _; exact hlast
    | succ j ih =>
      intro hj
      have h := ih (by omega)
      refine hstep (n - (j + 1)) (by omega) ?_
      have e : n - (j + 1) + 1 = n - j := by omega
      rw [e, show ((n - (j + 1) : Nat) : Int) + 1 = ((n - j : Nat) : Int) from by omega]
      exact h
  have := main n (by omega)
  rw [Nat.sub_self] at this
  exact this
/-- The table of F over 0 .. n-1. -/
def tab {α : Type} (n : Nat) (F : Int → α) : List α := (List.range n).map (fun j : Nat => F (j : Int))
theorem tab_length {α : Type} (n : Nat) (F : Int → α) : (tab n F).length = n := by simp [tab]
theorem tab_get {α : Type} (n : Nat) (F : Int → α) (j : Nat) (h : j < n) : (tab n F)[j]? = some (F (j : Int)) := by
  simp [tab, List.getElem?_map, List.getElem?_range h]
theorem tab_getD {α : Type} {n : Nat} (F : Int → α) {x : Int} (h0 : 0 ≤ x) (h1 : x < n) (d : α) : (tab n F).getD x.toNat d = F x := by
  rw [List.getD_eq_getElem?_getD, tab_get n F x.toNat (by omega)]
  simp only [Option.getD_some]
  congr 1; omega
theorem tab_getDn {α : Type} {n : Nat} (F : Int → α) {m : Nat} (h1 : m < n) (d : α) : (tab n F).getD m d = F m := by
  rw [List.getD_eq_getElem?_getD, tab_get n F m h1]; rfl
theorem tab_congr {α : Type} {n : Nat} {F G : Int → α} (h : ∀ x : Int, 0 ≤ x → x < (n : Int) → F x = G x) : tab n F = tab n G := by
  unfold tab
  refine List.map_congr_left fun j hj => ?_
  rw [List.mem_range] at hj
  exact h j (by omega) (by omega)
theorem tab_set {α : Type} {n : Nat} (F : Int → α) {x : Int} (h0 : 0 ≤ x) (v : α) : (tab n F).set x.toNat v = tab n (fun b => if b = x then v else F b) := by
  refine List.ext_getElem? fun j => ?_
  rw [List.getElem?_set]
  by_cases hj : j < n
  · rw [tab_get n (fun b => if b = x then v else F b) _ hj, tab_length]
    by_cases h : x.toNat = j
    · rw [if_pos h, if_pos (by omega), if_pos (by omega)]
    · rw [if_neg h, if_neg (by omega), tab_get _ _ _ hj]
  · have h2 : ∀ G : Int → α, (tab n G)[j]? = none := fun G => List.getElem?_eq_none (by rw [tab_length]; omega)
    rw [h2, h2, tab_length]
    by_cases h : x.toNat = j
    · rw [if_pos h, if_neg (by omega)]
    · rw [if_neg h]
theorem tab_rep {α : Type} (n : Nat) (v : α) : List.replicate n v = tab n (fun _ => v) := by
  unfold tab
  rw [List.map_const', List.length_range]
theorem tab_mem {α : Type} {n : Nat} {F : Int → α} {y : α} : y ∈ tab n F ↔ ∃ x : Int, 0 ≤ x ∧ x < n ∧ F x = y := by
  unfold tab
  rw [List.mem_map]
  constructor
  · rintro ⟨j, hj, rfl⟩
    rw [List.mem_range] at hj
    exact ⟨j, by omega, by omega, rfl⟩
  · rintro ⟨x, h0, h1, rfl⟩
    exact ⟨x.toNat, by rw [List.mem_range]; omega, by congr 1; omega⟩
theorem tab_succ {α : Type} (n : Nat) (F : Int → α) : tab (n + 1) F = tab n F ++ [F n] := by
  unfold tab; rw [List.range_succ, List.map_append]; rfl
theorem tab_inj {α : Type} {n : Nat} {F G : Int → α} (h : tab n F = tab n G) {x : Int} (h0 : 0 ≤ x) (h1 : x < n) : F x = G x := by
  have a := congrArg (fun l => l[x.toNat]?) h
  simp only [tab_get _ _ _ (show x.toNat < n by omega)] at a
  have e : ((x.toNat : Nat) : Int) = x := by omega
  rw [e] at a
  exact Option.some.inj a
/-- The numbers 0 .. n-1. -/
def upto (n : Nat) : List Int := tab n (fun x => x)
theorem upto_length (n : Nat) : (upto n).length = n := tab_length _ _
theorem upto_mem {n : Nat} {x : Int} : x ∈ upto n ↔ 0 ≤ x ∧ x < n := by
  unfold upto; rw [tab_mem]
  exact ⟨fun ⟨y, h0, h1, e⟩ => e ▸ ⟨h0, h1⟩, fun h => ⟨x, h.1, h.2, rfl⟩⟩
theorem upto_succ (n : Nat) : upto (n + 1) = upto n ++ [(n : Int)] := tab_succ _ _
theorem upto_zero : upto 0 = [] := rfl
theorem upto_nodup (n : Nat) : (upto n).Nodup := by
  induction n with
  | zero => exact List.nodup_nil
  | succ n ih =>
    rw [upto_succ, List.nodup_append]
    refine ⟨ih, by simp, fun a ha b hb => ?_⟩
    rw [List.mem_singleton] at hb
    have := (upto_mem.1 ha).2
    omega
theorem tab_map {α β : Type} (n : Nat) (F : Int → α) (f : α → β) : (tab n F).map f = tab n (fun x => f (F x)) := by
  unfold tab; rw [List.map_map]; rfl
theorem tab_eq_map {α : Type} (n : Nat) (F : Int → α) : tab n F = (upto n).map F := (tab_map n _ F).symm
theorem tab_self {α : Type} (l : List α) (d : α) : l = tab l.length (fun x => l.getD x.toNat d) := by
  refine List.ext_getElem? fun j => ?_
  by_cases hj : j < l.length
  · rw [tab_get _ _ _ hj, Int.toNat_natCast, List.getD_eq_getElem?_getD, List.getElem?_eq_getElem hj]; rfl
  · rw [List.getElem?_eq_none (by omega), List.getElem?_eq_none (by rw [tab_length]; omega)]
theorem nodup_le : ∀ (s l : List Int), s.Nodup → (∀ x ∈ s, x ∈ l) → s.length ≤ l.length
  | [], _, _, _ => by simp
  | x :: q, l, hn, hs => by
    rw [List.nodup_cons] at hn
    have hx := hs x (by simp)
    have := nodup_le q (l.erase x) hn.2 (fun y hy => (List.mem_erase_of_ne (fun e : y = x => hn.1 (e ▸ hy))).2 (hs y (by simp [hy])))
    rw [List.length_erase_of_mem hx] at this
    have : 0 < l.length := List.length_pos_of_mem hx
    simp only [List.length_cons]; omega
/-- What lies below n, each once. -/
def OkS (n : Nat) (s : List Int) : Prop := s.Nodup ∧ ∀ x ∈ s, 0 ≤ x ∧ x < n
theorem OkS.le {n : Nat} {s : List Int} (h : OkS n s) : s.length ≤ n := by
  have := nodup_le s (upto n) h.1 (fun x hx => upto_mem.2 (h.2 x hx))
  rwa [upto_length] at this
theorem OkS.snoc {n : Nat} {s : List Int} {x : Int} (h : OkS n s) (hx : x ∉ s) (h0 : 0 ≤ x) (h1 : x < n) : OkS n (s ++ [x]) := by
  refine ⟨?_, fun y hy => ?_⟩
  · rw [List.nodup_append]
    exact ⟨h.1, by simp, fun a ha b hb => by rw [List.mem_singleton] at hb; subst hb; exact fun e => hx (e ▸ ha)⟩
  · rw [List.mem_append, List.mem_singleton] at hy
    rcases hy with hy | rfl
    · exact h.2 y hy
    · exact ⟨h0, h1⟩
theorem OkS.nil (n : Nat) : OkS n [] := ⟨List.nodup_nil, by simp⟩
theorem upto_ok (n : Nat) : OkS n (upto n) := ⟨upto_nodup n, fun x hx => upto_mem.1 hx⟩
theorem rd_mem {s : List Int} {i : Nat} (h : i < s.length) : rd s (i : Int) ∈ s := by
  unfold rd
  rw [Int.toNat_natCast, List.getD_eq_getElem?_getD, List.getElem?_eq_getElem h]
  exact List.getElem_mem h
theorem filter_upto_succ (B : Int → Bool) (m : Nat) : (upto (m + 1)).filter B = (upto m).filter B ++ (if B m then [(m : Int)] else []) := by
  rw [upto_succ, List.filter_append]
  congr 1
  cases h : B m <;> simp [h]
end Go.Proofs.Ythgkhfhfahifmaa.Lib
