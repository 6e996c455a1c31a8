/- Plain facts on loops over lists, with what lies ahead told; no program in sight. No conditions. -/
import Derived.Test.YthgkhfhfahifmaaLib1
namespace Go.Proofs.Ythgkhfhfahifmaa.Lib
open Go.RowKit Go.Proofs.YthgkhfhfahifmaaW.PrintWords Go.Proofs.YthgkhfhfahifmaaW.PrintLast Go.Proofs.YthgkhfhfahifmaaW.PrintMore

/-- A loop over a list by an index: what has been passed is told, too. -/
theorem Ev.rangeP {α β ρ : Type} (l : List α) (F : Nat → β → Int → Option ρ) (G : β → List α → List α → ρ)
    (hnil : ∀ b, Ev (fun k => F k b (l.length : Int)) (G b l []))
    (hcons : ∀ b p x q, l = p ++ x :: q → (∀ b', Ev (fun k => F k b' ((p.length : Int) + 1)) (G b' (p ++ [x]) q)) → Ev (fun k => F k b (p.length : Int)) (G b p (x :: q)))
    (b : β) : Ev (fun k => F k b 0) (G b [] l) := by
  have main : ∀ (q p : List α) (b : β), l = p ++ q → Ev (fun k => F k b (p.length : Int)) (G b p q) := by
    intro q
    induction q with
    | nil => intro p b e; rw [List.append_nil] at e; subst e; exact hnil b
    | cons x q ih =>
      intro p b e
      refine hcons b p x q e fun b' => ?_
      have := ih (p ++ [x]) b' (by rw [e]; simp)
      have e2 : ((p ++ [x]).length : Int) = (p.length : Int) + 1 := by simp
      rw [e2] at this
      exact this
  exact main l [] b rfl
/-- The same, with something that holds of the state and of what has been passed. -/
theorem Ev.rangeI {α β ρ : Type} (l : List α) (F : Nat → β → Int → Option ρ) (G : β → List α → List α → ρ) (Inv : β → List α → Prop)
    (hnil : ∀ b, Inv b l → Ev (fun k => F k b (l.length : Int)) (G b l []))
    (hcons : ∀ b p x q, l = p ++ x :: q → Inv b p → (∀ b', Inv b' (p ++ [x]) → Ev (fun k => F k b' ((p.length : Int) + 1)) (G b' (p ++ [x]) q)) → Ev (fun k => F k b (p.length : Int)) (G b p (x :: q)))
    (b : β) (hb : Inv b []) : Ev (fun k => F k b 0) (G b [] l) := by
  have main : ∀ (q p : List α) (b : β), l = p ++ q → Inv b p → Ev (fun k => F k b (p.length : Int)) (G b p q) := by
    intro q
    induction q with
    | nil => intro p b e h; rw [List.append_nil] at e; subst e; exact hnil b h
    | cons x q ih =>
      intro p b e h
      refine hcons b p x q e h fun b' h' => ?_
      have := ih (p ++ [x]) b' (by rw [e]; simp) h'
      have e2 : ((p ++ [x]).length : Int) = (p.length : Int) + 1 := by simp
      rw [e2] at this
      exact this
  exact main l [] b rfl hb
theorem getD_at {α : Type} (p q : List α) (y d : α) : (p ++ y :: q).getD p.length d = y := by simp [List.getD_eq_getElem?_getD]
theorem wrap_succ {n : Nat} (h : n ≤ 1000000000000000) : wrap64 ((n : Int) + 1) = (n : Int) + 1 := wrap64_id (by omega) (by omega)
theorem len_lt {α : Type} (p q : List α) (x : α) : (p.length : Int) < ((p ++ x :: q).length : Int) := by simp; omega
end Go.Proofs.Ythgkhfhfahifmaa.Lib
