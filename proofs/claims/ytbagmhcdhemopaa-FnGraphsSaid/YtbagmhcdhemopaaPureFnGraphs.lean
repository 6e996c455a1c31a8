/- Of every drawn graph the law of graphs tells true. No condition beyond the row's own. -/
import Derived.Test.YtbagmhcdhemopaaQ0
import Derived.Test.YtbagmhcdhemopaaQ1
import Derived.Test.YtbagmhcdhemopaaQ10
import Derived.Test.YtbagmhcdhemopaaQ11
import Derived.Test.YtbagmhcdhemopaaQ2
import Derived.Test.YtbagmhcdhemopaaQ3
import Derived.Test.YtbagmhcdhemopaaQ4
import Derived.Test.YtbagmhcdhemopaaQ5
import Derived.Test.YtbagmhcdhemopaaQ6
import Derived.Test.YtbagmhcdhemopaaQ7
import Derived.Test.YtbagmhcdhemopaaQ8
import Derived.Test.YtbagmhcdhemopaaQ9
import Derived.Test.YtbagmhcdhemopaaLib1
import Derived.Test.YtbagmhcdhemopaaLib2
import Derived.Test.YtbagmhcdhemopaaTab
namespace Go.Proofs.Ytbagmhcdhemopaa.Pure
open Go.RowKit Go.Proofs.Ytbagmhcdhemopaa.Lib Go.Proofs.Ytbagmhcdhemopaa.Q Go.Proofs.YtbagmhcdhemopaaW.PrintWords Go.Proofs.YtbagmhcdhemopaaW.PrintLast Go.Proofs.YtbagmhcdhemopaaW.PrintMore
set_option linter.unusedVariables false
set_option linter.unusedSimpArgs false

theorem findIdx_any {α : Type} (p : α → Bool) (l : List α) : decide ((match l.findIdx? p with | some j => (j : Int) | none => -1) ≥ 0) = l.any p := by
  rw [Bool.eq_iff_iff, decide_eq_true_iff, List.any_eq_true]
  cases hf : l.findIdx? p with
  | none =>
    rw [List.findIdx?_eq_none_iff] at hf
    constructor
    · intro h; simp only [ge_iff_le] at h; omega
    · rintro ⟨x, hx, h⟩; rw [hf x hx] at h; simp at h
  | some j =>
    constructor
    · intro _
      obtain ⟨hj, h1, _⟩ := List.findIdx?_eq_some_iff_getElem.mp hf
      exact ⟨l[j], List.getElem_mem hj, h1⟩
    · intro _; simp only [ge_iff_le]; omega
/-- A loop that looks for the first element that is so. -/
theorem Ev.index {α : Type} (l : List α) (F : Nat → Int → Option Int) (pr : α → Bool)
    (h0 : Ev (fun k => F k (l.length : Int)) (-1))
    (hs : ∀ p x q, l = p ++ x :: q → pr x = true → Ev (fun k => F k (p.length : Int)) (p.length : Int))
    (hn : ∀ p x q r, l = p ++ x :: q → pr x = false → Ev (fun k => F k ((p.length : Int) + 1)) r → Ev (fun k => F k (p.length : Int)) r) :
    Ev (fun k => F k 0) (match l.findIdx? pr with | some j => (j : Int) | none => -1) := by
  have main : ∀ (q p : List α), l = p ++ q → Ev (fun k => F k (p.length : Int)) (match q.findIdx? pr with | some j => ((p.length + j : Nat) : Int) | none => -1) := by
    intro q
    induction q with
    | nil => intro p e; rw [e, List.append_nil] at h0; exact h0
    | cons x q ih =>
      intro p e
      cases hx : pr x with
      | true =>
        have := hs p x q e hx
        rw [List.findIdx?_cons, hx]; simpa using this
      | false =>
        have := ih (p ++ [x]) (by rw [e]; simp)
        have e2 : ((p ++ [x]).length : Int) = (p.length : Int) + 1 := by simp
        rw [e2] at this
        have := hn p x q _ e hx this
        rw [List.findIdx?_cons, hx]
        refine Ev.cast this ?_
        cases q.findIdx? pr with
        | none => rfl
        | some j => simp; omega
  have := main l [] rfl
  refine Ev.cast this ?_
  cases l.findIdx? pr with
  | none => rfl
  | some j => simp

theorem l1Has_ev (l : List Int) (x : Int) (hl : l.length ≤ 1000000000000000) : Ev (fun k => spec_l1Has.f k l x) (decide (x ∈ l)) := by
  unfold spec_l1Has.f
  refine Ev.rangeI l (fun k (_ : Unit) i => spec_l1Has.l0 k x l (l.length : Int) i) (fun _ _ _ => decide (x ∈ l)) (fun _ p => x ∉ p) (fun _ hp => ?_) (fun _ p y q e hp ih => ?_) () (by simp)
  · refine Ev.succ ?_
    simp only [spec_l1Has.l0]
    exact Ev.ite_neg (by omega) (Ev.some (decide_eq_false hp).symm)
  · refine Ev.succ ?_
    simp only [spec_l1Has.l0]
    have hlen : p.length < l.length := by rw [e]; simp
    have hr : rd l (p.length : Int) = y := by rw [e]; exact rd_mid _ _ _
    refine Ev.ite_pos (by omega) (Ev.ite_pos (by omega) (Ev.ite_pos (by omega) ?_))
    rw [hr]
    by_cases h : y = x
    · exact Ev.ite_pos h (Ev.some (by symm; rw [decide_eq_true_iff, e]; simp [h]))
    · refine Ev.ite_neg h ?_
      rw [wrap_succ (by omega)]
      exact ih () (by simp [hp]; omega)
theorem contains_ev (l : List Int) (x : Int) (hl : l.length ≤ 1000000000000000) : Ev (fun k => slices_Contains_int_int.f k l x) (decide (x ∈ l)) := by
  unfold slices_Contains_int_int.f
  have h : Ev (fun k => slices_Index_int_int.f k l x) (match l.findIdx? (fun y => decide (x = y)) with | some j => (j : Int) | none => -1) := by
    unfold slices_Index_int_int.f
    refine Ev.index l (fun k i => slices_Index_int_int.l0 k l x (l.length : Int) i) (fun y => decide (x = y)) ?_ (fun p y q e hp => ?_) (fun p y q r e hp ih => ?_)
    · refine Ev.succ ?_
      simp only [slices_Index_int_int.l0]
      exact Ev.ite_neg (by omega) (Ev.some rfl)
    all_goals
      have hlen : p.length < l.length := by rw [e]; simp
      have hr : rd l (p.length : Int) = y := by rw [e]; exact rd_mid _ _ _
      refine Ev.succ ?_
      simp only [slices_Index_int_int.l0]
      refine Ev.ite_pos (by omega) (Ev.ite_pos (by omega) (Ev.ite_pos (by omega) ?_))
      rw [hr]
    · exact Ev.ite_pos (by simpa using hp) (Ev.some rfl)
    · refine Ev.ite_neg (by simpa using hp) ?_
      rw [wrap_succ (by omega)]
      exact ih
  refine Ev.bind h (Ev.some ?_)
  rw [findIdx_any]
  rw [Bool.eq_iff_iff]
  simp

theorem within_eq (a b c : Int) : impl_within.f a b c = some (decide (b ≤ a ∧ a ≤ c)) := by
  unfold impl_within.f
  by_cases h : a ≥ b
  · rw [if_pos h]; simp [show b ≤ a from h]
  · rw [if_neg h]; simp; omega

theorem l1In_eq (a b c : Int) : spec_l1In.f a b c = some (decide (b ≤ a ∧ a ≤ c)) := by
  unfold spec_l1In.f
  by_cases h : a ≥ b
  · rw [if_pos h]; simp [show b ≤ a from h]
  · rw [if_neg h]; simp; omega

/-- Whether numbers rise from 0 below n, behind what came ahead of them. -/
def risesL (n : Int) : List Int → List Int → Bool
  | _, [] => true
  | p, x :: q => decide (0 ≤ x ∧ x ≤ n - 1) && ((match p.getLast? with | none => true | some y => decide (y < x)) && risesL n (p ++ [x]) q)
def goodGraphB (l : List (List Int)) : Bool := decide (1 ≤ l.length ∧ l.length ≤ 12) && l.all (risesL l.length [])
theorem rd_before (p q : List Int) (x : Int) (h : 0 < p.length) : ∃ y, p.getLast? = some y ∧ rd (p ++ x :: q) ((p.length : Int) - 1) = y := by
  cases hp : p.getLast? with
  | none => rw [List.getLast?_eq_none_iff] at hp; subst hp; simp at h
  | some y =>
    refine ⟨y, rfl, ?_⟩
    unfold rd
    rw [show ((p.length : Int) - 1).toNat = p.length - 1 from by omega, List.getD_eq_getElem?_getD, List.getElem?_append_left (by omega)]
    rw [List.getLast?_eq_getElem?] at hp
    rw [hp]; rfl
theorem risesIn_ev (l : List Int) (n : Int) (hl : l.length ≤ 1048576) (hn : 0 ≤ n) (hn' : n ≤ 1048576) : Ev (fun k => impl_risesIn.f k l n) (risesL n [] l) := by
  unfold impl_risesIn.f
  refine Ev.rangeP l (fun k (_ : Unit) i => impl_risesIn.l0 k l n l (l.length : Int) i) (fun _ p q => risesL n p q) (fun _ => ?_) (fun _ p x q e ih => ?_) ()
  · refine Ev.succ ?_
    simp only [impl_risesIn.l0]
    exact Ev.ite_neg (by omega) (Ev.some rfl)
  · refine Ev.succ ?_
    simp only [impl_risesIn.l0]
    have hlen : p.length < l.length := by rw [e]; simp
    have hr : rd l (p.length : Int) = x := by rw [e]; exact rd_mid _ _ _
    refine Ev.ite_pos (by omega) (Ev.ite_pos (by omega) (Ev.ite_pos (by omega) ?_))
    rw [hr, wrap64_id (by omega) (by omega), within_eq]
    simp only [Option.bind_some]
    rw [risesL]
    by_cases h1 : 0 ≤ x ∧ x ≤ n - 1
    · refine Ev.ite_pos (by simpa using h1) ?_
      rw [decide_eq_true h1, Bool.true_and, wrap_succ (by omega)]
      by_cases h2 : 0 < p.length
      · obtain ⟨y, hy, hry⟩ := rd_before p q x h2
        rw [← e] at hry
        rw [wrap64_id (by omega) (by omega), hry, hy]
        refine Ev.ite_pos (by omega) (Ev.ite_pos (by omega) (Ev.ite_pos (by omega) ?_))
        by_cases h3 : y < x
        · refine Ev.ite_neg (by omega) ?_
          dsimp only
          rw [decide_eq_true h3, Bool.true_and]
          exact ih ()
        · refine Ev.ite_pos (by omega) (Ev.some ?_)
          dsimp only
          rw [decide_eq_false h3, Bool.false_and]
      · have hp : p = [] := List.eq_nil_of_length_eq_zero (by omega)
        subst hp
        refine Ev.ite_neg (by simp) ?_
        simpa using ih ()
    · refine Ev.ite_neg (by simpa using h1) (Ev.some ?_)
      rw [decide_eq_false h1, Bool.false_and]
theorem goodIx_ev (l : List (List Int)) (n : Int) (hn : 0 ≤ n) (hn' : n ≤ 1048576) (hl : l.length ≤ 1048576) (hx : ∀ x ∈ l, x.length ≤ 1048576) :
    Ev (fun k => impl_GoodGraph_ix.l0 k n l 0) (match l.findIdx? (fun x => !risesL n [] x) with | some j => (j : Int) | none => -1) := by
  refine Ev.index l (fun k i => impl_GoodGraph_ix.l0 k n l i) (fun x => !risesL n [] x) ?_ (fun p x q e hp => ?_) (fun p x q r e hp ih => ?_)
  · refine Ev.succ ?_
    simp only [impl_GoodGraph_ix.l0]
    exact Ev.ite_neg (by omega) (Ev.some rfl)
  all_goals
    have hlen : p.length < l.length := by rw [e]; simp
    refine Ev.succ ?_
    simp only [impl_GoodGraph_ix.l0]
    refine Ev.ite_pos (by omega) (Ev.ite_pos (by omega) ?_)
    have hg : l.getD (p.length : Int).toNat [] = x := by rw [e]; exact getD_mid _ _ _ _
    rw [hg]
    unfold impl_GoodGraph_1.f
    refine Ev.bind (Ev.bind (risesIn_ev x n (hx x (by rw [e]; simp)) hn hn') (Ev.some rfl)) ?_
    rw [hp]
  · exact Ev.ite_pos rfl (Ev.some rfl)
  · refine Ev.ite_neg (by simp) ?_
    rw [wrap_succ (by omega)]
    exact ih
theorem iGoodGraph_ev (l : List (List Int)) (hl : l.length ≤ 1048576) (hx : ∀ x ∈ l, x.length ≤ 1048576) : Ev (fun k => impl_GoodGraph.f k l) (goodGraphB l) := by
  unfold impl_GoodGraph.f goodGraphB
  rw [within_eq]
  simp only [Option.bind_some]
  by_cases h : 1 ≤ l.length ∧ l.length ≤ 12
  · refine Ev.ite_pos (by simp; omega) (Ev.bind (goodIx_ev l l.length (by omega) (by omega) hl hx) (Ev.some ?_))
    rw [findIdx_any, decide_eq_true h, Bool.true_and, List.not_any_eq_all_not]
    simp
  · refine Ev.ite_neg (by simp; omega) (Ev.some ?_)
    rw [decide_eq_false h, Bool.false_and]
theorem sGoodRow_ev (l : List (List Int)) (n : Int) (g : List (List Int)) (m j : Int) (hn : 0 ≤ n) (hn' : n ≤ 1048576) (r : Bool) (x : List Int) (hl : x.length ≤ 1048576)
    (hnext : Ev (fun k => spec_GoodGraph.l0 k n g m (wrap64 (j + 1))) r) :
    Ev (fun k => spec_GoodGraph.l1 k n x g m j x (x.length : Int) 0) (risesL n [] x && r) := by
  refine Ev.rangeP x (fun k (_ : Unit) i => spec_GoodGraph.l1 k n x g m j x (x.length : Int) i) (fun _ p q => risesL n p q && r) (fun _ => ?_) (fun _ p y q e ih => ?_) ()
  · refine Ev.succ ?_
    simp only [spec_GoodGraph.l1]
    exact Ev.ite_neg (by omega) hnext
  · refine Ev.succ ?_
    simp only [spec_GoodGraph.l1]
    have hlen : p.length < x.length := by rw [e]; simp
    have hr : rd x (p.length : Int) = y := by rw [e]; exact rd_mid _ _ _
    refine Ev.ite_pos (by omega) (Ev.ite_pos (by omega) (Ev.ite_pos (by omega) ?_))
    rw [hr, risesL]
    by_cases h1 : y < 0
    · refine Ev.ite_pos h1 (Ev.some ?_)
      rw [decide_eq_false (by omega)]; rfl
    refine Ev.ite_neg h1 ?_
    by_cases h1' : y ≥ n
    · refine Ev.ite_pos h1' (Ev.some ?_)
      rw [decide_eq_false (by omega)]; rfl
    refine Ev.ite_neg h1' ?_
    rw [decide_eq_true (by omega), Bool.true_and, wrap_succ (by omega)]
    by_cases h2 : 0 < p.length
    · obtain ⟨z, hz, hrz⟩ := rd_before p q y h2
      rw [← e] at hrz
      rw [wrap64_id (by omega) (by omega), hrz, hz]
      refine Ev.ite_pos (by omega) (Ev.ite_pos (by omega) (Ev.ite_pos (by omega) ?_))
      by_cases h3 : z < y
      · refine Ev.ite_neg (by omega) ?_
        dsimp only
        rw [decide_eq_true h3, Bool.true_and]
        exact ih ()
      · refine Ev.ite_pos (by omega) (Ev.some ?_)
        dsimp only
        rw [decide_eq_false h3]; rfl
    · have hp : p = [] := List.eq_nil_of_length_eq_zero (by omega)
      subst hp
      refine Ev.ite_neg (by simp) ?_
      simpa using ih ()
theorem sGoodGraph_ev (l : List (List Int)) (hl : l.length ≤ 1048576) (hx : ∀ x ∈ l, x.length ≤ 1048576) : Ev (fun k => spec_GoodGraph.f k l) (goodGraphB l) := by
  unfold spec_GoodGraph.f goodGraphB
  have := Ev.rangeP l (fun k (_ : Unit) i => spec_GoodGraph.l0 k (l.length : Int) l (l.length : Int) i) (fun _ _ q => q.all (risesL l.length []) && decide (1 ≤ l.length ∧ l.length ≤ 12)) (fun _ => ?_) (fun _ p x q e ih => ?_) ()
  · rw [Bool.and_comm]; exact this
  · refine Ev.succ ?_
    simp only [spec_GoodGraph.l0]
    refine Ev.ite_neg (by omega) ?_
    rw [l1In_eq]
    simp only [Option.bind_some]
    refine Ev.some ?_
    rw [List.all_nil, Bool.true_and, Bool.eq_iff_iff]; simp only [decide_eq_true_eq]; omega
  · refine Ev.succ ?_
    simp only [spec_GoodGraph.l0]
    have hlen : p.length < l.length := by rw [e]; simp
    have hrd : rd_L1 l (p.length : Int) = x := by unfold rd_L1; rw [e]; exact getD_mid _ _ _ _
    refine Ev.ite_pos (by omega) (Ev.ite_pos (by omega) (Ev.ite_pos (by omega) ?_))
    rw [hrd]
    have h2 := sGoodRow_ev l l.length l l.length p.length (by omega) (by omega) _ x (hx x (by rw [e]; simp)) (by rw [wrap_succ (by omega)]; exact ih ())
    rw [List.all_cons, Bool.and_assoc]
    exact h2

/-- A graph whose goals lie in it. -/
structure GW (g : List (List Int)) : Prop where
  lo : 1 ≤ g.length
  hi : g.length ≤ 12
  row : ∀ r ∈ g, r.length ≤ 1048576
  inn : ∀ r ∈ g, ∀ x ∈ r, 0 ≤ x ∧ x < g.length
/-- A graph that is well made. -/
structure GG (g : List (List Int)) : Prop extends GW g where
  rise : ∀ r ∈ g, risesL g.length [] r = true
theorem risesL_in (n : Int) : ∀ (q p : List Int), risesL n p q = true → ∀ x ∈ q, 0 ≤ x ∧ x < n
  | [], _, _, _, hx => by simp at hx
  | y :: q, p, h, x, hx => by
    rw [risesL, Bool.and_eq_true, Bool.and_eq_true, decide_eq_true_iff] at h
    rcases List.mem_cons.1 hx with rfl | hx
    · omega
    · exact risesL_in n q _ h.2.2 x hx
theorem goodGraph_GG {g : List (List Int)} (h : goodGraphB g = true) (hx : ∀ x ∈ g, x.length ≤ 1048576) : GG g := by
  unfold goodGraphB at h
  rw [Bool.and_eq_true, decide_eq_true_iff, List.all_eq_true] at h
  exact ⟨⟨h.1.1, h.1.2, hx, fun r hr => risesL_in _ _ _ (h.2 r hr)⟩, fun r hr => h.2 r hr⟩
/-- Row x of g. -/
def rowG (g : List (List Int)) (x : Int) : List Int := g.getD x.toNat []
theorem rowG_mem {g : List (List Int)} {x : Int} (h0 : 0 ≤ x) (h1 : x < g.length) : rowG g x ∈ g := by
  unfold rowG
  rw [List.getD_eq_getElem?_getD, List.getElem?_eq_getElem (by omega)]
  exact List.getElem_mem _

def passRow (av : List Int) : List Int → List Int → List Int
  | s, [] => s
  | s, x :: q => passRow av (if x ∈ av ∨ x ∈ s then s else s ++ [x]) q
def walkG (g : List (List Int)) (av : List Int) : Nat → List Int → Nat → List Int
  | 0, s, _ => s
  | f + 1, s, i => if i < s.length then walkG g av f (passRow av s (rowG g (rd s i))) (i + 1) else s
theorem passRow_ok {n : Nat} (av : List Int) : ∀ (q s : List Int), OkS n s → (∀ x ∈ q, 0 ≤ x ∧ x < n) → OkS n (passRow av s q) ∧ s.length ≤ (passRow av s q).length
  | [], s, h, _ => ⟨h, Nat.le_refl _⟩
  | x :: q, s, h, hq => by
    rw [passRow]
    have hx := hq x (by simp)
    by_cases hc : x ∈ av ∨ x ∈ s
    · rw [if_pos hc]; exact passRow_ok av q s h (fun y hy => hq y (by simp [hy]))
    · rw [if_neg hc]
      have := passRow_ok av q (s ++ [x]) (h.snoc (fun e => hc (.inr e)) hx.1 hx.2) (fun y hy => hq y (by simp [hy]))
      simp only [List.length_append, List.length_singleton] at this
      exact ⟨this.1, by omega⟩
theorem walkG_ok {g : List (List Int)} (hg : GW g) (av : List Int) : ∀ (f : Nat) (s : List Int) (i : Nat), OkS g.length s → OkS g.length (walkG g av f s i)
  | 0, s, i, h => h
  | f + 1, s, i, h => by
    rw [walkG]
    by_cases hi : i < s.length
    · rw [if_pos hi]
      have hm := h.2 _ (rd_mem hi)
      exact walkG_ok hg av f _ _ (passRow_ok av _ _ h (hg.inn _ (rowG_mem hm.1 hm.2))).1
    · rw [if_neg hi]; exact h
/-- The marks of what lies in s. -/
def boolsG (n : Nat) (s : List Int) : List Bool := tab n (fun x => decide (x ∈ s))
theorem boolsG_rd {n : Nat} (s : List Int) {x : Int} (h0 : 0 ≤ x) (h1 : x < n) : rdOf false (boolsG n s) x = decide (x ∈ s) := tab_getD _ h0 h1 _
theorem boolsG_snoc (n : Nat) (s : List Int) {x : Int} (h0 : 0 ≤ x) : (boolsG n s).set x.toNat true = boolsG n (s ++ [x]) := by
  unfold boolsG
  rw [tab_set _ h0]
  refine tab_congr fun y _ _ => ?_
  by_cases h : y = x
  · rw [if_pos h]; simp [h]
  · rw [if_neg h]; simp [h]
theorem iPass_ev {g : List (List Int)} (hg : GW g) (av : List Int) (hl : av.length ≤ 1000) (row : List Int) (hrow : row.length ≤ 1048576) (hin : ∀ x ∈ row, 0 ≤ x ∧ x < g.length) (s : List Int) (hs : OkS g.length s) (i : Nat) (hi : i < s.length) {r : List Bool}
    (hnext : OkS g.length (passRow av s row) → s.length ≤ (passRow av s row).length → Ev (fun k => impl_reach.l0 k g av (boolsG g.length (passRow av s row)) ((passRow av s row).drop (i + 1))) r) :
    Ev (fun k => impl_reach.l1 k g av (boolsG g.length s) (s.drop i) row (row.length : Int) 0) r := by
  have main := Ev.rangeI row (fun k b j => impl_reach.l1 k g av (boolsG g.length b) (b.drop i) row (row.length : Int) j) (fun b p q => r) (fun b p => OkS g.length b ∧ s.length ≤ b.length ∧ ∀ q, row = p ++ q → passRow av s row = passRow av b q) (fun b hb => ?_) (fun b p x q e hb ih => ?_) s ⟨hs, Nat.le_refl _, fun q e => by rw [e]; rfl⟩
  · exact main
  · refine Ev.succ ?_
    simp only [impl_reach.l1]
    have := hb.2.2 [] (by simp)
    rw [passRow] at this
    rw [← this] at hb ⊢
    refine Ev.ite_neg (by omega) (Ev.ite_pos (by rw [List.length_drop]; omega) ?_)
    rw [List.drop_drop]
    exact hnext hb.1 hb.2.1
  · refine Ev.succ ?_
    simp only [impl_reach.l1]
    have hlen : p.length < row.length := by rw [e]; simp
    have hr : rd row (p.length : Int) = x := by rw [e]; exact rd_mid _ _ _
    have hx := hin x (by rw [e]; simp)
    have hle := hb.1.le
    have hhi := hg.hi
    refine Ev.ite_pos (by omega) (Ev.ite_pos (by omega) (Ev.ite_pos (by omega) ?_))
    rw [hr, wrap_succ (by omega)]
    have he := hb.2.2 (x :: q) e
    rw [passRow] at he
    refine Ev.ite_pos hx.1 (Ev.ite_pos (by unfold boolsG; rw [tab_length]; exact hx.2) ?_)
    rw [boolsG_rd b hx.1 hx.2]
    by_cases h2 : x ∈ b
    · refine Ev.ite_pos (by simpa using h2) (ih b ⟨hb.1, hb.2.1, fun q' e' => ?_⟩)
      rw [he, if_pos (.inr h2)]
      rw [e] at e'; simp at e'; rw [e']
    · refine Ev.ite_neg (by simpa using h2) (Ev.bind (contains_ev av x (by omega)) ?_)
      by_cases h1 : x ∈ av
      · refine Ev.ite_pos (by simpa using h1) (ih b ⟨hb.1, hb.2.1, fun q' e' => ?_⟩)
        rw [he, if_pos (.inl h1)]
        rw [e] at e'; simp at e'; rw [e']
      · have h3 : ¬ (x ∈ av ∨ x ∈ b) := fun h => h.elim h1 h2
        have h4 := ih (b ++ [x]) ⟨hb.1.snoc h2 hx.1 hx.2, by simp; omega, fun q' e' => by
          rw [he, if_neg h3]
          rw [e] at e'; simp at e'; rw [e']⟩
        refine Ev.ite_neg (by simpa using h1) (Ev.ite_pos (by rw [List.length_drop]; omega) ?_)
        rw [boolsG_snoc _ _ hx.1]
        rw [List.drop_append_of_le_length (by omega)] at h4
        exact h4
theorem iReach_l0 {g : List (List Int)} (hg : GW g) (av : List Int) (hl : av.length ≤ 1000) : ∀ (f : Nat) (s : List Int) (i : Nat), OkS g.length s → i ≤ s.length → i + f = g.length + 1 → Ev (fun k => impl_reach.l0 k g av (boolsG g.length s) (s.drop i)) (boolsG g.length (walkG g av f s i))
  | 0, s, i, h, hle, hi => by
    have := h.le
    omega
  | f + 1, s, i, h, hle, hi => by
    have := h.le
    have hhi := hg.hi
    refine Ev.succ ?_
    simp only [impl_reach.l0]
    rw [walkG]
    by_cases hc : i < s.length
    · rw [if_pos hc]
      have hm := h.2 _ (rd_mem hc)
      have hr := rowG_mem hm.1 hm.2
      have hd : rd (s.drop i) 0 = rd s i := by
        unfold rd
        simp [List.getD_eq_getElem?_getD, List.getElem?_drop]
      rw [hd]
      refine Ev.ite_pos (by rw [List.length_drop]; omega) (Ev.ite_pos (by rw [List.length_drop]; omega) (Ev.ite_pos hm.1 (Ev.ite_pos hm.2 ?_)))
      exact iPass_ev hg av hl (rowG g (rd s i)) (hg.row _ hr) (hg.inn _ hr) s h i hc fun h' hle' => iReach_l0 hg av hl f _ (i + 1) h' (by omega) (by omega)
    · rw [if_neg hc]
      exact Ev.ite_neg (by rw [List.length_drop]; omega) (Ev.some rfl)
theorem boolsG_nil (n : Nat) : List.replicate n false = boolsG n [] := by
  unfold boolsG
  rw [tab_rep]
  exact tab_congr fun x _ _ => by simp
/-- From any start, nothing left out. -/
theorem iReach1_ev {g : List (List Int)} (hg : GW g) (a : Int) (h0 : 0 ≤ a) (h1 : a < g.length) : Ev (fun k => impl_reach.f k g a []) (boolsG g.length (walkG g [] (g.length + 1) [a] 0)) := by
  have hhi := hg.hi
  unfold impl_reach.f
  refine Ev.ite_pos (by omega) (Ev.ite_pos (by omega) (Ev.bind (Ev.now _) (Ev.bind (contains_ev [] a (by simp)) ?_)))
  rw [Int.toNat_natCast, boolsG_nil]
  refine Ev.ite_neg (by simp) (Ev.ite_pos (by omega) (Ev.ite_pos (by unfold boolsG; rw [tab_length]; omega) ?_))
  rw [boolsG_snoc _ _ (by omega)]
  exact iReach_l0 hg [] (by simp) _ [a] 0 ⟨by simp, fun x hx => by rw [List.mem_singleton] at hx; omega⟩ (by simp) (by omega)

/-- What is reached from 0 by ways that leave out av. -/
def leftG (g : List (List Int)) (av : List Int) : List Int := if (0 : Int) ∈ av then [] else walkG g av (g.length + 1) [0] 0
theorem leftG_ok {g : List (List Int)} (hg : GG g) (av : List Int) : OkS g.length (leftG g av) := by
  have := hg.lo
  unfold leftG
  split
  · exact OkS.nil _
  · exact walkG_ok hg.toGW av _ _ _ ⟨by simp, fun x hx => by rw [List.mem_singleton] at hx; omega⟩
theorem sPass_ev {g : List (List Int)} (hg : GG g) (x1 : Int) (av : List Int) (hav : ∀ x, 0 ≤ x → (x = x1 ↔ x ∈ av)) (row : List Int) (hrow : row.length ≤ 1048576) (hin : ∀ x ∈ row, 0 ≤ x ∧ x < g.length) (s : List Int) (hs : OkS g.length s) (i : Int) {r : List Int}
    (hnext : OkS g.length (passRow av s row) → Ev (fun k => spec_l7Without.l0 k x1 (passRow av s row) (wrap64 (i + 1)) g) r) : Ev (fun k => spec_l7Without.l1 k x1 s i row (row.length : Int) 0 g) r := by
  have main := Ev.rangeI row (fun k s j => spec_l7Without.l1 k x1 s i row (row.length : Int) j g) (fun b p q => r) (fun b p => OkS g.length b ∧ ∀ q, row = p ++ q → passRow av s row = passRow av b q) (fun b hb => ?_) (fun b p x q e hb ih => ?_) s ⟨hs, fun q e => by rw [e]; rfl⟩
  · exact main
  · refine Ev.succ ?_
    simp only [spec_l7Without.l1]
    have := hb.2 [] (by simp)
    rw [passRow] at this
    rw [← this] at hb ⊢
    exact Ev.ite_neg (by omega) (hnext hb.1)
  · refine Ev.succ ?_
    simp only [spec_l7Without.l1]
    have hlen : p.length < row.length := by rw [e]; simp
    have hr : rd row (p.length : Int) = x := by rw [e]; exact rd_mid _ _ _
    have hx := hin x (by rw [e]; simp)
    have hle := hb.1.le
    have hhi := hg.hi
    refine Ev.ite_pos (by omega) (Ev.ite_pos (by omega) (Ev.ite_pos (by omega) ?_))
    rw [hr, wrap_succ (by omega)]
    have he := hb.2 (x :: q) e
    rw [passRow] at he
    by_cases h1 : x = x1
    · refine Ev.ite_pos h1 (ih b ⟨hb.1, fun q' e' => ?_⟩)
      rw [he, if_pos (.inl ((hav x hx.1).1 h1))]
      rw [e] at e'; simp at e'; rw [e']
    · refine Ev.ite_neg h1 (Ev.bind (l1Has_ev b x (by omega)) ?_)
      by_cases h2 : x ∈ b
      · refine Ev.ite_pos (by simpa using h2) (ih b ⟨hb.1, fun q' e' => ?_⟩)
        rw [he, if_pos (.inr h2)]
        rw [e] at e'; simp at e'; rw [e']
      · have h3 : ¬ (x ∈ av ∨ x ∈ b) := fun h => h.elim (fun h => h1 ((hav x hx.1).2 h)) h2
        refine Ev.ite_neg (by simpa using h2) (Ev.ite_pos (by omega) (ih (b ++ [x]) ⟨hb.1.snoc h2 hx.1 hx.2, fun q' e' => ?_⟩))
        rw [he, if_neg h3]
        rw [e] at e'; simp at e'; rw [e']
theorem sWithout_l0 {g : List (List Int)} (hg : GG g) (x1 : Int) (av : List Int) (hav : ∀ x, 0 ≤ x → (x = x1 ↔ x ∈ av)) : ∀ (f : Nat) (s : List Int) (i : Nat), OkS g.length s → i + f = g.length + 1 → Ev (fun k => spec_l7Without.l0 k x1 s (i : Int) g) (walkG g av f s i)
  | 0, s, i, h, hi => by
    have := h.le
    refine Ev.succ ?_
    simp only [spec_l7Without.l0]
    exact Ev.ite_neg (by omega) (Ev.some rfl)
  | f + 1, s, i, h, hi => by
    have := h.le
    have hhi := hg.hi
    refine Ev.succ ?_
    simp only [spec_l7Without.l0]
    rw [walkG]
    by_cases hc : i < s.length
    · rw [if_pos hc]
      have hm := h.2 _ (rd_mem hc)
      have hr := rowG_mem hm.1 hm.2
      refine Ev.ite_pos (by omega) (Ev.ite_pos (by omega) (Ev.ite_pos hm.1 (Ev.ite_pos hm.2 ?_)))
      refine sPass_ev hg x1 av hav (rowG g (rd s i)) (hg.row _ hr) (hg.inn _ hr) s h i fun h' => ?_
      rw [wrap_succ (by omega)]
      exact sWithout_l0 hg x1 av hav f _ (i + 1) h' (by omega)
    · rw [if_neg hc]
      exact Ev.ite_neg (by omega) (Ev.some rfl)
theorem sWithout_ev {g : List (List Int)} (hg : GG g) (x1 : Int) (av : List Int) (hav : ∀ x, 0 ≤ x → (x = x1 ↔ x ∈ av)) : Ev (fun k => spec_l7Without.f k g x1) (leftG g av) := by
  have hlo := hg.lo
  unfold spec_l7Without.f leftG
  by_cases h : x1 = 0
  · refine Ev.ite_pos h (Ev.some ?_)
    rw [if_pos ((hav 0 (by omega)).1 h.symm)]
  · rw [if_neg (fun e => h ((hav 0 (by omega)).2 e).symm)]
    exact Ev.ite_neg h (sWithout_l0 hg x1 av hav _ [0] 0 ⟨by simp, fun x hx => by rw [List.mem_singleton] at hx; omega⟩ (by omega))
theorem iReach_ev {g : List (List Int)} (hg : GG g) (av : List Int) (hl : av.length ≤ 1000) : Ev (fun k => impl_reach.f k g 0 av) (boolsG g.length (leftG g av)) := by
  have hlo := hg.lo
  have hhi := hg.hi
  unfold impl_reach.f leftG
  refine Ev.ite_pos (by omega) (Ev.ite_pos (by omega) (Ev.bind (Ev.now _) (Ev.bind (contains_ev av 0 (by omega)) ?_)))
  rw [Int.toNat_natCast]
  rw [boolsG_nil]
  by_cases h : (0 : Int) ∈ av
  · rw [if_pos h]
    exact Ev.ite_pos (by simpa using h) (Ev.some rfl)
  · rw [if_neg h]
    refine Ev.ite_neg (by simpa using h) (Ev.ite_pos (by omega) (Ev.ite_pos (by unfold boolsG; rw [tab_length]; omega) ?_))
    rw [boolsG_snoc _ _ (by omega)]
    exact iReach_l0 hg.toGW av hl _ [0] 0 ⟨by simp, fun x hx => by rw [List.mem_singleton] at hx; omega⟩ (by simp) (by omega)

/-- A way along a relation. -/
inductive Star (R : Int → Int → Prop) : Int → Int → Prop
  | refl (a : Int) : Star R a a
  | step {a b c : Int} : R a b → Star R b c → Star R a c
theorem Star.snoc {R : Int → Int → Prop} {a b c : Int} (h : Star R a b) (hr : R b c) : Star R a c := by
  induction h with
  | refl a => exact .step hr (.refl _)
  | step h1 _ ih => exact .step h1 (ih hr)
theorem Star.trans {R : Int → Int → Prop} {a b c : Int} (h : Star R a b) (h2 : Star R b c) : Star R a c := by
  induction h with
  | refl a => exact h2
  | step h1 _ ih => exact .step h1 (ih h2)
/-- One edge that leaves out av. -/
def stepG (g : List (List Int)) (av : List Int) (y x : Int) : Prop := x ∈ rowG g y ∧ x ∉ av
theorem passRow_tail (av : List Int) : ∀ q s : List Int, ∃ t, passRow av s q = s ++ t
  | [], s => ⟨[], by simp [passRow]⟩
  | x :: q, s => by
    rw [passRow]
    by_cases h : x ∈ av ∨ x ∈ s
    · rw [if_pos h]; exact passRow_tail av q s
    · rw [if_neg h]
      obtain ⟨t, ht⟩ := passRow_tail av q (s ++ [x])
      exact ⟨x :: t, by rw [ht]; simp⟩
theorem passRow_mem (av : List Int) (y : Int) : ∀ q s : List Int, y ∈ passRow av s q ↔ y ∈ s ∨ (y ∈ q ∧ y ∉ av)
  | [], s => by simp [passRow]
  | x :: q, s => by
    rw [passRow, passRow_mem av y q]
    by_cases h : x ∈ av ∨ x ∈ s
    · rw [if_pos h]
      constructor
      · rintro (h1 | h1)
        · exact .inl h1
        · exact .inr ⟨by simp [h1.1], h1.2⟩
      · rintro (h1 | ⟨h1, h2⟩)
        · exact .inl h1
        · rcases List.mem_cons.1 h1 with rfl | h1
          · exact .inl (h.resolve_left h2)
          · exact .inr ⟨h1, h2⟩
    · rw [if_neg h]
      constructor
      · rintro (h1 | h1)
        · rcases List.mem_append.1 h1 with h1 | h1
          · exact .inl h1
          · rw [List.mem_singleton] at h1
            subst h1
            exact .inr ⟨by simp, fun e => h (.inl e)⟩
        · exact .inr ⟨by simp [h1.1], h1.2⟩
      · rintro (h1 | ⟨h1, h2⟩)
        · exact .inl (by simp [h1])
        · rcases List.mem_cons.1 h1 with rfl | h1
          · exact .inl (by simp)
          · exact .inr ⟨h1, h2⟩
theorem walkG_sup (g : List (List Int)) (av : List Int) : ∀ (f : Nat) (s : List Int) (i : Nat), ∀ y ∈ s, y ∈ walkG g av f s i
  | 0, s, i, y, hy => hy
  | f + 1, s, i, y, hy => by
    rw [walkG]
    split
    · exact walkG_sup g av f _ _ y ((passRow_mem av y _ s).2 (.inl hy))
    · exact hy
theorem walkG_sound (g : List (List Int)) (av : List Int) (a : Int) : ∀ (f : Nat) (s : List Int) (i : Nat), (∀ y ∈ s, Star (stepG g av) a y) → ∀ y ∈ walkG g av f s i, Star (stepG g av) a y
  | 0, s, i, h, y, hy => h y hy
  | f + 1, s, i, h, y, hy => by
    rw [walkG] at hy
    split at hy
    · rename_i hi
      refine walkG_sound g av a f _ _ (fun z hz => ?_) y hy
      rcases (passRow_mem av z _ s).1 hz with hz | hz
      · exact h z hz
      · exact (h _ (rd_mem hi)).snoc hz
    · exact h y hy
theorem rd_app {s : List Int} (t : List Int) {j : Nat} (h : j < s.length) : rd (s ++ t) (j : Int) = rd s j := by
  unfold rd
  rw [Int.toNat_natCast, List.getD_eq_getElem?_getD, List.getD_eq_getElem?_getD, List.getElem?_append_left h]
theorem rd_of_mem {s : List Int} {y : Int} (h : y ∈ s) : ∃ j : Nat, j < s.length ∧ rd s (j : Int) = y := by
  obtain ⟨j, hj, rfl⟩ := List.mem_iff_getElem.1 h
  exact ⟨j, hj, by unfold rd; rw [Int.toNat_natCast, List.getD_eq_getElem?_getD, List.getElem?_eq_getElem hj]; rfl⟩
theorem walkG_closed {g : List (List Int)} (hg : GW g) (av : List Int) : ∀ (f : Nat) (s : List Int) (i : Nat), OkS g.length s → i + f = g.length + 1 → (∀ j : Nat, j < i → j < s.length → ∀ x, stepG g av (rd s j) x → x ∈ s) →
    ∀ y ∈ walkG g av f s i, ∀ x, stepG g av y x → x ∈ walkG g av f s i
  | 0, s, i, h, hi, hc, y, hy, x, hx => by
    have := h.le
    rw [walkG] at hy ⊢
    obtain ⟨j, hj, rfl⟩ := rd_of_mem hy
    exact hc j (by omega) hj x hx
  | f + 1, s, i, h, hi, hc, y, hy, x, hx => by
    rw [walkG] at hy ⊢
    by_cases h1 : i < s.length
    · rw [if_pos h1] at hy ⊢
      have hm := h.2 _ (rd_mem h1)
      refine walkG_closed hg av f _ (i + 1) (passRow_ok av _ _ h (hg.inn _ (rowG_mem hm.1 hm.2))).1 (by omega) (fun j hj hj2 z hz => ?_) y hy x hx
      obtain ⟨t, ht⟩ := passRow_tail av (rowG g (rd s i)) s
      have hjs : j < s.length := by omega
      rw [ht, rd_app t hjs] at hz
      by_cases h2 : j < i
      · exact (passRow_mem av z _ s).2 (.inl (hc j h2 hjs z hz))
      · have : j = i := by omega
        subst this
        exact (passRow_mem av z _ s).2 (.inr hz)
    · rw [if_neg h1] at hy ⊢
      obtain ⟨j, hj, rfl⟩ := rd_of_mem hy
      exact hc j (by omega) hj x hx
/-- What the walk from a comes to. -/
theorem walkG_iff {g : List (List Int)} (hg : GW g) (av : List Int) {a : Int} (h0 : 0 ≤ a) (h1 : a < g.length) (y : Int) : y ∈ walkG g av (g.length + 1) [a] 0 ↔ Star (stepG g av) a y := by
  have hok : OkS g.length [a] := ⟨by simp, fun x hx => by rw [List.mem_singleton] at hx; omega⟩
  constructor
  · refine walkG_sound g av a _ [a] 0 (fun z hz => ?_) y
    rw [List.mem_singleton] at hz
    subst hz
    exact .refl _
  · intro h
    have main : ∀ b c, Star (stepG g av) b c → b ∈ walkG g av (g.length + 1) [a] 0 → c ∈ walkG g av (g.length + 1) [a] 0 := by
      intro b c h
      induction h with
      | refl b => exact fun h => h
      | step h1 _ ih => exact fun hb => ih (walkG_closed hg av _ [a] 0 hok (by omega) (fun j hj => by omega) _ hb _ h1)
    exact main a y h (walkG_sup g av _ [a] 0 a (by simp))
theorem leftG_iff {g : List (List Int)} (hg : GG g) {av : List Int} (h : (0 : Int) ∉ av) (y : Int) : y ∈ leftG g av ↔ Star (stepG g av) 0 y := by
  have := hg.lo
  unfold leftG
  rw [if_neg h]
  exact walkG_iff hg.toGW av (by omega) (by omega) y

/-- Whether d dominates b. -/
def domB (g : List (List Int)) (d b : Int) : Bool := decide (d ∈ leftG g []) && (decide (b ∈ leftG g []) && !decide (b ∈ leftG g [d]))
/-- Who dominates b, of those below m. -/
def domL (g : List (List Int)) (m : Nat) (b : Int) : List Int := (upto m).filter (fun d => domB g d b)
theorem domL_lt {g : List (List Int)} {m : Nat} {b x : Int} (h : x ∈ domL g m b) : 0 ≤ x ∧ x < m := upto_mem.1 (List.mem_filter.1 h).1
theorem domL_len (g : List (List Int)) (m : Nat) (b : Int) : (domL g m b).length ≤ m := by
  have := List.length_filter_le (fun d => domB g d b) (upto m)
  rw [upto_length] at this
  exact this
theorem domL_mem {g : List (List Int)} {m : Nat} {b x : Int} (h0 : 0 ≤ x) (h1 : x < m) : decide (x ∈ domL g m b) = domB g x b := by
  rw [Bool.eq_iff_iff, decide_eq_true_iff, domL, List.mem_filter, upto_mem]
  exact ⟨fun h => h.2, fun h => ⟨⟨h0, h1⟩, h⟩⟩
theorem l1Put_last (l : List Int) (x : Int) (hl : l.length ≤ 1000) (h : ∀ y ∈ l, y < x) : Ev (fun k => spec_l1Put.f k l x) (l ++ [x]) := by
  unfold spec_l1Put.f
  refine Ev.rangeP l (fun k (_ : Unit) i => spec_l1Put.l0 k l x i) (fun _ _ _ => l ++ [x]) (fun _ => ?_) (fun _ p y q e ih => ?_) ()
  · refine Ev.succ ?_
    simp only [spec_l1Put.l0]
    refine Ev.ite_neg (by omega) (Ev.ite_pos (by omega) (Ev.ite_pos (by omega) ?_))
    rw [Int.toNat_natCast, List.take_length, List.drop_length]
    refine Ev.bind (Ev.now _) (Ev.ite_pos (by simp; omega) (Ev.bind (Ev.now _) (Ev.ite_pos (by simp; omega) (Ev.bind (Ev.now _) (Ev.bind (Ev.now _) (Ev.ite_pos (by simp; omega) (Ev.some ?_)))))))
    simp
  · refine Ev.succ ?_
    simp only [spec_l1Put.l0]
    have hlen : p.length < l.length := by rw [e]; simp
    have hr : rd l (p.length : Int) = y := by rw [e]; exact rd_mid _ _ _
    have hy := h y (by rw [e]; simp)
    refine Ev.ite_pos (by omega) (Ev.ite_pos (by omega) (Ev.ite_pos (by omega) ?_))
    rw [wrap_succ (by omega)]
    exact ih ()
/-- One round of the outer loop of the reference's. -/
theorem sDomRow_ev {g : List (List Int)} (hg : GG g) (m : Nat) (hm : m < g.length) {r : List (List Int)}
    (hnext : Ev (fun k => spec_l7Dominators.l0 k g (leftG g []) (tab g.length (domL g (m + 1))) ((m : Int) + 1)) r) :
    Ev (fun k => spec_l7Dominators.l1 k g (leftG g []) (leftG g [(m : Int)]) (tab g.length (domL g m)) (m : Int) 0) r := by
  have hok := leftG_ok hg []
  have hle := hok.le
  have hle2 := (leftG_ok hg [(m : Int)]).le
  have hhi := hg.hi
  have main := Ev.rangeI (leftG g []) (fun k x i => spec_l7Dominators.l1 k g (leftG g []) (leftG g [(m : Int)]) x (m : Int) i) (fun _ _ _ => r) (fun x p => x = tab g.length (fun b : Int => domL g m b ++ (if b ∈ p ∧ domB g m b = true then [(m : Int)] else []))) (fun x hx => ?_) (fun x p y q e hx ih => ?_) (tab g.length (domL g m)) (tab_congr fun b _ _ => by simp)
  · exact main
  · refine Ev.succ ?_
    simp only [spec_l7Dominators.l1]
    refine Ev.ite_neg (by omega) ?_
    rw [wrap_succ (by omega), hx]
    refine Ev.cast ?_ rfl
    have e : tab g.length (fun b : Int => domL g m b ++ (if b ∈ leftG g [] ∧ domB g m b = true then [(m : Int)] else [])) = tab g.length (domL g (m + 1)) := by
      refine tab_congr fun b _ _ => ?_
      unfold domL
      rw [filter_upto_succ]
      congr 1
      by_cases h : domB g m b = true
      · have : b ∈ leftG g [] := by
          unfold domB at h
          simp only [Bool.and_eq_true, decide_eq_true_iff] at h
          exact h.2.1
        rw [if_pos h, if_pos ⟨this, h⟩]
      · rw [if_neg h, if_neg (fun h' => h h'.2)]
    rw [e]
    exact hnext
  · refine Ev.succ ?_
    simp only [spec_l7Dominators.l1]
    have hlen : p.length < (leftG g []).length := by rw [e]; simp
    have hr : rd (leftG g []) (p.length : Int) = y := by rw [e]; exact rd_mid _ _ _
    have hy : y ∈ leftG g [] := by rw [e]; simp
    have hyn := hok.2 y hy
    have hyp : y ∉ p := by
      have := hok.1
      rw [e, List.nodup_append] at this
      exact fun h => this.2.2 y h y (by simp) rfl
    have same : domB g m y = false → x = tab g.length (fun b : Int => domL g m b ++ (if b ∈ p ++ [y] ∧ domB g m b = true then [(m : Int)] else [])) := fun hf => by
      rw [hx]
      refine tab_congr fun b _ _ => ?_
      by_cases hb : b = y
      · subst hb; simp [hf]
      · simp [hb]
    refine Ev.ite_pos (by omega) (Ev.ite_pos (by omega) (Ev.bind (l1Has_ev _ _ (by omega)) ?_))
    rw [hr, wrap_succ (by omega)]
    by_cases h1 : (m : Int) ∈ leftG g []
    · refine Ev.ite_pos (by simpa using h1) (Ev.bind (l1Has_ev _ _ (by omega)) ?_)
      by_cases h2 : y ∈ leftG g [(m : Int)]
      · refine Ev.ite_pos (by simpa using h2) (ih x (same (by unfold domB; simp [h2])))
      · have hd : domB g m y = true := by unfold domB; simp [h1, h2, hy]
        refine Ev.ite_neg (by simpa using h2) (Ev.ite_pos hyn.1 (Ev.ite_pos (by rw [hx, tab_length]; exact hyn.2) ?_))
        have hg0 : x.getD y.toNat [] = domL g m y := by
          rw [hx, tab_getD _ hyn.1 hyn.2]
          simp [hyp]
        rw [hg0]
        refine Ev.bind (l1Put_last _ _ (by have := domL_len g m y; omega) (fun z hz => (domL_lt hz).2)) (ih _ ?_)
        rw [hx, tab_set _ hyn.1]
        refine tab_congr fun b _ _ => ?_
        by_cases hb : b = y
        · subst hb; simp [hd]
        · simp [hb]
    · refine Ev.ite_neg (by simpa using h1) (ih x (same (by unfold domB; simp [h1])))
theorem sDoms_ev {g : List (List Int)} (hg : GG g) : Ev (fun k => spec_l7Dominators.f k g) (tab g.length (domL g g.length)) := by
  have hhi := hg.hi
  unfold spec_l7Dominators.f
  refine Ev.ite_pos (by omega) (Ev.bind (sWithout_ev hg (-1) [] (fun x h => by simp; omega)) ?_)
  have e0 : List.replicate g.length ([] : List Int) = tab g.length (domL g 0) := by rw [tab_rep]; exact tab_congr fun x _ _ => by simp [domL, upto_zero]
  rw [e0]
  refine Ev.count g.length (fun k x d => spec_l7Dominators.l0 k g (leftG g []) x d) (fun m => tab g.length (domL g m)) _ ?_ (fun m hm ih => ?_)
  · refine Ev.succ ?_
    simp only [spec_l7Dominators.l0]
    exact Ev.ite_neg (by omega) (Ev.some rfl)
  · refine Ev.succ ?_
    simp only [spec_l7Dominators.l0]
    refine Ev.ite_pos (by omega) (Ev.bind (sWithout_ev hg (m : Int) [(m : Int)] (fun x h => by simp)) ?_)
    exact sDomRow_ev hg m hm ih
/-- The program's marks, of those below m. -/
def domT (g : List (List Int)) (m : Nat) (b : Int) : List Bool := tab g.length (fun d => decide (d < m) && domB g d b)
theorem iDomRow_ev {g : List (List Int)} (hg : GG g) (m : Nat) (hm : m < g.length) (h1 : (m : Int) ∈ leftG g []) {r : List (List Bool)}
    (hnext : Ev (fun k => impl_dominators.l1 k g (boolsG g.length (leftG g [])) (tab g.length (domT g (m + 1))) ((m : Int) + 1)) r) :
    Ev (fun k => impl_dominators.l2 k g (boolsG g.length (leftG g [])) (boolsG g.length (leftG g [(m : Int)])) (tab g.length (domT g m)) (m : Int) 0) r := by
  have hhi := hg.hi
  have e0 : tab g.length (domT g m) = tab g.length (fun b : Int => tab g.length (fun d : Int => (decide (d < m) || (decide (d = m) && decide (b < ((0 : Nat) : Int)))) && domB g d b)) := by
    refine tab_congr fun b h _ => tab_congr fun d _ _ => ?_
    have : decide (b < ((0 : Nat) : Int)) = false := decide_eq_false (by omega)
    rw [this]; simp
  rw [e0]
  refine Ev.count g.length (fun k x b => impl_dominators.l2 k g (boolsG g.length (leftG g [])) (boolsG g.length (leftG g [(m : Int)])) x (m : Int) b) (fun j => tab g.length (fun b : Int => tab g.length (fun d : Int => (decide (d < m) || (decide (d = m) && decide (b < (j : Int)))) && domB g d b))) _ ?_ (fun j hj ih => ?_)
  · refine Ev.succ ?_
    simp only [impl_dominators.l2]
    refine Ev.ite_neg (by omega) ?_
    rw [wrap_succ (by omega)]
    refine Ev.cast ?_ rfl
    rw [show tab g.length (fun b : Int => tab g.length (fun d : Int => (decide (d < m) || (decide (d = m) && decide (b < (g.length : Int)))) && domB g d b)) = tab g.length (domT g (m + 1)) from ?_]
    · exact hnext
    · refine tab_congr fun b _ hb => tab_congr fun d _ _ => ?_
      have h2 : decide (b < (g.length : Int)) = true := decide_eq_true hb
      rw [h2, Bool.and_true]
      congr 1
      rw [Bool.eq_iff_iff]; simp; omega
  · refine Ev.succ ?_
    simp only [impl_dominators.l2]
    refine Ev.ite_pos (by omega) (Ev.ite_pos (by omega) (Ev.ite_pos (by unfold boolsG; rw [tab_length]; omega) (Ev.ite_pos (by unfold boolsG; rw [tab_length]; omega) ?_)))
    rw [boolsG_rd _ (by omega) (by omega), boolsG_rd _ (by omega) (by omega), tab_getD _ (by omega) (by omega)]
    refine Ev.ite_pos (by rw [tab_length]; omega) ?_
    rw [wrap_succ (by omega), tab_set _ (by omega), tab_set _ (by omega)]
    refine Ev.cast ?_ rfl
    rw [show tab g.length (fun b : Int => if b = (j : Int) then tab g.length (fun d : Int => if d = (m : Int) then decide ((j : Int) ∈ leftG g []) && !decide ((j : Int) ∈ leftG g [(m : Int)]) else (decide (d < m) || (decide (d = m) && decide ((j : Int) < (j : Int)))) && domB g d j) else tab g.length (fun d : Int => (decide (d < m) || (decide (d = m) && decide (b < (j : Int)))) && domB g d b)) = tab g.length (fun b : Int => tab g.length (fun d : Int => (decide (d < m) || (decide (d = m) && decide (b < ((j + 1 : Nat) : Int)))) && domB g d b)) from ?_]
    · exact ih
    · refine tab_congr fun b _ _ => ?_
      by_cases hb : b = j
      · rw [if_pos hb]
        subst hb
        refine tab_congr fun d _ _ => ?_
        by_cases hd : d = m
        · subst hd
          have h3 : decide ((j : Int) < ((j + 1 : Nat) : Int)) = true := decide_eq_true (by omega)
          rw [if_pos rfl, h3]
          unfold domB
          simp [h1]
        · rw [if_neg hd]; simp [hd]
      · rw [if_neg hb]
        refine tab_congr fun d _ _ => ?_
        have h3 : decide (b < ((j + 1 : Nat) : Int)) = decide (b < (j : Int)) := by rw [Bool.eq_iff_iff]; simp; omega
        rw [h3]
theorem iDoms_ev {g : List (List Int)} (hg : GG g) : Ev (fun k => impl_dominators.f k g) (tab g.length (fun b => tab g.length (fun d => domB g d b))) := by
  have hhi := hg.hi
  unfold impl_dominators.f
  refine Ev.ite_pos (by omega) (Ev.bind (iReach_ev hg [] (by simp)) ?_)
  have e1 : tab g.length (fun b => tab g.length (fun d => domB g d b)) = tab g.length (domT g g.length) := by
    refine tab_congr fun b _ _ => tab_congr fun d _ hd => ?_
    rw [decide_eq_true (by omega), Bool.true_and]
  have e2 : tab g.length (fun b : Int => if b < ((g.length : Nat) : Int) then List.replicate g.length false else []) = tab g.length (domT g 0) := by
    refine tab_congr fun b _ hb => ?_
    rw [if_pos hb, tab_rep]
    refine tab_congr fun d h _ => ?_
    rw [decide_eq_false (by omega), Bool.false_and]
  have e3 : List.replicate g.length ([] : List Bool) = tab g.length (fun b : Int => if b < ((0 : Nat) : Int) then List.replicate g.length false else []) := by
    rw [tab_rep]
    exact tab_congr fun b h _ => by rw [if_neg (by omega)]
  rw [e3, e1]
  refine Ev.count g.length (fun k x i => impl_dominators.l0 k g (boolsG g.length (leftG g [])) x i) (fun m => tab g.length (fun b : Int => if b < (m : Int) then List.replicate g.length false else [])) _ ?_ (fun m hm ih => ?_)
  · refine Ev.succ ?_
    simp only [impl_dominators.l0]
    refine Ev.ite_neg (by omega) ?_
    rw [e2]
    refine Ev.count g.length (fun k x i => impl_dominators.l1 k g (boolsG g.length (leftG g [])) x i) (fun m => tab g.length (domT g m)) _ ?_ (fun m hm ih => ?_)
    · refine Ev.succ ?_
      simp only [impl_dominators.l1]
      exact Ev.ite_neg (by unfold boolsG; rw [tab_length]; omega) (Ev.some rfl)
    · refine Ev.succ ?_
      simp only [impl_dominators.l1]
      refine Ev.ite_pos (by unfold boolsG; rw [tab_length]; omega) (Ev.ite_pos (by omega) ?_)
      rw [boolsG_rd _ (by omega) (by omega)]
      by_cases h1 : (m : Int) ∈ leftG g []
      · refine Ev.ite_pos (by simpa using h1) (Ev.bind (iReach_ev hg [(m : Int)] (by simp)) ?_)
        exact iDomRow_ev hg m hm h1 ih
      · refine Ev.ite_neg (by simpa using h1) ?_
        rw [wrap_succ (by omega)]
        rw [show tab g.length (domT g m) = tab g.length (domT g (m + 1)) from ?_]
        · exact ih
        · refine tab_congr fun b _ _ => tab_congr fun d _ _ => ?_
          by_cases hd : d = m
          · subst hd; unfold domB; simp [h1]
          · congr 1
            rw [Bool.eq_iff_iff]; simp; omega
  · refine Ev.succ ?_
    simp only [impl_dominators.l0]
    refine Ev.ite_pos (by omega) (Ev.ite_pos (by omega) ?_)
    rw [wrap_succ (by omega), tab_set _ (by omega)]
    rw [show tab g.length (fun b : Int => if b = (m : Int) then List.replicate g.length false else if b < (m : Int) then List.replicate g.length false else []) = tab g.length (fun b : Int => if b < ((m + 1 : Nat) : Int) then List.replicate g.length false else []) from ?_]
    · exact ih
    · refine tab_congr fun b _ _ => ?_
      by_cases hb : b = m
      · rw [if_pos hb, if_pos (by omega)]
      · rw [if_neg hb]
        by_cases h : b < (m : Int)
        · rw [if_pos h, if_pos (by omega)]
        · rw [if_neg h, if_neg (by omega)]
theorem listOf_ev (n : Nat) (hn : n ≤ 1000000) (B : Int → Bool) : Ev (fun k => impl_listOf.f k (tab n B)) ((upto n).filter B) := by
  unfold impl_listOf.f
  rw [tab_length]
  refine Ev.count n (fun k x i => impl_listOf.l0 k x (tab n B) (n : Int) i) (fun m => (upto m).filter B) _ ?_ (fun m hm ih => ?_)
  · refine Ev.succ ?_
    simp only [impl_listOf.l0]
    exact Ev.ite_neg (by omega) (Ev.some rfl)
  · refine Ev.succ ?_
    simp only [impl_listOf.l0]
    have hl := List.length_filter_le B (upto m)
    rw [upto_length] at hl
    refine Ev.ite_pos (by omega) (Ev.ite_pos (by omega) (Ev.ite_pos (by rw [tab_length]; omega) ?_))
    rw [show rdOf false (tab n B) (m : Int) = B m from tab_getD _ (by omega) (by omega) _, wrap_succ (by omega)]
    rw [filter_upto_succ] at ih
    cases hB : B m with
    | true =>
      rw [hB, if_pos rfl] at ih
      exact Ev.ite_pos rfl (Ev.ite_pos (by omega) ih)
    | false =>
      rw [hB, if_neg (by simp), List.append_nil] at ih
      exact Ev.ite_neg (by simp) ih

theorem risesL_pair (n : Int) : ∀ (q p : List Int), risesL n p q = true → (∀ y, p.getLast? = some y → ∀ x ∈ q, y < x) ∧ q.Pairwise (· < ·)
  | [], _, _ => by simp
  | z :: q, p, h => by
    rw [risesL, Bool.and_eq_true, Bool.and_eq_true] at h
    have ih := risesL_pair n q (p ++ [z]) h.2.2
    have hz := ih.1 z (by simp)
    refine ⟨fun y hy x hx => ?_, List.pairwise_cons.2 ⟨hz, ih.2⟩⟩
    have h2 := h.2.1
    rw [hy] at h2
    have h3 : y < z := by simpa using h2
    rcases List.mem_cons.1 hx with rfl | hx
    · exact h3
    · have := hz x hx; omega
theorem rise_nodup {q : List Int} (h : q.Pairwise (· < ·)) : q.Nodup := h.imp (fun hab e => by omega)
theorem GG.ok {g : List (List Int)} (hg : GG g) {r : List Int} (hr : r ∈ g) : OkS g.length r := ⟨rise_nodup (risesL_pair _ r [] (hg.rise r hr)).2, hg.inn r hr⟩

/-- The goals of k by edges that do not lead back. -/
def fwd (g : List (List Int)) (k : Int) : List Int := (rowG g k).filter (fun x => !domB g x k)
def nxG (g : List (List Int)) : List (List Int) := tab g.length (fwd g)
def downG (g : List (List Int)) (a : Int) : List Int := walkG (nxG g) [] (g.length + 1) [a] 0
/-- Whether a way leads round. -/
def cycB (g : List (List Int)) : Bool := ((upto g.length).filter (fun k => decide (k ∈ leftG g []))).any fun k => (fwd g k).any fun x => decide (k ∈ downG g x)
theorem nxG_row {g : List (List Int)} {k : Int} (h0 : 0 ≤ k) (h1 : k < g.length) : rowG (nxG g) k = fwd g k := tab_getD _ h0 h1 _
theorem fwd_in {g : List (List Int)} (hg : GG g) {k x : Int} (h0 : 0 ≤ k) (h1 : k < g.length) (hx : x ∈ fwd g k) : 0 ≤ x ∧ x < g.length := hg.inn _ (rowG_mem h0 h1) x (List.mem_filter.1 hx).1
theorem fwd_len {g : List (List Int)} (hg : GG g) {k : Int} (h0 : 0 ≤ k) (h1 : k < g.length) : (fwd g k).length ≤ 12 := by
  have h := (hg.ok (rowG_mem h0 h1)).le
  have := hg.hi
  have h2 := List.length_filter_le (fun x => !domB g x k) (rowG g k)
  unfold fwd; omega
theorem nxG_len (g : List (List Int)) : (nxG g).length = g.length := tab_length _ _
theorem nxG_ok {g : List (List Int)} (hg : GG g) : GW (nxG g) := by
  refine ⟨by rw [nxG_len]; exact hg.lo, by rw [nxG_len]; exact hg.hi, fun r hr => ?_, fun r hr x hx => ?_⟩
  · obtain ⟨k, h0, h1, rfl⟩ := tab_mem.1 hr
    have := fwd_len hg h0 h1; omega
  · obtain ⟨k, h0, h1, rfl⟩ := tab_mem.1 hr
    rw [nxG_len]
    exact fwd_in hg h0 h1 hx
theorem downG_iff {g : List (List Int)} (hg : GG g) {a : Int} (h0 : 0 ≤ a) (h1 : a < g.length) (y : Int) : y ∈ downG g a ↔ Star (stepG (nxG g) []) a y := by
  have := walkG_iff (nxG_ok hg) [] h0 (by rw [nxG_len]; exact h1) y
  rw [nxG_len] at this
  exact this
theorem downG_ok {g : List (List Int)} (hg : GG g) {a : Int} (h0 : 0 ≤ a) (h1 : a < g.length) : OkS g.length (downG g a) := by
  have := walkG_ok (nxG_ok hg) [] (g.length + 1) [a] 0 ⟨by simp, fun x hx => by rw [List.mem_singleton] at hx; rw [nxG_len]; omega⟩
  rwa [nxG_len] at this
theorem cycB_iff {g : List (List Int)} (hg : GG g) : cycB g = true ↔ ∃ k ∈ leftG g [], ∃ x ∈ fwd g k, k ∈ downG g x := by
  unfold cycB
  rw [List.any_eq_true]
  constructor
  · rintro ⟨k, hk, h⟩
    rw [List.any_eq_true] at h
    obtain ⟨x, hx, h⟩ := h
    exact ⟨k, by simpa using (List.mem_filter.1 hk).2, x, hx, by simpa using h⟩
  · rintro ⟨k, hk, x, hx, h⟩
    refine ⟨k, List.mem_filter.2 ⟨upto_mem.2 ((leftG_ok hg []).2 k hk), by simpa using hk⟩, ?_⟩
    rw [List.any_eq_true]
    exact ⟨x, hx, by simpa using h⟩
/-- The program's way. -/
theorem iNext_ev {g : List (List Int)} (hg : GG g) (m : Nat) (hm : m < g.length) {r : Bool}
    (hnext : Ev (fun k => impl_Graph_reducible.l0 k g (tab g.length (fun b : Int => tab g.length (fun d : Int => domB g d b))) (tab g.length (fun b : Int => if b < ((m + 1 : Nat) : Int) then fwd g b else [])) ((m : Int) + 1)) r) :
    Ev (fun k => impl_Graph_reducible.l1 k g (tab g.length (fun b : Int => tab g.length (fun d : Int => domB g d b))) (tab g.length (fun b : Int => if b < (m : Int) then fwd g b else [])) (m : Int) (rowG g m) 0) r := by
  have hhi := hg.hi
  have hr := rowG_mem (g := g) (x := m) (by omega) (by omega)
  have hrow := hg.row _ hr
  have hin := hg.inn _ hr
  have hfw : fwd g m = (rowG g m).filter (fun x => !domB g x m) := rfl
  generalize rowG g m = row at hrow hin hfw ⊢
  have main := Ev.rangeI row (fun k x j => impl_Graph_reducible.l1 k g (tab g.length (fun b : Int => tab g.length (fun d : Int => domB g d b))) x (m : Int) row j) (fun _ _ _ => r) (fun x p => x = tab g.length (fun b : Int => if b = (m : Int) then p.filter (fun x => !domB g x m) else if b < (m : Int) then fwd g b else [])) (fun x hx => ?_) (fun x p y q e hx ih2 => ?_) (tab g.length (fun b : Int => if b < (m : Int) then fwd g b else [])) (tab_congr fun b _ _ => ?_)
  · exact main
  · refine Ev.succ ?_
    simp only [impl_Graph_reducible.l1]
    refine Ev.ite_neg (by omega) ?_
    rw [wrap_succ (by omega), hx]
    rw [show tab g.length (fun b : Int => if b = (m : Int) then row.filter (fun x => !domB g x m) else if b < (m : Int) then fwd g b else []) = tab g.length (fun b : Int => if b < ((m + 1 : Nat) : Int) then fwd g b else []) from ?_]
    · exact hnext
    · refine tab_congr fun b _ _ => ?_
      by_cases hb : b = m
      · rw [if_pos hb, if_pos (by omega), hb, hfw]
      · rw [if_neg hb]
        by_cases h : b < (m : Int)
        · rw [if_pos h, if_pos (by omega)]
        · rw [if_neg h, if_neg (by omega)]
  · refine Ev.succ ?_
    simp only [impl_Graph_reducible.l1]
    have hlen : p.length < row.length := by rw [e]; simp
    have hrd : rd row (p.length : Int) = y := by rw [e]; exact rd_mid _ _ _
    have hy := hin y (by rw [e]; simp)
    have hpl := List.length_filter_le (fun x => !domB g x m) p
    refine Ev.ite_pos (by omega) (Ev.ite_pos (by omega) (Ev.ite_pos (by rw [tab_length]; omega) ?_))
    rw [hrd, tab_getD _ (by omega) (by omega)]
    refine Ev.ite_pos hy.1 (Ev.ite_pos (by rw [tab_length]; exact hy.2) ?_)
    rw [show rdOf false (tab g.length (fun d : Int => domB g d m)) y = domB g y m from tab_getD _ hy.1 hy.2 _, wrap_succ (by omega)]
    by_cases hd : domB g y m = true
    · refine Ev.ite_pos hd (ih2 _ ?_)
      rw [hx]
      refine tab_congr fun b _ _ => ?_
      rw [List.filter_append]
      simp [hd]
    · have hg0 : x.getD (m : Int).toNat [] = p.filter (fun x => !domB g x m) := by
        rw [hx, tab_getD _ (by omega) (by omega), if_pos rfl]
      refine Ev.ite_neg hd (Ev.ite_pos (by rw [hx, tab_length]; omega) ?_)
      rw [hg0]
      refine Ev.ite_pos (by omega) (ih2 _ ?_)
      rw [hx, tab_set _ (by omega)]
      refine tab_congr fun b _ _ => ?_
      rw [List.filter_append]
      by_cases hb : b = m
      · rw [if_pos hb, if_pos hb]; simp [hd]
      · rw [if_neg hb, if_neg hb, if_neg hb]
  · by_cases hb : b = m
    · rw [if_pos hb, if_neg (by omega)]; simp
    · rw [if_neg hb]
theorem iRed_ev {g : List (List Int)} (hg : GG g) : Ev (fun k => impl_Graph_reducible.f k g) (!cycB g) := by
  have hhi := hg.hi
  unfold impl_Graph_reducible.f
  refine Ev.ite_pos (by omega) (Ev.bind (iDoms_ev hg) ?_)
  have e0 : List.replicate g.length ([] : List Int) = tab g.length (fun b : Int => if b < ((0 : Nat) : Int) then fwd g b else []) := by
    rw [tab_rep]
    exact tab_congr fun b h _ => by rw [if_neg (by omega)]
  rw [e0]
  refine Ev.count g.length (fun k x i => impl_Graph_reducible.l0 k g (tab g.length (fun b : Int => tab g.length (fun d : Int => domB g d b))) x i) (fun m => tab g.length (fun b : Int => if b < (m : Int) then fwd g b else [])) _ ?_ (fun m hm ih => ?_)
  · refine Ev.succ ?_
    simp only [impl_Graph_reducible.l0]
    have e1 : tab g.length (fun b : Int => if b < ((g.length : Nat) : Int) then fwd g b else []) = nxG g := tab_congr fun b _ hb => by rw [if_pos hb]
    refine Ev.ite_neg (by omega) (Ev.bind (iReach_ev hg [] (by simp)) (Ev.bind (listOf_ev g.length (by omega) _) ?_))
    rw [e1]
    have hgw := nxG_ok hg
    have hL : ∀ k ∈ (upto g.length).filter (fun k => decide (k ∈ leftG g [])), 0 ≤ k ∧ k < g.length := fun k hk => upto_mem.1 (List.mem_filter.1 hk).1
    have hll := List.length_filter_le (fun k => decide (k ∈ leftG g [])) (upto g.length)
    rw [upto_length] at hll
    unfold cycB
    generalize (upto g.length).filter (fun k => decide (k ∈ leftG g [])) = L at hL hll
    refine Ev.rangeI L (fun k (_ : Unit) j => impl_Graph_reducible.l2 k (nxG g) L j) (fun _ _ _ => !(L.any fun k => (fwd g k).any fun x => decide (k ∈ downG g x))) (fun _ p => (p.any fun k => (fwd g k).any fun x => decide (k ∈ downG g x)) = false) (fun _ hb => ?_) (fun _ p x q e hb ih => ?_) () (by simp)
    · refine Ev.succ ?_
      simp only [impl_Graph_reducible.l2]
      refine Ev.ite_neg (by omega) (Ev.some ?_)
      rw [hb]; rfl
    · refine Ev.succ ?_
      simp only [impl_Graph_reducible.l2]
      have hlen : p.length < L.length := by rw [e]; simp
      have hrd : rd L (p.length : Int) = x := by rw [e]; exact rd_mid _ _ _
      have hx := hL x (by rw [e]; simp)
      refine Ev.ite_pos (by omega) (Ev.ite_pos (by omega) ?_)
      rw [hrd]
      refine Ev.ite_pos hx.1 (Ev.ite_pos (by rw [nxG_len]; exact hx.2) ?_)
      have hfl := fwd_len hg hx.1 hx.2
      have hfi : ∀ y ∈ fwd g x, 0 ≤ y ∧ y < g.length := fun y hy => fwd_in hg hx.1 hx.2 hy
      change Ev (fun k => impl_Graph_reducible.l3 k (nxG g) L (p.length : Int) (rowG (nxG g) x) 0) _
      rw [nxG_row hx.1 hx.2]
      have key : (L.any fun k => (fwd g k).any fun y => decide (k ∈ downG g y)) = (((fwd g x).any fun y => decide (x ∈ downG g y)) || (q.any fun k => (fwd g k).any fun y => decide (k ∈ downG g y))) := by
        rw [e, List.any_append, hb, List.any_cons, Bool.false_or]
      have hb2 : (fwd g x).any (fun y => decide (x ∈ downG g y)) = false → ((p ++ [x]).any fun k => (fwd g k).any fun y => decide (k ∈ downG g y)) = false := fun h => by
        rw [List.any_append, hb, List.any_cons, h]; rfl
      generalize hW : (fwd g x) = row at hfl hfi hb2 key ⊢
      clear hW
      refine Ev.rangeI row (fun k (_ : Unit) j => impl_Graph_reducible.l3 k (nxG g) L (p.length : Int) row j) (fun _ _ _ => !(L.any fun k => (fwd g k).any fun y => decide (k ∈ downG g y))) (fun _ p2 => (p2.any fun y => decide (x ∈ downG g y)) = false) (fun _ hb3 => ?_) (fun _ p2 y q2 e2 hb3 ih3 => ?_) () (by simp)
      · refine Ev.succ ?_
        simp only [impl_Graph_reducible.l3]
        refine Ev.ite_neg (by omega) ?_
        rw [wrap_succ (by omega)]
        exact ih () (hb2 hb3)
      · refine Ev.succ ?_
        simp only [impl_Graph_reducible.l3]
        have hlen2 : p2.length < row.length := by rw [e2]; simp
        have hrd2 : rd row (p2.length : Int) = y := by rw [e2]; exact rd_mid _ _ _
        have hy := hfi y (by rw [e2]; simp)
        refine Ev.ite_pos (by omega) (Ev.ite_pos (by omega) ?_)
        rw [hrd2, hrd]
        refine Ev.bind (iReach1_ev hgw y hy.1 (by rw [nxG_len]; exact hy.2)) ?_
        rw [nxG_len]
        refine Ev.ite_pos hx.1 (Ev.ite_pos (by unfold boolsG; rw [tab_length]; exact hx.2) ?_)
        rw [boolsG_rd _ hx.1 hx.2, wrap_succ (by omega)]
        by_cases hd : x ∈ downG g y
        · refine Ev.ite_pos (by simpa [downG] using hd) (Ev.some ?_)
          rw [key, e2, List.any_append, List.any_cons, decide_eq_true hd]; simp
        · refine Ev.ite_neg (by simpa [downG] using hd) (ih3 () ?_)
          rw [List.any_append, hb3, List.any_cons, decide_eq_false hd]; rfl
  · refine Ev.succ ?_
    simp only [impl_Graph_reducible.l0]
    refine Ev.ite_pos (by omega) (Ev.ite_pos (by omega) ?_)
    exact iNext_ev hg m hm ih
/-- What IsReducible answers. -/
def redIn (g : List (List Int)) : Bool × Bool := if goodGraphB g = true then (!cycB g, true) else (false, false)
theorem iRedIn_ev (g : List (List Int)) (h0 : g.length ≤ 1048576) (hx : ∀ x ∈ g, x.length ≤ 1048576) : Ev (fun k => impl_IsReducible.f k g) (redIn g) := by
  unfold impl_IsReducible.f redIn
  refine Ev.bind (iGoodGraph_ev g h0 hx) ?_
  by_cases h : goodGraphB g = true
  · rw [if_pos h]
    exact Ev.ite_pos h (Ev.bind (iRed_ev (goodGraph_GG h hx)) (Ev.now _))
  · rw [if_neg h]
    exact Ev.ite_neg h (Ev.now _)

theorem reverse_l0 : ∀ (n : Nat) (mid p s : List Int), mid.length ≤ n → p.length = s.length → p.length + mid.length + s.length ≤ 1000000000 →
    Ev (fun k => slices_Reverse_int_int.l0 k (p ++ mid ++ s) (p.length : Int) ((p.length : Int) + mid.length - 1)) (p ++ mid.reverse ++ s)
  | n, [], p, s, _, _, _ => by
    refine Ev.succ ?_
    simp only [slices_Reverse_int_int.l0]
    exact Ev.ite_neg (by simp; omega) (Ev.some (by simp))
  | n, a :: t, p, s, hn, hps, hb => by
    rcases List.eq_nil_or_concat t with rfl | ⟨m, b, rfl⟩
    · refine Ev.succ ?_
      simp only [slices_Reverse_int_int.l0]
      exact Ev.ite_neg (by simp) (Ev.some (by simp))
    · rw [List.concat_eq_append] at hn hb ⊢
      simp only [List.length_cons, List.length_append, List.length_singleton, List.length_nil] at hn hb
      cases n with
      | zero => omega
      | succ n =>
        have ih := reverse_l0 n m (p ++ [b]) (a :: s) (by omega) (by simp; omega) (by simp; omega)
        refine Ev.succ ?_
        simp only [slices_Reverse_int_int.l0]
        have e3 : (p.length : Int) + ((a :: (m ++ [b])).length : Nat) - 1 = ((p ++ a :: m).length : Nat) := by simp; omega
        rw [e3]
        have eL : p ++ a :: (m ++ [b]) ++ s = (p ++ a :: m) ++ b :: s := by simp
        have eL2 : p ++ a :: (m ++ [b]) ++ s = p ++ a :: (m ++ b :: s) := by simp
        have r1 : rd (p ++ a :: (m ++ [b]) ++ s) ((p ++ a :: m).length : Int) = b := by rw [eL]; exact rd_mid _ _ _
        have r2 : rd (p ++ a :: (m ++ [b]) ++ s) (p.length : Int) = a := by rw [eL2]; exact rd_mid _ _ _
        refine Ev.ite_pos (by simp; omega) (Ev.ite_pos (by omega) (Ev.ite_pos (by simp; omega) (Ev.ite_pos (by omega) (Ev.ite_pos (by simp; omega) ?_))))
        rw [r1, r2, Int.toNat_natCast, Int.toNat_natCast]
        have s1 : (p ++ a :: (m ++ [b]) ++ s).set p.length b = p ++ b :: (m ++ b :: s) := by rw [eL2, set_mid]
        have s2 : (p ++ b :: (m ++ b :: s)).set (p ++ a :: m).length a = p ++ b :: (m ++ a :: s) := by
          have : p ++ b :: (m ++ b :: s) = (p ++ b :: m) ++ b :: s := by simp
          rw [this, show (p ++ a :: m).length = (p ++ b :: m).length by simp, set_mid]
          simp
        rw [s1, s2, wrap_succ (by omega), wrap64_id (by simp; omega) (by simp; omega)]
        have e4 : p ++ [b] ++ m ++ a :: s = p ++ b :: (m ++ a :: s) := by simp
        have e5 : (((p ++ [b]).length : Nat) : Int) = (p.length : Int) + 1 := by simp
        have e6 : (p.length : Int) + 1 + m.length - 1 = ((p ++ a :: m).length : Nat) - 1 := by simp; omega
        rw [e4, e5, e6] at ih
        refine Ev.cast ih ?_
        simp
theorem reverse_ev (l : List Int) (h : l.length ≤ 1000000000) : Ev (fun k => slices_Reverse_int_int.f k l) l.reverse := by
  unfold slices_Reverse_int_int.f
  have := reverse_l0 l.length l [] [] (Nat.le_refl _) rfl (by simpa using h)
  rw [wrap64_id (by omega) (by omega)]
  simp only [List.nil_append, List.append_nil, List.length_nil] at this
  rw [show ((0 : Nat) : Int) + (l.length : Int) - 1 = (l.length : Int) - 1 by omega] at this
  exact this
/-- How many are not marked. -/
def unsn : List Bool → Nat
  | [] => 0
  | b :: q => (if b = true then 0 else 1) + unsn q
theorem unsn_set : ∀ (l : List Bool) (i : Nat), l[i]? = some false → unsn (l.set i true) + 1 = unsn l
  | [], i, h => by simp at h
  | b :: q, 0, h => by
    simp only [List.getElem?_cons_zero, Option.some.injEq] at h
    subst h
    simp [unsn]; omega
  | b :: q, i + 1, h => by
    rw [List.getElem?_cons_succ] at h
    have := unsn_set q i h
    simp only [List.set_cons_succ, unsn]; omega
theorem rdOf_some {l : List Bool} {x : Int} (h0 : 0 ≤ x) (h1 : x < (l.length : Int)) : l[x.toNat]? = some (rdOf false l x) := by
  unfold rdOf
  rw [List.getD_eq_getElem?_getD, List.getElem?_eq_getElem (by omega)]; rfl
/-- v stands ahead of u. -/
def Bef (L : List Int) (v u : Int) : Prop := ∃ i j : Nat, i < j ∧ L[i]? = some v ∧ L[j]? = some u
theorem Bef.left {L : List Int} {v u : Int} (h : Bef L v u) (M : List Int) : Bef (L ++ M) v u := by
  obtain ⟨i, j, h1, h2, h3⟩ := h
  exact ⟨i, j, h1, by rw [List.getElem?_append_left (List.getElem?_eq_some_iff.1 h2).1]; exact h2, by rw [List.getElem?_append_left (List.getElem?_eq_some_iff.1 h3).1]; exact h3⟩
theorem Bef.right {L : List Int} {v u : Int} (h : Bef L v u) (M : List Int) : Bef (M ++ L) v u := by
  obtain ⟨i, j, h1, h2, h3⟩ := h
  exact ⟨M.length + i, M.length + j, by omega, by rw [List.getElem?_append_right (by omega)]; simpa using h2, by rw [List.getElem?_append_right (by omega)]; simpa using h3⟩
theorem Bef.mid {L M : List Int} {v u : Int} (hv : v ∈ L) (hu : u ∈ M) : Bef (L ++ M) v u := by
  obtain ⟨i, hi, rfl⟩ := List.mem_iff_getElem.1 hv
  obtain ⟨j, hj, rfl⟩ := List.mem_iff_getElem.1 hu
  exact ⟨i, L.length + j, by omega, by rw [List.getElem?_append_left hi, List.getElem?_eq_getElem hi], by rw [List.getElem?_append_right (by omega)]; simp [List.getElem?_eq_getElem hj]⟩
theorem Bef.mem {L : List Int} {v u : Int} (h : Bef L v u) : v ∈ L ∧ u ∈ L := by
  obtain ⟨i, j, _, h2, h3⟩ := h
  exact ⟨List.mem_of_getElem? h2, List.mem_of_getElem? h3⟩
theorem nodup_rev {l : List Int} (h : l.Nodup) : l.reverse.Nodup := List.pairwise_reverse.2 (h.imp fun e => e.symm)
theorem idx_get {b : Int} : ∀ (o : List Int) (i : Nat), o.Nodup → o[i]? = some b → o.idxOf b = i
  | [], i, _, h => by simp at h
  | y :: o, 0, _, h => by
    simp only [List.getElem?_cons_zero, Option.some.injEq] at h
    subst h; simp
  | y :: o, i + 1, hn, h => by
    rw [List.getElem?_cons_succ] at h
    rw [List.nodup_cons] at hn
    have hb := List.mem_of_getElem? h
    have hne : y ≠ b := fun e => hn.1 (e ▸ hb)
    rw [List.idxOf_cons, show (y == b) = false by simpa using hne, cond_false, idx_get o i hn.2 h]
theorem Bef.idx {L : List Int} (hn : L.Nodup) {v u : Int} (h : Bef L v u) : L.reverse.idxOf u < L.reverse.idxOf v := by
  obtain ⟨i, j, h1, h2, h3⟩ := h
  have hi := (List.getElem?_eq_some_iff.1 h2).1
  have hj := (List.getElem?_eq_some_iff.1 h3).1
  have hr := nodup_rev hn
  rw [idx_get (b := v) L.reverse (L.length - 1 - i) hr (by rw [List.getElem?_reverse (by omega), show L.length - 1 - (L.length - 1 - i) = i by omega]; exact h2), idx_get (b := u) L.reverse (L.length - 1 - j) hr (by rw [List.getElem?_reverse (by omega), show L.length - 1 - (L.length - 1 - j) = j by omega]; exact h3)]
  omega
theorem Bef.trans {L : List Int} (hn : L.Nodup) {a b c : Int} (h : Bef L a b) (h' : Bef L b c) : Bef L a c := by
  obtain ⟨i, j, h1, h2, h3⟩ := h
  obtain ⟨i', j', h1', h2', h3'⟩ := h'
  have e1 := idx_get L j hn h3
  have e2 := idx_get L i' hn h2'
  exact ⟨i, j', by omega, h2, h3'⟩
theorem Bef.ne {L : List Int} (hn : L.Nodup) {a b : Int} (h : Bef L a b) (h' : Bef L b a) : False := by
  have := h.idx hn
  have := h'.idx hn
  omega
/-- An edge of the walk's tree. -/
def TE (g : List (List Int)) (R : List Int) (u v : Int) : Prop := v ∈ rowG g u ∧ Bef R v u
theorem Star.mono {A B : Int → Int → Prop} (h : ∀ a b, A a b → B a b) {a b : Int} (hs : Star A a b) : Star B a b := by
  induction hs with
  | refl a => exact .refl _
  | step h1 _ ih => exact .step (h _ _ h1) ih
/-- What a visit of a tells: R are those that it puts behind. -/
structure VisR (g : List (List Int)) (sn : List Bool) (a : Int) (R : List Int) (sn2 : List Bool) : Prop where
  mem : ∀ x : Int, 0 ≤ x → x < g.length → (rdOf false sn2 x = true ↔ rdOf false sn x = true ∨ x ∈ R)
  inn : ∀ x ∈ R, (0 ≤ x ∧ x < g.length) ∧ rdOf false sn x = false
  nodup : R.Nodup
  tree : ∀ u ∈ R, Star (TE g R) a u
  edge : ∀ u ∈ R, ∀ v ∈ rowG g u, rdOf false sn v = true ∨ Bef R v u ∨ (v ∈ R ∧ Star (TE g R) v u)
  last : a ∈ R
  fin : ∃ R', R = R' ++ [a]
/-- What the visits of the goals q tell. -/
structure LopR (g : List (List Int)) (sn : List Bool) (q : List Int) (R : List Int) (sn2 : List Bool) : Prop where
  mem : ∀ x : Int, 0 ≤ x → x < g.length → (rdOf false sn2 x = true ↔ rdOf false sn x = true ∨ x ∈ R)
  inn : ∀ x ∈ R, (0 ≤ x ∧ x < g.length) ∧ rdOf false sn x = false
  nodup : R.Nodup
  tree : ∀ u ∈ R, ∃ x ∈ q, x ∈ R ∧ Star (TE g R) x u
  edge : ∀ u ∈ R, ∀ v ∈ rowG g u, rdOf false sn v = true ∨ Bef R v u ∨ (v ∈ R ∧ Star (TE g R) v u)
  cover : ∀ x ∈ q, rdOf false sn2 x = true
theorem LopR.nil (g : List (List Int)) (sn : List Bool) : LopR g sn [] [] sn := ⟨fun x _ _ => by simp, by simp, List.nodup_nil, by simp, by simp, by simp⟩
theorem LopR.seen {g : List (List Int)} {sn sn2 : List Bool} {x : Int} {q R : List Int} (h : LopR g sn q R sn2) (hx : 0 ≤ x ∧ x < g.length) (hs : rdOf false sn x = true) : LopR g sn (x :: q) R sn2 :=
  ⟨h.mem, h.inn, h.nodup, fun u hu => by obtain ⟨y, hy, h2⟩ := h.tree u hu; exact ⟨y, List.mem_cons_of_mem _ hy, h2⟩, h.edge, fun y hy => by
    rcases List.mem_cons.1 hy with rfl | hy
    · exact (h.mem y hx.1 hx.2).2 (.inl hs)
    · exact h.cover y hy⟩
theorem LopR.visit {g : List (List Int)} (hg : GG g) {sn s3 sn2 : List Bool} {x : Int} {q R1 R2 : List Int} (hx : 0 ≤ x ∧ x < g.length) (h1 : VisR g sn x R1 s3) (h2 : LopR g s3 q R2 sn2) : LopR g sn (x :: q) (R1 ++ R2) sn2 := by
  have hin2 : ∀ y ∈ R2, rdOf false sn y = false ∧ y ∉ R1 := fun y hy => by
    have h3 := h2.inn y hy
    have h4 := h1.mem y h3.1.1 h3.1.2
    rw [h3.2] at h4
    have h5 : ¬ (rdOf false sn y = true ∨ y ∈ R1) := fun e => by have := h4.2 e; cases this
    exact ⟨by cases hh : rdOf false sn y with | true => exact absurd (.inl hh) h5 | false => rfl, fun e => h5 (.inr e)⟩
  refine ⟨fun y h0 h3 => ?_, fun y hy => ?_, ?_, fun u hu => ?_, fun u hu v hv => ?_, fun y hy => ?_⟩
  · rw [h2.mem y h0 h3, h1.mem y h0 h3, List.mem_append, or_assoc]
  · rcases List.mem_append.1 hy with hy | hy
    · exact h1.inn y hy
    · exact ⟨(h2.inn y hy).1, (hin2 y hy).1⟩
  · rw [List.nodup_append]
    exact ⟨h1.nodup, h2.nodup, fun a ha b hb e => (hin2 b hb).2 (e ▸ ha)⟩
  · rcases List.mem_append.1 hu with hu | hu
    · exact ⟨x, by simp, List.mem_append_left _ h1.last, (h1.tree u hu).mono fun a b e => ⟨e.1, e.2.left _⟩⟩
    · obtain ⟨y, hy, hyR, hst⟩ := h2.tree u hu
      exact ⟨y, List.mem_cons_of_mem _ hy, List.mem_append_right _ hyR, hst.mono fun a b e => ⟨e.1, e.2.right _⟩⟩
  · rcases List.mem_append.1 hu with hu | hu
    · rcases h1.edge u hu v hv with h | h | h
      · exact .inl h
      · exact .inr (.inl (h.left _))
      · exact .inr (.inr ⟨List.mem_append_left _ h.1, h.2.mono fun a b e => ⟨e.1, e.2.left _⟩⟩)
    · have hun := (h2.inn u hu).1
      have hvn := hg.inn _ (rowG_mem hun.1 hun.2) v hv
      rcases h2.edge u hu v hv with h | h | h
      · rcases (h1.mem v hvn.1 hvn.2).1 h with h | h
        · exact .inl h
        · exact .inr (.inl (Bef.mid h hu))
      · exact .inr (.inl (h.right _))
      · exact .inr (.inr ⟨List.mem_append_right _ h.1, h.2.mono fun a b e => ⟨e.1, e.2.right _⟩⟩)
  · rcases List.mem_cons.1 hy with rfl | hy
    · exact (h2.mem y hx.1 hx.2).2 (.inl ((h1.mem y hx.1 hx.2).2 (.inr h1.last)))
    · exact h2.cover y hy
theorem rdOf_set {sn : List Bool} {a x : Int} (h0 : 0 ≤ a) (h1 : a < (sn.length : Int)) (hx0 : 0 ≤ x) : rdOf false (sn.set a.toNat true) x = true ↔ x = a ∨ rdOf false sn x = true := by
  unfold rdOf
  rw [List.getD_eq_getElem?_getD, List.getD_eq_getElem?_getD, List.getElem?_set]
  by_cases h : a.toNat = x.toNat
  · rw [if_pos h, if_pos (by omega)]
    exact ⟨fun _ => .inl (by omega), fun _ => rfl⟩
  · rw [if_neg h]
    exact ⟨.inr, fun e => e.resolve_left (fun e => h (by rw [e]))⟩
theorem VisR.done {g : List (List Int)} (hg : GG g) {sn sn2 : List Bool} {a : Int} {R : List Int} (h0 : 0 ≤ a) (h1 : a < g.length) (hl : sn.length = g.length) (hf : rdOf false sn a = false) (h : LopR g (sn.set a.toNat true) (rowG g a) R sn2) : VisR g sn a (R ++ [a]) sn2 := by
  have hset : ∀ x, 0 ≤ x → (rdOf false (sn.set a.toNat true) x = true ↔ x = a ∨ rdOf false sn x = true) := fun x hx => rdOf_set h0 (by omega) hx
  have hin : ∀ x ∈ R, x ≠ a ∧ rdOf false sn x = false := fun x hx => by
    have h3 := h.inn x hx
    have h4 := hset x h3.1.1
    rw [h3.2] at h4
    have h5 : ¬ (x = a ∨ rdOf false sn x = true) := fun e => by have := h4.2 e; cases this
    exact ⟨fun e => h5 (.inl e), by cases hh : rdOf false sn x with | true => exact absurd (.inr hh) h5 | false => rfl⟩
  have hm : ∀ b c, TE g R b c → TE g (R ++ [a]) b c := fun b c e => ⟨e.1, e.2.left _⟩
  have htree : ∀ u ∈ R ++ [a], Star (TE g (R ++ [a])) a u := fun u hu => by
    rcases List.mem_append.1 hu with hu | hu
    · obtain ⟨x, hx, hxR, hst⟩ := h.tree u hu
      exact .step ⟨hx, Bef.mid hxR (by simp)⟩ (hst.mono hm)
    · rw [List.mem_singleton] at hu; subst hu; exact .refl _
  refine ⟨fun x hx0 hx1 => ?_, fun x hx => ?_, ?_, htree, fun u hu v hv => ?_, by simp, R, rfl⟩
  · rw [h.mem x hx0 hx1, hset x hx0, List.mem_append, List.mem_singleton]
    exact ⟨fun e => by rcases e with (e | e) | e <;> simp [e], fun e => by rcases e with e | e | e <;> simp [e]⟩
  · rcases List.mem_append.1 hx with hx | hx
    · exact ⟨(h.inn x hx).1, (hin x hx).2⟩
    · rw [List.mem_singleton] at hx; subst hx; exact ⟨⟨h0, h1⟩, hf⟩
  · rw [List.nodup_append]
    exact ⟨h.nodup, by simp, fun b hb c hc => by rw [List.mem_singleton] at hc; subst hc; exact (hin b hb).1⟩
  · rcases List.mem_append.1 hu with hu2 | hu2
    · have hun := (h.inn u hu2).1
      have hvn := hg.inn _ (rowG_mem hun.1 hun.2) v hv
      rcases h.edge u hu2 v hv with e | e | e
      · rcases (hset v hvn.1).1 e with rfl | e
        · exact .inr (.inr ⟨by simp, htree u hu⟩)
        · exact .inl e
      · exact .inr (.inl (e.left _))
      · exact .inr (.inr ⟨List.mem_append_left _ e.1, e.2.mono hm⟩)
    · rw [List.mem_singleton] at hu2
      subst hu2
      have hvn := hg.inn _ (rowG_mem h0 h1) v hv
      rcases (h.mem v hvn.1 hvn.2).1 (h.cover v hv) with e | e
      · rcases (hset v hvn.1).1 e with rfl | e
        · exact .inr (.inr ⟨by simp, .refl _⟩)
        · exact .inl e
      · exact .inr (.inl (Bef.mid e (by simp)))
/-- What a visit leaves behind. -/
structure Visit (g : List (List Int)) (sn : List Bool) (out : List Int) (sn2 : List Bool) (out2 : List Int) : Prop where
  len : sn2.length = g.length
  sum : out2.length + unsn sn2 = out.length + unsn sn
  le : unsn sn2 ≤ unsn sn
theorem visit_ev {g : List (List Int)} (hg : GG g) : ∀ (m : Nat) (a : Int) (sn : List Bool) (out : List Int), unsn sn ≤ m → sn.length = g.length → out.length + unsn sn ≤ 100 → 0 ≤ a → a < g.length → rdOf false sn a = false →
    ∃ out2 sn2, Ev (fun k => spec_l7Post.f k g a sn out.reverse) (out2.reverse, sn2) ∧ Ev (fun k => impl_Graph_order_1.l1 k g a sn out) (out2, sn2) ∧ Visit g sn out sn2 out2 ∧ ∃ R, out2 = out ++ R ∧ VisR g sn a R sn2
  | 0, a, sn, out, hm, hl, hb, h0, h1, hf => by
    have hs := rdOf_some h0 (show a < (sn.length : Int) by omega)
    rw [hf] at hs
    have := unsn_set _ _ hs
    omega
  | m + 1, a, sn, out, hm, hl, hb, h0, h1, hf => by
    have hs := rdOf_some h0 (show a < (sn.length : Int) by omega)
    rw [hf] at hs
    have hu := unsn_set _ _ hs
    have hr := rowG_mem h0 h1
    have hrow := hg.row _ hr
    have hin := hg.inn _ hr
    have hhi := hg.hi
    have loop : ∀ (q p : List Int) (sn1 : List Bool) (out1 : List Int), rowG g a = p ++ q → unsn sn1 ≤ m → sn1.length = g.length → out1.length + unsn sn1 + 1 ≤ 100 →
        ∃ out2 sn2, Ev (fun k => spec_l7Post.l0 k a sn1 out1.reverse (rowG g a) ((rowG g a).length : Int) (p.length : Int) g) (out2.reverse, sn2) ∧ Ev (fun k => impl_Graph_order_1.l0 k g a sn1 out1 (rowG g a) (p.length : Int)) (out2, sn2) ∧ sn2.length = g.length ∧ out2.length + unsn sn2 = out1.length + unsn sn1 + 1 ∧ unsn sn2 ≤ unsn sn1 ∧ ∃ R, out2 = out1 ++ R ++ [a] ∧ LopR g sn1 q R sn2 := by
      intro q
      induction q with
      | nil =>
        intro p sn1 out1 e hu1 hl1 hb1
        rw [List.append_nil] at e
        refine ⟨out1 ++ [a], sn1, ?_, ?_, hl1, by simp; omega, Nat.le_refl _, [], by simp, LopR.nil g sn1⟩
        · refine Ev.succ ?_
          simp only [spec_l7Post.l0]
          refine Ev.ite_neg (by rw [e]; omega) (Ev.bind (Ev.now _) (Ev.ite_pos (by simp; omega) (Ev.some ?_)))
          simp
        · refine Ev.succ ?_
          simp only [impl_Graph_order_1.l0]
          exact Ev.ite_neg (by rw [e]; omega) (Ev.ite_pos (by omega) (Ev.now _))
      | cons x q ih =>
        intro p sn1 out1 e hu1 hl1 hb1
        have hlen : p.length < (rowG g a).length := by rw [e]; simp
        have hrd : rd (rowG g a) (p.length : Int) = x := by rw [e]; exact rd_mid _ _ _
        have hx := hin x (by rw [e]; simp)
        have e2 : rowG g a = (p ++ [x]) ++ q := by rw [e]; simp
        have e3 : (((p ++ [x]).length : Nat) : Int) = (p.length : Int) + 1 := by simp
        have hp : p.length ≤ 1048576 := by omega
        cases hsx : rdOf false sn1 x with
        | true =>
          obtain ⟨out2, sn2, h1', h2', h3', h4', h5', R, hR, hLop⟩ := ih (p ++ [x]) sn1 out1 e2 hu1 hl1 hb1
          rw [e3] at h1' h2'
          refine ⟨out2, sn2, ?_, ?_, h3', h4', h5', R, hR, hLop.seen hx hsx⟩
          · refine Ev.succ ?_
            simp only [spec_l7Post.l0]
            rw [hrd, wrap_succ (by omega)]
            exact Ev.ite_pos (by omega) (Ev.ite_pos (by omega) (Ev.ite_pos (by omega) (Ev.ite_pos hx.1 (Ev.ite_pos (by omega) (Ev.ite_pos hsx h1')))))
          · refine Ev.succ ?_
            simp only [impl_Graph_order_1.l0]
            rw [hrd, wrap_succ (by omega)]
            exact Ev.ite_pos (by omega) (Ev.ite_pos (by omega) (Ev.ite_pos hx.1 (Ev.ite_pos (by omega) (Ev.ite_pos hsx h2'))))
        | false =>
          obtain ⟨o3, s3, v1, v2, v3, R1, hR1, hV⟩ := visit_ev hg m x sn1 out1 hu1 hl1 (by omega) hx.1 hx.2 hsx
          obtain ⟨out2, sn2, h1', h2', h3', h4', h5', R2, hR2, hLop⟩ := ih (p ++ [x]) s3 o3 e2 (by have := v3.le; omega) v3.len (by have := v3.sum; omega)
          rw [e3] at h1' h2'
          refine ⟨out2, sn2, ?_, ?_, h3', by have := v3.sum; omega, by have := v3.le; omega, R1 ++ R2, by rw [hR2, hR1]; simp, LopR.visit hg hx hV hLop⟩
          · refine Ev.succ ?_
            simp only [spec_l7Post.l0]
            rw [hrd, wrap_succ (by omega)]
            exact Ev.ite_pos (by omega) (Ev.ite_pos (by omega) (Ev.ite_pos (by omega) (Ev.ite_pos hx.1 (Ev.ite_pos (by omega) (Ev.ite_neg (by rw [hsx]; decide) (Ev.bind v1 h1'))))))
          · refine Ev.succ ?_
            simp only [impl_Graph_order_1.l0]
            rw [hrd, wrap_succ (by omega)]
            exact Ev.ite_pos (by omega) (Ev.ite_pos (by omega) (Ev.ite_pos hx.1 (Ev.ite_pos (by omega) (Ev.ite_neg (by rw [hsx]; decide) (Ev.bind v2 h2')))))
    obtain ⟨out2, sn2, h1', h2', h3', h4', h5', R, hR, hLop⟩ := loop (rowG g a) [] (sn.set a.toNat true) out rfl (by omega) (by rw [List.length_set]; exact hl) (by omega)
    refine ⟨out2, sn2, ?_, ?_, ⟨h3', by omega, by omega⟩, R ++ [a], by rw [hR, List.append_assoc], VisR.done hg h0 h1 hl hf hLop⟩
    · refine Ev.succ ?_
      simp only [spec_l7Post.f]
      exact Ev.ite_pos h0 (Ev.ite_pos (by omega) (Ev.ite_pos h1 h1'))
    · refine Ev.succ ?_
      simp only [impl_Graph_order_1.l1]
      exact Ev.ite_pos h0 (Ev.ite_pos (by omega) (Ev.ite_pos h1 h2'))
theorem unsn_rep (n : Nat) : unsn (List.replicate n false) = n := by
  induction n with
  | zero => rfl
  | succ n ih => rw [List.replicate_succ, unsn, ih]; simp; omega
/-- What the order of a good graph is worth. -/
structure Ord (g : List (List Int)) (o : List Int) : Prop where
  ok : OkS g.length o
  mem : ∀ x, x ∈ o ↔ x ∈ leftG g []
  head : ∃ t, o = 0 :: t
  dom : ∀ k ∈ o, ∀ x, domB g x k = true → o.idxOf x ≤ o.idxOf k
  red : cycB g = false → ∀ k ∈ o, ∀ x ∈ rowG g k, o.idxOf x ≤ o.idxOf k → domB g x k = true
theorem rdOf_rep (n : Nat) (x : Int) : rdOf false (List.replicate n false) x = false := by
  unfold rdOf
  rw [List.getD_eq_getElem?_getD, List.getElem?_replicate]
  split <;> rfl
theorem TE.le {g : List (List Int)} {R : List Int} (hn : R.Nodup) {a b : Int} (h : Star (TE g R) a b) : a = b ∨ Bef R b a := by
  induction h with
  | refl a => exact .inl rfl
  | step h1 _ ih =>
    rcases ih with rfl | ih
    · exact .inr h1.2
    · exact .inr (ih.trans hn h1.2)
theorem ord_of {g : List (List Int)} (hg : GG g) {R R' : List Int} {sn2 : List Bool} (hRR : R = R' ++ [0]) (h : VisR g (List.replicate g.length false) 0 R sn2) : Ord g R.reverse := by
  have hlo := hg.lo
  have hedge : ∀ u ∈ R, ∀ v ∈ rowG g u, Bef R v u ∨ (v ∈ R ∧ Star (TE g R) v u) := fun u hu v hv => (h.edge u hu v hv).resolve_left (by rw [rdOf_rep]; simp)
  have hstep : ∀ a b, TE g R a b → stepG g [] a b := fun a b e => ⟨e.1, by simp⟩
  have hmem : ∀ x, x ∈ R ↔ x ∈ leftG g [] := fun x => by
    rw [leftG_iff hg (by simp)]
    constructor
    · exact fun hx => (h.tree x hx).mono hstep
    · intro hx
      have main : ∀ a b, Star (stepG g []) a b → a ∈ R → b ∈ R := by
        intro a b hst
        induction hst with
        | refl a => exact fun h => h
        | step h1 _ ih =>
          intro ha
          rcases hedge _ ha _ h1.1 with e | e
          · exact ih e.mem.1
          · exact ih e.1
      exact main 0 x hx h.last
  have hidx : ∀ {v u : Int}, Bef R v u → R.reverse.idxOf u < R.reverse.idxOf v := fun e => e.idx h.nodup
  have hdom : ∀ k ∈ R, ∀ x, domB g x k = true → x = k ∨ Bef R k x := by
    intro k hk x hd
    unfold domB at hd
    simp only [Bool.and_eq_true, decide_eq_true_iff, Bool.not_eq_true', decide_eq_false_iff_not] at hd
    have main : ∀ a b, Star (TE g R) a b → a = x ∨ Star (stepG g [x]) a b ∨ x = b ∨ Bef R b x := by
      intro a b hst
      induction hst with
      | refl a => exact .inr (.inl (.refl _))
      | @step a c b h1 h2 ih =>
        rcases ih with rfl | ih | ih
        · exact .inr (.inr (TE.le h.nodup h2))
        · by_cases hc : c = x
          · subst hc
            exact .inr (.inr (TE.le h.nodup h2))
          · exact .inr (.inl (.step ⟨h1.1, by simpa using hc⟩ ih))
        · exact .inr (.inr ih)
    rcases main 0 k (h.tree k hk) with e | e | e
    · subst e
      exact TE.le h.nodup (h.tree k hk)
    · by_cases hx0 : x = 0
      · subst hx0
        exact TE.le h.nodup (h.tree k hk)
      · exact absurd ((leftG_iff hg (av := [x]) (by simpa using fun e : (0 : Int) = x => hx0 e.symm) k).2 e) hd.2.2
    · exact e
  refine ⟨⟨nodup_rev h.nodup, fun x hx => (h.inn x (List.mem_reverse.1 hx)).1⟩, fun x => by rw [List.mem_reverse]; exact hmem x, ⟨R'.reverse, by rw [hRR]; simp⟩, fun k hk x hd => ?_, fun hc k hk x hx hle => ?_⟩
  · rcases hdom k (List.mem_reverse.1 hk) x hd with rfl | e
    · exact Nat.le_refl _
    · exact Nat.le_of_lt (hidx e)
  · have hkR := List.mem_reverse.1 hk
    rcases hedge k hkR x hx with e | e
    · have := hidx e; omega
    · cases hd : domB g x k with
      | true => rfl
      | false =>
        have hkn := (h.inn k hkR).1
        have hxn := (h.inn x e.1).1
        have hdown : Star (stepG (nxG g) []) x k := by
          have main : ∀ a b, Star (TE g R) a b → Star (stepG (nxG g) []) a b := by
            intro a b hst
            induction hst with
            | refl a => exact .refl _
            | @step a c b h1 _ ih =>
              refine .step ⟨?_, by simp⟩ ih
              have haR := h1.2.mem.2
              have han := (h.inn a haR).1
              rw [nxG_row han.1 han.2]
              refine List.mem_filter.2 ⟨h1.1, ?_⟩
              cases hdc : domB g c a with
              | false => rfl
              | true =>
                rcases hdom a haR c hdc with e | e
                · subst e; exact absurd (h1.2.ne h.nodup h1.2) (fun h => h)
                · exact absurd (h1.2.ne h.nodup e) (fun h => h)
          exact main x k e.2
        have : cycB g = true := (cycB_iff hg).2 ⟨k, (hmem k).1 hkR, x, List.mem_filter.2 ⟨hx, by rw [hd]; rfl⟩, (downG_iff hg hxn.1 hxn.2 k).2 hdown⟩
        rw [this] at hc
        cases hc
theorem order_ev {g : List (List Int)} (hg : GG g) : ∃ r, Ev (fun k => spec_l7Order.f k g) r ∧ Ev (fun k => impl_Graph_order.f k g) r ∧ r.length ≤ 12 ∧ Ord g r := by
  have hlo := hg.lo
  have hhi := hg.hi
  have hu := unsn_rep g.length
  obtain ⟨out2, sn2, h1, h2, h3, R, hR, hV⟩ := visit_ev hg g.length 0 (List.replicate g.length false) [] (by omega) (by simp) (by simp; omega) (by omega) (by omega) (rdOf_rep _ _)
  have hsum := h3.sum
  rw [List.length_nil] at hsum
  rw [List.nil_append] at hR
  obtain ⟨R', hR'⟩ := hV.fin
  refine ⟨out2.reverse, ?_, ?_, by rw [List.length_reverse]; omega, by rw [hR]; exact ord_of hg hR' hV⟩
  · unfold spec_l7Order.f
    rw [Int.toNat_natCast]
    exact Ev.ite_pos (by omega) (Ev.ite_pos (by omega) (Ev.bind h1 (Ev.now _)))
  · unfold impl_Graph_order.f
    exact Ev.ite_pos (by omega) (Ev.bind h2 (reverse_ev out2 (by omega)))
theorem orderIn_ev (g : List (List Int)) (h0 : g.length ≤ 1048576) (hx : ∀ x ∈ g, x.length ≤ 1048576) : ∃ r, Ev (fun k => spec_OrderOf.f k g) (r, goodGraphB g) ∧ Ev (fun k => impl_OrderOf.f k g) (r, goodGraphB g) ∧ r.length ≤ 12 ∧ (goodGraphB g = true → Ord g r) ∧ (goodGraphB g = false → r = []) := by
  by_cases h : goodGraphB g = true
  · obtain ⟨r, h1, h2, h3, h4⟩ := order_ev (goodGraph_GG h hx)
    rw [h]
    refine ⟨r, ?_, ?_, h3, fun _ => h4, (fun e => by cases e)⟩
    · unfold spec_OrderOf.f
      exact Ev.bind (sGoodGraph_ev g h0 hx) (Ev.ite_pos h (Ev.bind h1 (Ev.now _)))
    · unfold impl_OrderOf.f
      exact Ev.bind (iGoodGraph_ev g h0 hx) (Ev.ite_pos h (Ev.bind h2 (Ev.now _)))
  · have hf : goodGraphB g = false := by simpa using h
    rw [hf]
    refine ⟨[], ?_, ?_, by simp, (fun e => by cases e), fun _ => rfl⟩
    · unfold spec_OrderOf.f
      exact Ev.bind (sGoodGraph_ev g h0 hx) (Ev.ite_neg h (Ev.now _))
    · unfold impl_OrderOf.f
      exact Ev.bind (iGoodGraph_ev g h0 hx) (Ev.ite_neg h (Ev.now _))

theorem u64_and255 (x : Int) (h0 : 0 ≤ x) (h1 : x < 18446744073709551616) : Go.bits .and .u64 x 255 = x % 256 := by
  have h := bits_mask .u64 64 (by decide) (fun n h₀ h₁ => by rw [IntKind.wrap_u64]; omega) 8 (by decide) x h0 h1
  rw [show ((255 : Int)) = 2 ^ 8 - 1 from rfl, h]
  rfl
theorem wf_u8 {x : Int} (h : (Lit.int .u8 x).wf = true) : 0 ≤ x ∧ x ≤ 255 := by
  have e1 : IntKind.u8.min = 0 := by decide
  have e2 : IntKind.u8.max = 255 := by decide
  simp only [Lit.wf, e1, e2, Bool.and_eq_true, decide_eq_true_eq] at h
  exact h
theorem u64_lo (x : Int) : 0 ≤ IntKind.u64.wrap x ∧ IntKind.u64.wrap x < 18446744073709551616 := by
  rw [IntKind.wrap_u64]; omega
theorem rdI_mem (l : List Int) (i : Int) (h0 : 0 ≤ i) (h1 : i < l.length) : rd l i ∈ l := by
  unfold rd
  have : i.toNat < l.length := by omega
  simp [List.getD_eq_getElem?_getD, List.getElem?_eq_getElem this]
/-- A cursor's next number. -/
theorem next_some (l : List Int) (hl : ∀ x ∈ l, (Lit.int .u8 x).wf = true) (p s : Int) (h0 : 0 ≤ p) (h1 : p ≤ 4611686018427387904) :
    ∃ v s', spec_l1Cur_next.f l p s = some (v, p + 1, s') ∧ 0 ≤ v ∧ v ≤ 255 := by
  have key : ∀ z : Int, 0 ≤ wrap64 (Go.bits .and .u64 (IntKind.u64.wrap z / 1099511627776) 255) ∧ wrap64 (Go.bits .and .u64 (IntKind.u64.wrap z / 1099511627776) 255) ≤ 255 := by
    intro z
    have hz := u64_lo z
    rw [u64_and255 _ (by omega) (by omega), wrap64_id (by omega) (by omega)]
    omega
  unfold spec_l1Cur_next.f
  rw [show wrap64 (p + 1) = p + 1 from wrap64_id (by omega) (by omega)]
  by_cases h : p < (l.length : Int)
  · rw [if_pos h, if_pos h0, if_pos (by omega)]
    have hx := wf_u8 (hl _ (rdI_mem l p h0 h))
    exact ⟨_, _, rfl, by rw [wrap64_id (by omega) (by omega)]; exact hx⟩
  · rw [if_neg h, if_neg (by omega)]
    exact ⟨_, _, rfl, key _⟩
/-- A cursor's pick of n. -/
theorem pick_some (l : List Int) (hl : ∀ x ∈ l, (Lit.int .u8 x).wf = true) (p s n : Int) (h0 : 0 ≤ p) (h1 : p ≤ 4611686018427387000) :
    ∃ v p' s', spec_l1Cur_pick.f l p s n = some (v, p', s') ∧ 0 ≤ v ∧ (v < n ∨ v = 0) ∧ v ≤ 65535 ∧ p ≤ p' ∧ p' ≤ p + 2 := by
  unfold spec_l1Cur_pick.f
  by_cases hn : n ≤ 1
  · rw [if_pos hn]; exact ⟨0, p, s, rfl, by omega, .inr rfl, by omega, by omega, by omega⟩
  · rw [if_neg hn]
    obtain ⟨v, s1, e1, hv0, hv1⟩ := next_some l hl p s h0 (by omega)
    rw [e1, Option.bind_some]
    have tm : ∀ z : Int, 0 ≤ z → 0 ≤ Int.tmod z n ∧ Int.tmod z n < n ∧ Int.tmod z n ≤ z := by
      intro z hz
      rw [Int.tmod_eq_emod_of_nonneg hz]
      have e1 : 0 ≤ z % n := Int.emod_nonneg _ (by omega)
      have e2 : z % n < n := Int.emod_lt_of_pos _ (by omega)
      refine ⟨e1, e2, ?_⟩
      by_cases hzn : z < n
      · rw [Int.emod_eq_of_lt hz hzn]; omega
      · omega
    by_cases hb : n > 200
    · rw [if_pos hb]
      obtain ⟨v2, s2, e2, hw0, hw1⟩ := next_some l hl (p + 1) s1 (by omega) (by omega)
      dsimp only
      rw [e2, Option.bind_some, if_neg (by omega)]
      dsimp only
      rw [wrap64_id (x := v * 256) (by omega) (by omega), wrap64_id (by omega) (by omega)]
      obtain ⟨t0, t1, t2⟩ := tm (v * 256 + v2) (by omega)
      exact ⟨_, _, _, rfl, t0, .inl t1, by omega, by omega, by omega⟩
    · rw [if_neg hb, if_neg (by omega)]
      dsimp only
      obtain ⟨t0, t1, t2⟩ := tm v (by omega)
      exact ⟨_, _, _, rfl, t0, .inl t1, by omega, by omega, by omega⟩
theorem one_some (l : List Int) (hl : ∀ x ∈ l, (Lit.int .u8 x).wf = true) (p s n : Int) (h0 : 0 ≤ p) (h1 : p ≤ 4611686018427387000) :
    ∃ b p' s', spec_l1Cur_one.f l p s n = some (b, p', s') ∧ p ≤ p' ∧ p' ≤ p + 2 := by
  unfold spec_l1Cur_one.f
  obtain ⟨v, p', s', e, _, _, _, q0, q1⟩ := pick_some l hl p s n h0 h1
  rw [e]
  exact ⟨_, _, _, rfl, q0, q1⟩

theorem l1Put_at (p q : List Int) (x : Int) (hl : (p ++ q).length ≤ 1000) (hp : ∀ y ∈ p, y < x) {r : List Int} (h : Ev (fun k => spec_l1Put.l0 k (p ++ q) x (p.length : Int)) r) : Ev (fun k => spec_l1Put.f k (p ++ q) x) r := by
  unfold spec_l1Put.f
  refine Ev.rangeP p (fun k (_ : Unit) i => spec_l1Put.l0 k (p ++ q) x i) (fun _ _ _ => r) (fun _ => h) (fun _ p' y q' e ih => ?_) ()
  refine Ev.succ ?_
  simp only [spec_l1Put.l0]
  have hlen : p'.length < p.length := by rw [e]; simp
  have hlen2 : (p ++ q).length = p.length + q.length := by simp
  have hr : rd (p ++ q) (p'.length : Int) = y := by rw [e, List.append_assoc]; exact rd_mid _ _ _
  have hy := hp y (by rw [e]; simp)
  refine Ev.ite_pos (by omega) (Ev.ite_pos (by omega) (Ev.ite_pos (by omega) ?_))
  rw [wrap_succ (by omega)]
  exact ih ()
theorem l1Put_same (p q : List Int) (x : Int) (hl : (p ++ x :: q).length ≤ 1000) (hp : ∀ y ∈ p, y < x) : Ev (fun k => spec_l1Put.f k (p ++ x :: q) x) (p ++ x :: q) := by
  refine l1Put_at p (x :: q) x hl hp (Ev.succ ?_)
  simp only [spec_l1Put.l0]
  have hlen2 : (p ++ x :: q).length = p.length + q.length + 1 := by simp; omega
  have hr : rd (p ++ x :: q) (p.length : Int) = x := rd_mid _ _ _
  exact Ev.ite_pos (by omega) (Ev.ite_pos (by omega) (Ev.ite_neg (by omega) (Ev.ite_pos hr (Ev.some rfl))))
theorem l1Put_new (p q : List Int) (x : Int) (hl : (p ++ q).length ≤ 1000) (hp : ∀ y ∈ p, y < x) (hq : ∀ y ∈ q, x < y) : Ev (fun k => spec_l1Put.f k (p ++ q) x) (p ++ x :: q) := by
  refine l1Put_at p q x hl hp (Ev.succ ?_)
  simp only [spec_l1Put.l0]
  have hlen2 : (p ++ q).length = p.length + q.length := by simp
  cases q with
  | nil =>
    rw [List.append_nil] at *
    refine Ev.ite_neg (by omega) (Ev.ite_pos (by omega) (Ev.ite_pos (by omega) ?_))
    rw [Int.toNat_natCast, List.take_length, List.drop_length]
    refine Ev.bind (Ev.now _) (Ev.ite_pos (by simp; omega) (Ev.bind (Ev.now _) (Ev.ite_pos (by simp; omega) (Ev.bind (Ev.now _) (Ev.bind (Ev.now _) (Ev.ite_pos (by simp; omega) (Ev.some ?_)))))))
    simp
  | cons y q =>
    have hr : rd (p ++ y :: q) (p.length : Int) = y := rd_mid _ _ _
    have hy := hq y (by simp)
    have hlen3 : (y :: q).length = q.length + 1 := rfl
    refine Ev.ite_pos (by omega) (Ev.ite_pos (by omega) (Ev.ite_neg (by omega) (Ev.ite_neg (by omega) (Ev.ite_pos (by omega) ?_))))
    rw [Int.toNat_natCast, List.take_left, List.drop_left]
    refine Ev.bind (Ev.now _) (Ev.ite_pos (by simp; omega) (Ev.bind (Ev.now _) (Ev.ite_pos (by simp; omega) (Ev.bind (Ev.now _) (Ev.bind (Ev.now _) (Ev.ite_pos (by have h9 := hl; simp at h9 ⊢; omega) (Ev.some ?_)))))))
    simp
/-- What lies in s, of the numbers below n, rising. -/
def srt (n : Nat) (s : List Int) : List Int := (upto n).filter (fun x => decide (x ∈ s))
theorem srt_mem {n : Nat} {s : List Int} {x : Int} : x ∈ srt n s ↔ (0 ≤ x ∧ x < n) ∧ x ∈ s := by
  rw [srt, List.mem_filter, upto_mem, decide_eq_true_iff]
theorem srt_len (n : Nat) (s : List Int) : (srt n s).length ≤ n := by
  have := List.length_filter_le (fun x => decide (x ∈ s)) (upto n)
  rw [upto_length] at this
  exact this
theorem srt_congr {n : Nat} {s : List Int} {B : Int → Bool} (h : ∀ x : Int, 0 ≤ x → x < n → (x ∈ s ↔ B x = true)) : srt n s = (upto n).filter B := by
  unfold srt
  refine List.filter_congr fun x hx => ?_
  have := upto_mem.1 hx
  rw [Bool.eq_iff_iff, decide_eq_true_iff]
  exact h x this.1 this.2
theorem upto_split {n m : Nat} (h : m < n) : ∃ t, upto n = upto m ++ (m : Int) :: t ∧ ∀ y ∈ t, (m : Int) < y := by
  induction n with
  | zero => omega
  | succ n ih =>
    by_cases e : m = n
    · subst e
      exact ⟨[], by rw [upto_succ], by simp⟩
    · obtain ⟨t, ht, hy⟩ := ih (by omega)
      refine ⟨t ++ [(n : Int)], by rw [upto_succ, ht]; simp, fun y hy' => ?_⟩
      rcases List.mem_append.1 hy' with h' | h'
      · exact hy y h'
      · rw [List.mem_singleton] at h'; omega
theorem l1Put_srt (n : Nat) (hn : n ≤ 1000) (s : List Int) (x : Int) (h0 : 0 ≤ x) (h1 : x < n) : Ev (fun k => spec_l1Put.f k (srt n s) x) (srt n (s ++ [x])) := by
  obtain ⟨m, rfl⟩ : ∃ m : Nat, x = m := ⟨x.toNat, by omega⟩
  obtain ⟨t, ht, hy⟩ := upto_split (n := n) (m := m) (by omega)
  have hlen := srt_len n s
  have hlt : ∀ y ∈ (upto m).filter (fun x => decide (x ∈ s)), y < (m : Int) := fun y hy => (upto_mem.1 (List.mem_filter.1 hy).1).2
  have hgt : ∀ y ∈ t.filter (fun x => decide (x ∈ s)), (m : Int) < y := fun y hy' => hy y (List.mem_filter.1 hy').1
  have e1 : (upto m).filter (fun x => decide (x ∈ s ++ [(m : Int)])) = (upto m).filter (fun x => decide (x ∈ s)) := List.filter_congr fun y hy' => by
    have := (upto_mem.1 hy').2
    rw [Bool.eq_iff_iff, decide_eq_true_iff, decide_eq_true_iff, List.mem_append, List.mem_singleton]
    exact ⟨fun h => h.elim id (fun e => by omega), .inl⟩
  have e2 : t.filter (fun x => decide (x ∈ s ++ [(m : Int)])) = t.filter (fun x => decide (x ∈ s)) := List.filter_congr fun y hy' => by
    have := hy y hy'
    rw [Bool.eq_iff_iff, decide_eq_true_iff, decide_eq_true_iff, List.mem_append, List.mem_singleton]
    exact ⟨fun h => h.elim id (fun e => by omega), .inl⟩
  have e3 : srt n (s ++ [(m : Int)]) = (upto m).filter (fun x => decide (x ∈ s)) ++ (m : Int) :: t.filter (fun x => decide (x ∈ s)) := by
    unfold srt
    rw [ht, List.filter_append, List.filter_cons_of_pos (by simp), e1, e2]
  by_cases hm : (m : Int) ∈ s
  · have e4 : srt n s = (upto m).filter (fun x => decide (x ∈ s)) ++ (m : Int) :: t.filter (fun x => decide (x ∈ s)) := by
      unfold srt
      rw [ht, List.filter_append, List.filter_cons_of_pos (by simpa using hm)]
    rw [e3, e4]
    exact l1Put_same _ _ _ (by rw [← e4]; omega) hlt
  · have e4 : srt n s = (upto m).filter (fun x => decide (x ∈ s)) ++ t.filter (fun x => decide (x ∈ s)) := by
      unfold srt
      rw [ht, List.filter_append, List.filter_cons_of_neg (by simpa using hm)]
    rw [e3, e4]
    exact l1Put_new _ _ _ (by rw [← e4]; omega) hlt hgt
theorem srt_add (n : Nat) (s : List Int) (x : Int) (h0 : 0 ≤ x) (h1 : x < n) (hx : x ∉ s) : (srt n (s ++ [x])).length = (srt n s).length + 1 := by
  obtain ⟨m, rfl⟩ : ∃ m : Nat, x = m := ⟨x.toNat, by omega⟩
  obtain ⟨t, ht, hy⟩ := upto_split (n := n) (m := m) (by omega)
  have e1 : (upto m).filter (fun x => decide (x ∈ s ++ [(m : Int)])) = (upto m).filter (fun x => decide (x ∈ s)) := List.filter_congr fun y hy' => by
    have := (upto_mem.1 hy').2
    rw [Bool.eq_iff_iff, decide_eq_true_iff, decide_eq_true_iff, List.mem_append, List.mem_singleton]
    exact ⟨fun h => h.elim id (fun e => by omega), .inl⟩
  have e2 : t.filter (fun x => decide (x ∈ s ++ [(m : Int)])) = t.filter (fun x => decide (x ∈ s)) := List.filter_congr fun y hy' => by
    have := hy y hy'
    rw [Bool.eq_iff_iff, decide_eq_true_iff, decide_eq_true_iff, List.mem_append, List.mem_singleton]
    exact ⟨fun h => h.elim id (fun e => by omega), .inl⟩
  unfold srt
  rw [ht, List.filter_append, List.filter_append, List.filter_cons_of_pos (by simp), List.filter_cons_of_neg (by simpa using hx), e1, e2]
  simp only [List.length_append, List.length_cons]
  omega
theorem srt_one (n : Nat) (x : Int) (h0 : 0 ≤ x) (h1 : x < n) : [x] = srt n [x] := by
  obtain ⟨m, rfl⟩ : ∃ m : Nat, x = m := ⟨x.toNat, by omega⟩
  obtain ⟨t, ht, hy⟩ := upto_split (n := n) (m := m) (by omega)
  unfold srt
  rw [ht, List.filter_append, List.filter_cons_of_pos (by simp)]
  have e1 : (upto m).filter (fun x => decide (x ∈ [(m : Int)])) = [] := List.filter_eq_nil_iff.2 fun y hy' => by
    have := (upto_mem.1 hy').2
    simp; omega
  have e2 : t.filter (fun x => decide (x ∈ [(m : Int)])) = [] := List.filter_eq_nil_iff.2 fun y hy' => by
    have := hy y hy'
    simp; omega
  rw [e1, e2, List.nil_append]

/-- Whatever list a number is put into. -/
theorem l1Put_any (l : List Int) (x : Int) (hl : l.length ≤ 1000) : ∃ r, Ev (fun k => spec_l1Put.f k l x) r ∧ r.length ≤ l.length + 1 := by
  have hsplit : ∃ p q, l = p ++ q ∧ (∀ y ∈ p, y < x) ∧ ∀ y t, q = y :: t → ¬ y < x := by
    clear hl
    induction l with
    | nil => exact ⟨[], [], rfl, by simp, by simp⟩
    | cons a l ih =>
      by_cases h : a < x
      · obtain ⟨p, q, e, h1, h2⟩ := ih
        refine ⟨a :: p, q, by rw [e]; rfl, fun y hy => ?_, h2⟩
        rcases List.mem_cons.1 hy with rfl | hy
        · exact h
        · exact h1 y hy
      · exact ⟨[], a :: l, rfl, by simp, fun y t e => by injection e with e1 _; exact e1 ▸ h⟩
  obtain ⟨p, q, e, h1, h2⟩ := hsplit
  subst e
  have hlen2 : (p ++ q).length = p.length + q.length := by simp
  cases q with
  | nil =>
    refine ⟨p ++ [x], ?_, by simp⟩
    exact l1Put_new p [] x hl h1 (by simp)
  | cons y t =>
    have h3 := h2 y t rfl
    have hlen3 : (y :: t).length = t.length + 1 := rfl
    by_cases hy : y = x
    · subst hy
      exact ⟨p ++ y :: t, l1Put_same p t y hl h1, by omega⟩
    · refine ⟨p ++ x :: y :: t, ?_, by simp; omega⟩
      refine l1Put_at p (y :: t) x hl h1 (Ev.succ ?_)
      simp only [spec_l1Put.l0]
      have hr : rd (p ++ y :: t) (p.length : Int) = y := rd_mid _ _ _
      refine Ev.ite_pos (by omega) (Ev.ite_pos (by omega) (Ev.ite_neg (by omega) (Ev.ite_neg (by omega) (Ev.ite_pos (by omega) ?_))))
      rw [Int.toNat_natCast, List.take_left, List.drop_left]
      refine Ev.bind (Ev.now _) (Ev.ite_pos (by simp; omega) (Ev.bind (Ev.now _) (Ev.ite_pos (by simp; omega) (Ev.bind (Ev.now _) (Ev.bind (Ev.now _) (Ev.ite_pos (by have h9 := hl; simp at h9 ⊢; omega) (Ev.some ?_)))))))
      simp
/-- What a drawn graph is. -/
def DrG (g : List (List Int)) : Prop := g.length ≤ 20 ∧ ∀ x ∈ g, x.length ≤ 5
theorem gRow_ev (l : List Int) (hl : ∀ x ∈ l, (Lit.int .u8 x).wf = true) (n i : Int) (hn0 : 1 ≤ n) (hn1 : n ≤ 13) (hi0 : 0 ≤ i) (hi1 : i ≤ 13) (g : List (List Int)) (hg : g.length ≤ 20)
    {Q : List (List Int) × Int × Int → Prop} (hnext : ∀ (row : List Int) (p s : Int), row.length ≤ 4 → 0 ≤ p → p ≤ 1000 + 100 * (i + 1) → ∃ r, Q r ∧ Ev (fun k => spec_l1Cur_graph7.l0 k n (i + 1) l p s (g ++ [row])) r) :
    ∀ (m : Nat) (row : List Int) (p s : Int), m ≤ 4 → row.length + m ≤ 4 → 0 ≤ p → p + 4 * m ≤ 1000 + 100 * (i + 1) → ∃ r, Q r ∧ Ev (fun k => spec_l1Cur_graph7.l1 k n i row (m : Int) l p s g) r
  | 0, row, p, s, hm, hr, h0, h1 => by
    obtain ⟨r, hQ, hr'⟩ := hnext row p s (by omega) h0 (by omega)
    refine ⟨r, hQ, Ev.succ ?_⟩
    simp only [spec_l1Cur_graph7.l1]
    rw [show wrap64 (i + 1) = i + 1 from wrap64_id (by omega) (by omega)]
    exact Ev.ite_neg (by omega) (Ev.ite_pos (by omega) hr')
  | m + 1, row, p, s, hm, hr, h0, h1 => by
    obtain ⟨v, p1, s1, e1, v0, v1, _, q0, q1⟩ := pick_some l hl p s n h0 (by omega)
    obtain ⟨b, p2, s2, e2, r0, r1⟩ := one_some l hl p1 s1 2 (by omega) (by omega)
    have go : ∀ x, ∃ r, Q r ∧ Ev (fun k => (spec_l1Put.f k row x).bind fun t => (spec_l1Cur_graph7.l1 k n i t (m : Int) l p2 s2 g)) r := fun x => by
      obtain ⟨t, ht, htl⟩ := l1Put_any row x (by omega)
      obtain ⟨r, hQ, hr'⟩ := gRow_ev l hl n i hn0 hn1 hi0 hi1 g hg hnext m t p2 s2 (by omega) (by omega) (by omega) (by omega)
      exact ⟨r, hQ, Ev.bind ht hr'⟩
    have ew : wrap64 (((m + 1 : Nat) : Int) - 1) = (m : Int) := by rw [wrap64_id (by omega) (by omega)]; omega
    cases b with
    | true =>
      obtain ⟨r, hQ, hr'⟩ := go (Int.tmod (wrap64 (i + 1)) n)
      refine ⟨r, hQ, Ev.succ ?_⟩
      simp only [spec_l1Cur_graph7.l1]
      rw [ew]
      exact Ev.ite_pos (by omega) (Ev.bind (Ev.const e1) (Ev.bind (Ev.const e2) (Ev.ite_pos rfl (Ev.ite_neg (by omega) hr'))))
    | false =>
      obtain ⟨r, hQ, hr'⟩ := go v
      refine ⟨r, hQ, Ev.succ ?_⟩
      simp only [spec_l1Cur_graph7.l1]
      rw [ew]
      exact Ev.ite_pos (by omega) (Ev.bind (Ev.const e1) (Ev.bind (Ev.const e2) (Ev.ite_neg (by simp) hr')))
theorem gRows_ev (l : List Int) (hl : ∀ x ∈ l, (Lit.int .u8 x).wf = true) (n : Int) (hn0 : 1 ≤ n) (hn1 : n ≤ 13) : ∀ (m : Nat) (g : List (List Int)) (p s : Int), (g.length : Int) + m = n → (∀ x ∈ g, x.length ≤ 4) → 0 ≤ p → p ≤ 1000 + 100 * g.length →
    ∃ r, DrG r.1 ∧ Ev (fun k => spec_l1Cur_graph7.l0 k n (g.length : Int) l p s g) r
  | 0, g, p, s, hm, hg, h0, h1 => by
    obtain ⟨b, p1, s1, e1, q0, q1⟩ := one_some l hl p s 30 h0 (by omega)
    cases b with
    | true =>
      obtain ⟨v, p2, s2, e2, v0, v1, _, r0, r1⟩ := pick_some l hl p1 s1 (wrap64 (n + 1)) (by omega) (by omega)
      have h4 : (rd_L1 g 0).length ≤ 4 := by
        refine hg _ ?_
        unfold rd_L1
        rw [List.getD_eq_getElem?_getD, List.getElem?_eq_getElem (by omega)]
        exact List.getElem_mem _
      refine ⟨(g.set (0 : Int).toNat (rd_L1 g 0 ++ [v]), p2, s2), ⟨by simp; omega, fun x hx => ?_⟩, Ev.succ ?_⟩
      · rcases List.mem_or_eq_of_mem_set hx with h | h
        · have := hg x h; omega
        · rw [h]; simp; omega
      · simp only [spec_l1Cur_graph7.l0]
        exact Ev.ite_neg (by omega) (Ev.bind (Ev.const e1) (Ev.ite_pos rfl (Ev.ite_pos (by omega) (Ev.bind (Ev.const e2) (Ev.ite_pos (by omega) (Ev.now _))))))
    | false =>
      refine ⟨(g, p1, s1), ⟨by dsimp only; omega, fun x hx => by have := hg x hx; omega⟩, Ev.succ ?_⟩
      simp only [spec_l1Cur_graph7.l0]
      exact Ev.ite_neg (by omega) (Ev.bind (Ev.const e1) (Ev.ite_neg (by simp) (Ev.now _)))
  | m + 1, g, p, s, hm, hg, h0, h1 => by
    obtain ⟨v, p1, s1, e1, v0, v1, _, q0, q1⟩ := pick_some l hl p s 4 h0 (by omega)
    obtain ⟨r, hQ, hr⟩ := gRow_ev l hl n (g.length : Int) hn0 hn1 (by omega) (by omega) g (by omega) (Q := fun r => DrG r.1) (fun row p' s' hrl hp0 hp1 => by
      have := gRows_ev l hl n hn0 hn1 m (g ++ [row]) p' s' (by simp; omega) (fun x hx => by
        rcases List.mem_append.1 hx with h | h
        · exact hg x h
        · rw [List.mem_singleton] at h; rw [h]; exact hrl) hp0 (by simp; omega)
      simpa using this) v.toNat [] p1 s1 (by omega) (by simp; omega) (by omega) (by omega)
    rw [show (v.toNat : Int) = v by omega] at hr
    refine ⟨r, hQ, Ev.succ ?_⟩
    simp only [spec_l1Cur_graph7.l0]
    exact Ev.ite_pos (by omega) (Ev.bind (Ev.const e1) hr)
theorem graph7_ev (l : List Int) (hl : ∀ x ∈ l, (Lit.int .u8 x).wf = true) : ∃ r, DrG r.1 ∧ Ev (fun k => spec_l1Cur_graph7.f k l 0 0) r := by
  unfold spec_l1Cur_graph7.f
  obtain ⟨v, p1, s1, e1, v0, v1, _, q0, q1⟩ := pick_some l hl 0 0 7 (by omega) (by omega)
  obtain ⟨b, p2, s2, e2, r0, r1⟩ := one_some l hl p1 s1 20 (by omega) (by omega)
  have go : ∀ (n p s : Int), 1 ≤ n → n ≤ 13 → 0 ≤ p → p ≤ 1000 → ∃ r, DrG r.1 ∧ Ev (fun k => spec_l1Cur_graph7.j0 k n l p s) r := fun n p s h0 h1 h2 h3 => by
    obtain ⟨r, hQ, hr⟩ := gRows_ev l hl n h0 h1 n.toNat [] p s (by simp; omega) (by simp) h2 (by simp; omega)
    refine ⟨r, hQ, Ev.succ ?_⟩
    simp only [spec_l1Cur_graph7.j0]
    exact hr
  cases b with
  | true =>
    obtain ⟨c, p3, s3, e3, c0, c1, _, t0, t1⟩ := pick_some l hl p2 s2 2 (by omega) (by omega)
    obtain ⟨r, hQ, hr⟩ := go (wrap64 (12 + c)) p3 s3 (by rw [wrap64_id (by omega) (by omega)]; omega) (by rw [wrap64_id (by omega) (by omega)]; omega) (by omega) (by omega)
    exact ⟨r, hQ, Ev.bind (Ev.const e1) (Ev.bind (Ev.const e2) (Ev.ite_pos rfl (Ev.bind (Ev.const e3) hr)))⟩
  | false =>
    obtain ⟨r, hQ, hr⟩ := go (wrap64 (1 + v)) p2 s2 (by rw [wrap64_id (by omega) (by omega)]; omega) (by rw [wrap64_id (by omega) (by omega)]; omega) (by omega) (by omega)
    exact ⟨r, hQ, Ev.bind (Ev.const e1) (Ev.bind (Ev.const e2) (Ev.ite_neg (by simp) hr))⟩
theorem drawOrder_ev (l : List Int) (hl : ∀ x ∈ l, (Lit.int .u8 x).wf = true) : ∃ g, DrG g ∧ Ev (fun k => spec_DrawOrderOf.f k l) g := by
  obtain ⟨r, hQ, hr⟩ := graph7_ev l hl
  refine ⟨r.1, hQ, ?_⟩
  unfold spec_DrawOrderOf.f spec_DrawGoodGraph.f
  exact Ev.bind (Ev.bind hr (Ev.now _)) (Ev.now _)

/-- What DominatorsIn answers. -/
def domIn (g : List (List Int)) : List (List Int) × Bool := if goodGraphB g = true then (tab g.length (domL g g.length), true) else ([], false)
theorem sDomIn_ev (g : List (List Int)) (h0 : g.length ≤ 1048576) (hx : ∀ x ∈ g, x.length ≤ 1048576) : Ev (fun k => spec_DominatorsIn.f k g) (domIn g) := by
  unfold spec_DominatorsIn.f domIn
  refine Ev.bind (sGoodGraph_ev g h0 hx) ?_
  by_cases h : goodGraphB g = true
  · rw [if_pos h]
    exact Ev.ite_pos h (Ev.bind (sDoms_ev (goodGraph_GG h hx)) (Ev.now _))
  · rw [if_neg h]
    exact Ev.ite_neg h (Ev.now _)
theorem iDomIn_ev (g : List (List Int)) (h0 : g.length ≤ 1048576) (hx : ∀ x ∈ g, x.length ≤ 1048576) : Ev (fun k => impl_DominatorsIn.f k g) (domIn g) := by
  unfold impl_DominatorsIn.f domIn
  refine Ev.bind (iGoodGraph_ev g h0 hx) ?_
  by_cases h : goodGraphB g = true
  · rw [if_pos h]
    have hg := goodGraph_GG h hx
    have hhi := hg.hi
    refine Ev.ite_pos h (Ev.ite_pos (by omega) (Ev.ite_pos (by omega) (Ev.bind (iDoms_ev hg) ?_)))
    rw [Int.toNat_natCast, tab_length]
    have e0 : List.replicate g.length ([] : List Int) = tab g.length (fun b : Int => if b < ((0 : Nat) : Int) then domL g g.length b else []) := by
      rw [tab_rep]
      exact tab_congr fun b h _ => by rw [if_neg (by omega)]
    rw [e0]
    refine Ev.count g.length (fun k x i => impl_DominatorsIn.l0 k x (tab g.length (fun b => tab g.length (fun d => domB g d b))) (g.length : Int) i) (fun m => tab g.length (fun b : Int => if b < (m : Int) then domL g g.length b else [])) _ ?_ (fun m hm ih => ?_)
    · refine Ev.succ ?_
      simp only [impl_DominatorsIn.l0]
      refine Ev.ite_neg (by omega) (Ev.some ?_)
      rw [tab_congr (G := domL g g.length) (fun b _ hb => by rw [if_pos hb])]
    · refine Ev.succ ?_
      simp only [impl_DominatorsIn.l0]
      refine Ev.ite_pos (by omega) (Ev.ite_pos (by omega) (Ev.ite_pos (by rw [tab_length]; omega) ?_))
      rw [show rd_L5 (tab g.length (fun b => tab g.length (fun d => domB g d b))) (m : Int) = tab g.length (fun d => domB g d m) from tab_getD _ (by omega) (by omega) _]
      refine Ev.bind (listOf_ev g.length (by omega) _) (Ev.ite_pos (by rw [tab_length]; omega) ?_)
      rw [wrap_succ (by omega), tab_set _ (by omega)]
      rw [show tab g.length (fun b : Int => if b = (m : Int) then (upto g.length).filter (fun d => domB g d m) else if b < (m : Int) then domL g g.length b else []) = tab g.length (fun b : Int => if b < ((m + 1 : Nat) : Int) then domL g g.length b else []) from ?_]
      · exact ih
      · refine tab_congr fun b _ _ => ?_
        by_cases hb : b = m
        · rw [if_pos hb, if_pos (by omega), hb]; rfl
        · rw [if_neg hb]
          by_cases h : b < (m : Int)
          · rw [if_pos h, if_pos (by omega)]
          · rw [if_neg h, if_neg (by omega)]
  · rw [if_neg h]
    exact Ev.ite_neg h (Ev.now _)
theorem domIn_small (g : List (List Int)) (h0 : g.length ≤ 1048576) : (domIn g).1.length ≤ 1048576 ∧ ∀ x ∈ (domIn g).1, x.length ≤ 1048576 := by
  unfold domIn
  split
  · refine ⟨by rw [tab_length]; omega, fun x hx => ?_⟩
    obtain ⟨b, _, _, rfl⟩ := tab_mem.1 hx
    have := domL_len g g.length b
    omega
  · simp

/-- The back edges out of i, of these goals. -/
def backRow (g : List (List Int)) (i : Int) : List Int → List (List Int)
  | [] => []
  | x :: q => (if domB g x i = true then [[i, x]] else []) ++ backRow g i q
def backAll (g : List (List Int)) : Nat → List (List Int)
  | 0 => []
  | m + 1 => backAll g m ++ backRow g m (rowG g m)
theorem backRow_append (g : List (List Int)) (i : Int) : ∀ p q : List Int, backRow g i (p ++ q) = backRow g i p ++ backRow g i q
  | [], _ => rfl
  | x :: p, q => by simp only [List.cons_append, backRow]; rw [backRow_append g i p q, List.append_assoc]
theorem backRow_len (g : List (List Int)) (i : Int) : ∀ q : List Int, (backRow g i q).length ≤ q.length ∧ ∀ x ∈ backRow g i q, x.length = 2
  | [] => by simp [backRow]
  | x :: q => by
    have h := backRow_len g i q
    rw [backRow]
    split
    · simp only [List.cons_append, List.nil_append, List.length_cons]
      refine ⟨by omega, fun y hy => ?_⟩
      rcases List.mem_cons.1 hy with rfl | hy
      · rfl
      · exact h.2 y hy
    · simp only [List.nil_append, List.length_cons]
      exact ⟨by omega, h.2⟩
theorem backAll_len {g : List (List Int)} (hg : GG g) : ∀ m : Nat, m ≤ g.length → (backAll g m).length ≤ m * 1048576 ∧ ∀ x ∈ backAll g m, x.length = 2
  | 0, _ => by simp [backAll]
  | m + 1, h => by
    have h1 := backAll_len hg m (by omega)
    have h2 := backRow_len g m (rowG g m)
    have h3 := hg.row _ (rowG_mem (g := g) (x := m) (by omega) (by omega))
    rw [backAll, List.length_append]
    refine ⟨by omega, fun x hx => ?_⟩
    rcases List.mem_append.1 hx with hx | hx
    · exact h1.2 x hx
    · exact h2.2 x hx
theorem iBackRow_ev {g : List (List Int)} (hg : GG g) (m : Nat) (hm : m < g.length) {r : List (List Int)}
    (hnext : Ev (fun k => impl_Graph_backEdges.l0 k g (tab g.length (fun b : Int => tab g.length (fun d : Int => domB g d b))) (backAll g (m + 1)) ((m : Int) + 1)) r) :
    Ev (fun k => impl_Graph_backEdges.l1 k g (tab g.length (fun b : Int => tab g.length (fun d : Int => domB g d b))) (backAll g m) (m : Int) (rowG g m) 0) r := by
  have hhi := hg.hi
  have hr := rowG_mem (g := g) (x := m) (by omega) (by omega)
  have hrow := hg.row _ hr
  have hin := hg.inn _ hr
  have hb0 := (backAll_len hg m (by omega)).1
  rw [backAll] at hnext
  generalize rowG g m = row at hrow hin hnext ⊢
  have main := Ev.rangeI row (fun k x j => impl_Graph_backEdges.l1 k g (tab g.length (fun b : Int => tab g.length (fun d : Int => domB g d b))) x (m : Int) row j) (fun _ _ _ => r) (fun x p => x = backAll g m ++ backRow g m p) (fun x hx => ?_) (fun x p y q e hx ih2 => ?_) (backAll g m) (by simp [backRow])
  · exact main
  · refine Ev.succ ?_
    simp only [impl_Graph_backEdges.l1]
    refine Ev.ite_neg (by omega) ?_
    rw [wrap_succ (by omega), hx]
    exact hnext
  · refine Ev.succ ?_
    simp only [impl_Graph_backEdges.l1]
    have hlen : p.length < row.length := by rw [e]; simp
    have hrd : rd row (p.length : Int) = y := by rw [e]; exact rd_mid _ _ _
    have hy := hin y (by rw [e]; simp)
    have hxl : x.length ≤ m * 1048576 + p.length := by rw [hx, List.length_append]; have := (backRow_len g m p).1; omega
    refine Ev.ite_pos (by omega) (Ev.ite_pos (by omega) (Ev.ite_pos (by rw [tab_length]; omega) ?_))
    rw [hrd, tab_getD _ (by omega) (by omega)]
    refine Ev.ite_pos hy.1 (Ev.ite_pos (by rw [tab_length]; exact hy.2) ?_)
    rw [show rdOf false (tab g.length (fun d : Int => domB g d m)) y = domB g y m from tab_getD _ hy.1 hy.2 _, wrap_succ (by omega)]
    by_cases hd : domB g y m = true
    · refine Ev.ite_pos hd (Ev.ite_pos (by omega) (ih2 _ ?_))
      rw [hx, backRow_append, List.append_assoc]
      simp [backRow, hd]
    · refine Ev.ite_neg hd (ih2 _ ?_)
      rw [hx, backRow_append]
      simp [backRow, hd]
theorem iBack_ev {g : List (List Int)} (hg : GG g) : Ev (fun k => impl_Graph_backEdges.f k g) (backAll g g.length) := by
  have hhi := hg.hi
  unfold impl_Graph_backEdges.f
  refine Ev.bind (iDoms_ev hg) ?_
  refine Ev.count g.length (fun k x i => impl_Graph_backEdges.l0 k g (tab g.length (fun b : Int => tab g.length (fun d : Int => domB g d b))) x i) (fun m => backAll g m) _ ?_ (fun m hm ih => ?_)
  · refine Ev.succ ?_
    simp only [impl_Graph_backEdges.l0]
    exact Ev.ite_neg (by omega) (Ev.some rfl)
  · refine Ev.succ ?_
    simp only [impl_Graph_backEdges.l0]
    refine Ev.ite_pos (by omega) (Ev.ite_pos (by omega) ?_)
    exact iBackRow_ev hg m hm ih
theorem sBackRow_ev {g : List (List Int)} (hg : GG g) (m : Nat) (hm : m < g.length) {r : List (List Int)}
    (hnext : Ev (fun k => spec_l7Back.l0 k (tab g.length (domL g g.length)) (backAll g (m + 1)) g (g.length : Int) ((m : Int) + 1)) r) :
    Ev (fun k => spec_l7Back.l1 k (tab g.length (domL g g.length)) (backAll g m) (m : Int) g (g.length : Int) (m : Int) (rowG g m) ((rowG g m).length : Int) 0) r := by
  have hhi := hg.hi
  have hr := rowG_mem (g := g) (x := m) (by omega) (by omega)
  have hrow := hg.row _ hr
  have hin := hg.inn _ hr
  have hb0 := (backAll_len hg m (by omega)).1
  rw [backAll] at hnext
  generalize rowG g m = row at hrow hin hnext ⊢
  have main := Ev.rangeI row (fun k x j => spec_l7Back.l1 k (tab g.length (domL g g.length)) x (m : Int) g (g.length : Int) (m : Int) row (row.length : Int) j) (fun _ _ _ => r) (fun x p => x = backAll g m ++ backRow g m p) (fun x hx => ?_) (fun x p y q e hx ih2 => ?_) (backAll g m) (by simp [backRow])
  · exact main
  · refine Ev.succ ?_
    simp only [spec_l7Back.l1]
    refine Ev.ite_neg (by omega) ?_
    rw [wrap_succ (by omega), hx]
    exact hnext
  · refine Ev.succ ?_
    simp only [spec_l7Back.l1]
    have hlen : p.length < row.length := by rw [e]; simp
    have hrd : rd row (p.length : Int) = y := by rw [e]; exact rd_mid _ _ _
    have hy := hin y (by rw [e]; simp)
    have hxl : x.length ≤ m * 1048576 + p.length := by rw [hx, List.length_append]; have := (backRow_len g m p).1; omega
    refine Ev.ite_pos (by omega) (Ev.ite_pos (by omega) (Ev.ite_pos (by omega) (Ev.ite_pos (by omega) (Ev.ite_pos (by rw [tab_length]; omega) ?_))))
    rw [hrd, show rd_L1 (tab g.length (domL g g.length)) (m : Int) = domL g g.length m from tab_getD _ (by omega) (by omega) _]
    refine Ev.bind (l1Has_ev _ _ (by have := domL_len g g.length m; omega)) ?_
    rw [domL_mem hy.1 hy.2, wrap_succ (by omega)]
    by_cases hd : domB g y m = true
    · refine Ev.ite_pos hd (Ev.ite_pos (by omega) (ih2 _ ?_))
      rw [hx, backRow_append, List.append_assoc]
      simp [backRow, hd]
    · refine Ev.ite_neg hd (ih2 _ ?_)
      rw [hx, backRow_append]
      simp [backRow, hd]
theorem sBack_ev {g : List (List Int)} (hg : GG g) : Ev (fun k => spec_l7Back.f k g (tab g.length (domL g g.length))) (backAll g g.length) := by
  have hhi := hg.hi
  unfold spec_l7Back.f
  refine Ev.count g.length (fun k x i => spec_l7Back.l0 k (tab g.length (domL g g.length)) x g (g.length : Int) i) (fun m => backAll g m) _ ?_ (fun m hm ih => ?_)
  · refine Ev.succ ?_
    simp only [spec_l7Back.l0]
    exact Ev.ite_neg (by omega) (Ev.some rfl)
  · refine Ev.succ ?_
    simp only [spec_l7Back.l0]
    refine Ev.ite_pos (by omega) (Ev.ite_pos (by omega) (Ev.ite_pos (by omega) ?_))
    exact sBackRow_ev hg m hm ih
theorem backAll_len2 {g : List (List Int)} (hg : GG g) : ∀ m : Nat, m ≤ g.length → (backAll g m).length ≤ m * 12 ∧ ∀ x ∈ backAll g m, x.length = 2
  | 0, _ => by simp [backAll]
  | m + 1, h => by
    have h1 := backAll_len2 hg m (by omega)
    have h2 := backRow_len g m (rowG g m)
    have h3 := (hg.ok (rowG_mem (g := g) (x := m) (by omega) (by omega))).le
    have := hg.hi
    rw [backAll, List.length_append]
    refine ⟨by omega, fun x hx => ?_⟩
    rcases List.mem_append.1 hx with hx | hx
    · exact h1.2 x hx
    · exact h2.2 x hx

/-- What BackEdgesIn answers. -/
def backIn (g : List (List Int)) : List (List Int) × Bool := if goodGraphB g = true then (backAll g g.length, true) else ([], false)
theorem sBackIn_ev (g : List (List Int)) (h0 : g.length ≤ 1048576) (hx : ∀ x ∈ g, x.length ≤ 1048576) : Ev (fun k => spec_BackEdgesIn.f k g) (backIn g) := by
  unfold spec_BackEdgesIn.f backIn
  refine Ev.bind (sGoodGraph_ev g h0 hx) ?_
  by_cases h : goodGraphB g = true
  · rw [if_pos h]
    have hg := goodGraph_GG h hx
    exact Ev.ite_pos h (Ev.bind (sDoms_ev hg) (Ev.bind (sBack_ev hg) (Ev.now _)))
  · rw [if_neg h]
    exact Ev.ite_neg h (Ev.now _)
theorem iBackIn_ev (g : List (List Int)) (h0 : g.length ≤ 1048576) (hx : ∀ x ∈ g, x.length ≤ 1048576) : Ev (fun k => impl_BackEdgesIn.f k g) (backIn g) := by
  unfold impl_BackEdgesIn.f backIn
  refine Ev.bind (iGoodGraph_ev g h0 hx) ?_
  by_cases h : goodGraphB g = true
  · rw [if_pos h]
    exact Ev.ite_pos h (Ev.bind (iBack_ev (goodGraph_GG h hx)) (Ev.now _))
  · rw [if_neg h]
    exact Ev.ite_neg h (Ev.now _)
theorem backIn_small (g : List (List Int)) (h0 : g.length ≤ 1048576) (hx : ∀ x ∈ g, x.length ≤ 1048576) : (backIn g).1.length ≤ 1048576 ∧ ∀ x ∈ (backIn g).1, x.length ≤ 1048576 := by
  unfold backIn
  by_cases h : goodGraphB g = true
  · rw [if_pos h]
    have hg := goodGraph_GG h hx
    have h1 := backAll_len2 hg g.length (Nat.le_refl _)
    have := hg.hi
    exact ⟨by dsimp only; omega, fun x hx => by have := h1.2 x hx; omega⟩
  · rw [if_neg h]; simp

theorem sameInts_l0 (q : List Int) : ∀ p : List Int, p.length + q.length ≤ 1000000000000000 → Ev (fun k => laws_sameInts.l0 k (p ++ q) (p ++ q) ((p ++ q).length : Int) (p.length : Int)) true := by
  induction q with
  | nil =>
    intro p h
    refine Ev.succ ?_
    simp only [laws_sameInts.l0]
    exact Ev.ite_neg (by simp) (Ev.now _)
  | cons x q ih =>
    intro p h
    simp only [List.length_cons] at h
    have hk := ih (p ++ [x]) (by simp; omega)
    simp only [List.append_assoc, List.cons_append, List.nil_append] at hk
    have e1 : wrap64 ((p.length : Int) + 1) = ((p ++ [x]).length : Int) := by
      rw [wrap64_id (by omega) (by omega)]; simp
    refine Ev.succ ?_
    simp only [laws_sameInts.l0]
    refine Ev.ite_pos (by simp; omega) (Ev.ite_pos (by omega) (Ev.ite_pos (by simp; omega) (Ev.ite_pos (by simp; omega) (Ev.ite_pos (by trivial) ?_))))
    rw [e1]; exact hk
theorem sameInts_ev (l : List Int) (h : l.length ≤ 1000000000000000) : Ev (fun k => laws_sameInts.f k l l) true := by
  unfold laws_sameInts.f
  exact Ev.ite_pos (by trivial) (sameInts_l0 l [] (by simpa using h))

theorem sameLists_ev (l : List (List Int)) (h : l.length ≤ 1000000000000000) (hx : ∀ x ∈ l, x.length ≤ 1000000000000000) : Ev (fun k => laws_sameLists.f k l l) true := by
  unfold laws_sameLists.f
  refine Ev.ite_pos (by trivial) ?_
  refine Ev.rangeI l (fun k (_ : Unit) i => laws_sameLists.l0 k l l (l.length : Int) i) (fun _ _ _ => true) (fun _ _ => True) (fun _ _ => ?_) (fun _ p y q e _ ih => ?_) () trivial
  · refine Ev.succ ?_
    simp only [laws_sameLists.l0]
    exact Ev.ite_neg (by omega) (Ev.now _)
  · refine Ev.succ ?_
    simp only [laws_sameLists.l0]
    have hlen : p.length < l.length := by rw [e]; simp
    have hy : rd_L1 l (p.length : Int) = y := by rw [e]; exact getD_mid _ _ _ _
    refine Ev.ite_pos (by omega) (Ev.ite_pos (by omega) (Ev.ite_pos (by omega) (Ev.ite_pos (by omega) ?_)))
    rw [hy, wrap_succ (by omega)]
    exact Ev.bind (sameInts_ev y (hx y (by rw [e]; simp))) (Ev.ite_pos rfl (ih () trivial))
theorem has_ev (l : List Int) (x : Int) (hl : l.length ≤ 1000000000000000) : Ev (fun k => laws_has.f k l x) (decide (x ∈ l)) := by
  unfold laws_has.f
  refine Ev.rangeI l (fun k (_ : Unit) i => laws_has.l0 k x l (l.length : Int) i) (fun _ _ _ => decide (x ∈ l)) (fun _ p => x ∉ p) (fun _ hp => ?_) (fun _ p y q e hp ih => ?_) () (by simp)
  · refine Ev.succ ?_
    simp only [laws_has.l0]
    exact Ev.ite_neg (by omega) (Ev.some (decide_eq_false hp).symm)
  · refine Ev.succ ?_
    simp only [laws_has.l0]
    have hlen : p.length < l.length := by rw [e]; simp
    have hr : rd l (p.length : Int) = y := by rw [e]; exact rd_mid _ _ _
    refine Ev.ite_pos (by omega) (Ev.ite_pos (by omega) (Ev.ite_pos (by omega) ?_))
    rw [hr]
    by_cases h : y = x
    · exact Ev.ite_pos h (Ev.some (by symm; rw [decide_eq_true_iff, e]; simp [h]))
    · refine Ev.ite_neg h ?_
      rw [wrap_succ (by omega)]
      exact ih () (by simp [hp]; omega)
theorem backRow_mem (g : List (List Int)) (i : Int) : ∀ (q : List Int) (e : List Int), e ∈ backRow g i q → ∃ x ∈ q, domB g x i = true ∧ e = [i, x]
  | [], e, h => by simp [backRow] at h
  | x :: q, e, h => by
    rw [backRow] at h
    rcases List.mem_append.1 h with h | h
    · by_cases hd : domB g x i = true
      · rw [if_pos hd, List.mem_singleton] at h
        exact ⟨x, by simp, hd, h⟩
      · rw [if_neg hd] at h; simp at h
    · obtain ⟨y, hy, h2⟩ := backRow_mem g i q e h
      exact ⟨y, List.mem_cons_of_mem _ hy, h2⟩
theorem backAll_mem {g : List (List Int)} : ∀ (m : Nat) (e : List Int), e ∈ backAll g m → ∃ i x : Int, 0 ≤ i ∧ i < m ∧ x ∈ rowG g i ∧ domB g x i = true ∧ e = [i, x]
  | 0, e, h => by simp [backAll] at h
  | m + 1, e, h => by
    rw [backAll] at h
    rcases List.mem_append.1 h with h | h
    · obtain ⟨i, x, h0, h1, h2⟩ := backAll_mem m e h
      exact ⟨i, x, h0, by omega, h2⟩
    · obtain ⟨x, hx, hd, he⟩ := backRow_mem g m _ e h
      exact ⟨m, x, by omega, by omega, hx, hd, he⟩
/-- A node's place in the order. -/
def pl (o : List Int) (b : Int) : Int := if b ∈ o then ((o.idxOf b : Nat) : Int) else -1
theorem pl_nonneg {o : List Int} {b : Int} : 0 ≤ pl o b ↔ b ∈ o := by
  unfold pl
  by_cases h : b ∈ o
  · rw [if_pos h]; exact ⟨fun _ => h, fun _ => by omega⟩
  · rw [if_neg h]; exact ⟨fun e => by omega, fun e => absurd e h⟩
theorem pl_le {o : List Int} {a b : Int} (ha : a ∈ o) (hb : b ∈ o) : pl o a ≤ pl o b ↔ o.idxOf a ≤ o.idxOf b := by
  unfold pl
  rw [if_pos ha, if_pos hb]
  omega
theorem dom_left {g : List (List Int)} {x k : Int} (h : domB g x k = true) : x ∈ leftG g [] ∧ k ∈ leftG g [] := by
  unfold domB at h
  simp only [Bool.and_eq_true, decide_eq_true_iff] at h
  exact ⟨h.1, h.2.1⟩
section
variable {g o : List (List Int)}
/-- The last loop: the back edges. -/
theorem l5_ev {g : List (List Int)} (hg : GG g) : Ev (fun k => laws_FnGraphs.l5 k (tab g.length (domL g g.length)) (backAll g g.length) ((backAll g g.length).length : Int) 0 g) true := by
  have hhi := hg.hi
  have hbl := (backAll_len hg g.length (Nat.le_refl _)).1
  refine Ev.rangeI (backAll g g.length) (fun k (_ : Unit) i => laws_FnGraphs.l5 k (tab g.length (domL g g.length)) (backAll g g.length) ((backAll g g.length).length : Int) i g) (fun _ _ _ => true) (fun _ _ => True) (fun _ _ => ?_) (fun _ p e q he _ ih => ?_) () trivial
  · refine Ev.succ ?_
    simp only [laws_FnGraphs.l5]
    exact Ev.ite_neg (by omega) (Ev.now _)
  · obtain ⟨i, x, h0, h1, hx, hd, rfl⟩ := backAll_mem g.length e (by rw [he]; simp)
    have hlen : p.length < (backAll g g.length).length := by rw [he]; simp
    have hy : rd_L1 (backAll g g.length) (p.length : Int) = [i, x] := by rw [he]; exact getD_mid _ _ _ _
    have hr := rowG_mem (g := g) h0 h1
    have hxn := hg.inn _ hr x hx
    have hrl := (hg.ok hr).le
    have hdl := domL_len g g.length i
    refine Ev.succ ?_
    simp only [laws_FnGraphs.l5]
    rw [hy, wrap_succ (by omega), show rd [i, x] 0 = i from rfl, show rd [i, x] 1 = x from rfl]
    rw [show rd_L1 (tab g.length (domL g g.length)) i = domL g g.length i from tab_getD _ h0 h1 _, show rd_L1 g i = rowG g i from rfl]
    refine Ev.ite_pos (by omega) (Ev.ite_pos (by omega) (Ev.ite_pos (by omega) (Ev.ite_pos (by simp) (Ev.ite_pos h0 (Ev.ite_pos (by rw [tab_length]; exact h1) (Ev.ite_pos (by simp) (Ev.bind (has_ev _ _ (by omega)) ?_)))))))
    refine Ev.ite_pos (by rw [domL_mem hxn.1 hxn.2]; exact hd) (Ev.ite_pos h1 (Ev.bind (has_ev _ _ (by omega)) (Ev.ite_pos (by simpa using hx) (ih () trivial))))
/-- The edges out of a node. -/
theorem l4_ev {g : List (List Int)} (hg : GG g) {o : List Int} (ho : Ord g o) (m : Nat) (hm : m < g.length)
    (hnext : Ev (fun k => laws_FnGraphs.l2 k (tab g.length (domL g g.length)) (backAll g g.length) (tab g.length (pl o)) (!cycB g) (tab g.length (domL g g.length)) ((tab g.length (domL g g.length)).length : Int) ((m : Int) + 1) g) true) :
    Ev (fun k => laws_FnGraphs.l4 k (tab g.length (domL g g.length)) (backAll g g.length) (tab g.length (pl o)) (!cycB g) (m : Int) (tab g.length (domL g g.length)) ((tab g.length (domL g g.length)).length : Int) (m : Int) (rowG g m) ((rowG g m).length : Int) 0 g) true := by
  have hhi := hg.hi
  have hr := rowG_mem (g := g) (x := m) (by omega) (by omega)
  have hrl := (hg.ok hr).le
  have hpm : rd (tab g.length (pl o)) (m : Int) = pl o m := tab_getD _ (by omega) (by omega) _
  have hdl := domL_len g g.length m
  refine Ev.rangeI (rowG g m) (fun k (_ : Unit) i => laws_FnGraphs.l4 k (tab g.length (domL g g.length)) (backAll g g.length) (tab g.length (pl o)) (!cycB g) (m : Int) (tab g.length (domL g g.length)) ((tab g.length (domL g g.length)).length : Int) (m : Int) (rowG g m) ((rowG g m).length : Int) i g) (fun _ _ _ => true) (fun _ _ => True) (fun _ _ => ?_) (fun _ p x q he _ ih => ?_) () trivial
  · refine Ev.succ ?_
    simp only [laws_FnGraphs.l4]
    rw [wrap_succ (n := m) (by omega)]
    exact Ev.ite_neg (by omega) hnext
  · have hlen : p.length < (rowG g m).length := by rw [he]; simp
    have hy : rd (rowG g m) (p.length : Int) = x := by rw [he]; exact rd_mid _ _ _
    have hx : x ∈ rowG g m := by rw [he]; simp
    have hxn := hg.inn _ hr x hx
    have hpx : rd (tab g.length (pl o)) x = pl o x := tab_getD _ hxn.1 hxn.2 _
    refine Ev.succ ?_
    simp only [laws_FnGraphs.l4]
    rw [hy, wrap_succ (n := p.length) (by omega), hpm, hpx, tab_length, tab_length]
    rw [show rd_L1 (tab g.length (domL g g.length)) (m : Int) = domL g g.length m from tab_getD _ (by omega) (by omega) _]
    have ih2 := ih () trivial
    rw [tab_length] at ih2
    refine Ev.ite_pos (by omega) (Ev.ite_pos (by omega) (Ev.ite_pos (by omega) (Ev.ite_pos (by omega) (Ev.ite_pos (by omega) ?_))))
    by_cases h1 : pl o m ≥ 0
    · refine Ev.ite_pos h1 (Ev.ite_pos hxn.1 (Ev.ite_pos hxn.2 ?_))
      by_cases h2 : pl o x ≤ pl o m
      · refine Ev.ite_pos h2 ?_
        cases hc : cycB g with
        | true => 
          rw [hc] at ih2
          exact Ev.ite_neg (by simp) ih2
        | false =>
          have hmo := pl_nonneg.1 h1
          have hxo : x ∈ o := (ho.mem x).2 (by
            have h3 := (ho.mem _).1 hmo
            rw [leftG_iff hg (by simp)] at h3 ⊢
            exact h3.snoc ⟨hx, by simp⟩)
          have hd := ho.red hc _ hmo x hx ((pl_le hxo hmo).1 h2)
          rw [hc] at ih2
          refine Ev.ite_pos rfl (Ev.ite_pos (by omega) (Ev.bind (has_ev _ _ (by omega)) (Ev.ite_pos (by rw [domL_mem hxn.1 hxn.2]; exact hd) ih2)))
      · exact Ev.ite_neg h2 ih2
    · exact Ev.ite_neg h1 ih2
theorem l3_ev {g : List (List Int)} (hg : GG g) {o : List Int} (ho : Ord g o) (m : Nat) (hm : m < g.length)
    (hnext : Ev (fun k => laws_FnGraphs.l2 k (tab g.length (domL g g.length)) (backAll g g.length) (tab g.length (pl o)) (!cycB g) (tab g.length (domL g g.length)) ((tab g.length (domL g g.length)).length : Int) ((m : Int) + 1) g) true) :
    Ev (fun k => laws_FnGraphs.l3 k (tab g.length (domL g g.length)) (backAll g g.length) (tab g.length (pl o)) (!cycB g) (m : Int) (tab g.length (domL g g.length)) ((tab g.length (domL g g.length)).length : Int) (m : Int) (domL g g.length m) ((domL g g.length m).length : Int) 0 g) true := by
  have hhi := hg.hi
  have hpm : rd (tab g.length (pl o)) (m : Int) = pl o m := tab_getD _ (by omega) (by omega) _
  have hdl := domL_len g g.length m
  refine Ev.rangeI (domL g g.length m) (fun k (_ : Unit) i => laws_FnGraphs.l3 k (tab g.length (domL g g.length)) (backAll g g.length) (tab g.length (pl o)) (!cycB g) (m : Int) (tab g.length (domL g g.length)) ((tab g.length (domL g g.length)).length : Int) (m : Int) (domL g g.length m) ((domL g g.length m).length : Int) i g) (fun _ _ _ => true) (fun _ _ => True) (fun _ _ => ?_) (fun _ p x q he _ ih => ?_) () trivial
  · refine Ev.succ ?_
    simp only [laws_FnGraphs.l3]
    exact Ev.ite_neg (by omega) (Ev.ite_pos (by omega) (Ev.ite_pos (by omega) (l4_ev hg ho m hm hnext)))
  · have hlen : p.length < (domL g g.length m).length := by rw [he]; simp
    have hy : rd (domL g g.length m) (p.length : Int) = x := by rw [he]; exact rd_mid _ _ _
    have hx : x ∈ domL g g.length m := by rw [he]; simp
    have hxn := domL_lt hx
    have hd : domB g x m = true := by rw [← domL_mem hxn.1 hxn.2]; simpa using hx
    have hl := dom_left hd
    have hle := (pl_le ((ho.mem x).2 hl.1) ((ho.mem _).2 hl.2)).2 (ho.dom _ ((ho.mem _).2 hl.2) x hd)
    have hpx : rd (tab g.length (pl o)) x = pl o x := tab_getD _ hxn.1 hxn.2 _
    have ih2 := ih () trivial
    refine Ev.succ ?_
    simp only [laws_FnGraphs.l3]
    rw [hy, wrap_succ (n := p.length) (by omega), hpm, hpx]
    refine Ev.ite_pos (by omega) (Ev.ite_pos (by omega) (Ev.ite_pos (by omega) (Ev.ite_pos hxn.1 (Ev.ite_pos (by rw [tab_length]; exact hxn.2) (Ev.ite_pos (by omega) (Ev.ite_pos (by rw [tab_length]; omega) (Ev.ite_neg (by omega) ih2)))))))
theorem l2_ev {g : List (List Int)} (hg : GG g) {o : List Int} (ho : Ord g o) :
    Ev (fun k => laws_FnGraphs.l2 k (tab g.length (domL g g.length)) (backAll g g.length) (tab g.length (pl o)) (!cycB g) (tab g.length (domL g g.length)) ((tab g.length (domL g g.length)).length : Int) 0 g) true := by
  have hhi := hg.hi
  have hlo := hg.lo
  refine Ev.count g.length (fun k (_ : Unit) i => laws_FnGraphs.l2 k (tab g.length (domL g g.length)) (backAll g g.length) (tab g.length (pl o)) (!cycB g) (tab g.length (domL g g.length)) ((tab g.length (domL g g.length)).length : Int) i g) (fun _ => ()) _ ?_ (fun m hm ih => ?_)
  · refine Ev.succ ?_
    simp only [laws_FnGraphs.l2]
    exact Ev.ite_neg (by rw [tab_length]; omega) (l5_ev hg)
  · have hpm : rd (tab g.length (pl o)) (m : Int) = pl o m := tab_getD _ (by omega) (by omega) _
    refine Ev.succ ?_
    simp only [laws_FnGraphs.l2]
    rw [hpm, show rd_L1 (tab g.length (domL g g.length)) (m : Int) = domL g g.length m from tab_getD _ (by omega) (by omega) _]
    refine Ev.ite_pos (by rw [tab_length]; omega) (Ev.ite_pos (by omega) (Ev.ite_pos (by rw [tab_length]; omega) (Ev.ite_pos (by rw [tab_length]; omega) (Ev.ite_neg ?_ (l3_ev hg ho m hm ih)))))
    have hiff : ((domL g g.length m).length : Int) > 0 ↔ pl o m ≥ 0 := by
      rw [show (pl o m ≥ 0) = (0 ≤ pl o m) from rfl, pl_nonneg, ho.mem]
      constructor
      · intro h
        obtain ⟨x, hx⟩ : ∃ x, x ∈ domL g g.length m := List.exists_mem_of_length_pos (by omega)
        have hxn := domL_lt hx
        exact (dom_left (by rw [← domL_mem hxn.1 hxn.2]; simpa using hx)).2
      · intro h
        have h0 : (0 : Int) ∈ domL g g.length m := by
          have h1 : domB g 0 m = true := by
            unfold domB
            simp only [Bool.and_eq_true, decide_eq_true_iff, Bool.not_eq_true', decide_eq_false_iff_not]
            exact ⟨(leftG_iff hg (by simp) 0).2 (.refl _), h, by unfold leftG; rw [if_pos (by simp)]; simp⟩
          rw [← domL_mem (g := g) (m := g.length) (by omega) (by omega)] at h1
          simpa using h1
        have := List.length_pos_of_mem h0
        omega
    have : decide (((domL g g.length m).length : Int) > 0) = decide (pl o m ≥ 0) := by rw [Bool.eq_iff_iff, decide_eq_true_iff, decide_eq_true_iff]; exact hiff
    rw [this]
    simp
theorem l1_ev {g : List (List Int)} (hg : GG g) (hx : ∀ x ∈ g, x.length ≤ 1048576) (hgB : goodGraphB g = true) {o : List Int} (ho : Ord g o) :
    Ev (fun k => laws_FnGraphs.l1 k o (tab g.length (domL g g.length)) (backAll g g.length) (List.replicate g.length (-1)) o (o.length : Int) 0 g) true := by
  have hhi := hg.hi
  have hole := ho.ok.le
  refine Ev.rangeI o (fun k b i => laws_FnGraphs.l1 k o (tab g.length (domL g g.length)) (backAll g g.length) b o (o.length : Int) i g) (fun _ _ _ => true) (fun b p => b = tab g.length (fun b => if b ∈ p then pl o b else -1)) (fun b hb => ?_) (fun b p x q he hb ih => ?_) _ (by rw [tab_rep]; exact tab_congr fun b _ _ => by simp)
  · have e1 : tab g.length (fun b => if b ∈ o then pl o b else -1) = tab g.length (pl o) := tab_congr fun b _ _ => by
      by_cases h : b ∈ o
      · rw [if_pos h]
      · rw [if_neg h]; unfold pl; rw [if_neg h]
    rw [e1] at hb
    subst hb
    obtain ⟨t, ht⟩ := ho.head
    refine Ev.succ ?_
    simp only [laws_FnGraphs.l1]
    have hred : Ev (fun k => impl_IsReducible.f k g) (!cycB g, true) := by
      have := iRedIn_ev g (by omega) hx
      unfold redIn at this
      rwa [if_pos hgB] at this
    refine Ev.ite_neg (by omega) (Ev.bind hred (Ev.ite_pos rfl (Ev.ite_pos (by rw [ht]; simp) (Ev.succ ?_))))
    simp only [laws_FnGraphs.j3]
    exact Ev.ite_neg (by rw [ht]; simp [rd]) (l2_ev hg ho)
  · have hlen : p.length < o.length := by rw [he]; simp
    have hy : rd o (p.length : Int) = x := by rw [he]; exact rd_mid _ _ _
    have hxn := ho.ok.2 x (by rw [he]; simp)
    have hxp : x ∉ p := by
      have := ho.ok.1
      rw [he, List.nodup_append] at this
      exact fun h => this.2.2 x h x (by simp) rfl
    have hpl : pl o x = (p.length : Int) := by
      unfold pl
      rw [if_pos (by rw [he]; simp), idx_get o p.length ho.ok.1 (by rw [he]; simp)]
    have hbx : rd b x = -1 := by rw [hb]; exact (tab_getD _ hxn.1 hxn.2 _).trans (if_neg hxp)
    have hbl : b.length = g.length := by rw [hb, tab_length]
    refine Ev.succ ?_
    simp only [laws_FnGraphs.l1]
    rw [hy, wrap_succ (by omega), hbx]
    refine Ev.ite_pos (by omega) (Ev.ite_pos (by omega) (Ev.ite_pos (by omega) (Ev.ite_pos hxn.1 (Ev.ite_pos (by omega) (Ev.ite_neg (by omega) (ih _ ?_))))))
    rw [hb, tab_set _ hxn.1]
    refine tab_congr fun c _ _ => ?_
    by_cases hc : c = x
    · subst hc; simp [hpl]
    · simp [hc]
end
theorem FnGraphs : laws_FnGraphs.Pure := by
  intro l _ _ hw
  refine Ev.rounds (g := fun k => laws_FnGraphs.f k l) ?_
  unfold laws_FnGraphs.f
  by_cases h1 : (l.length : Int) > 1048576
  · exact Ev.ite_pos h1 (Ev.now _)
  · obtain ⟨g, hg, hd⟩ := drawOrder_ev l hw
    have h0 : g.length ≤ 1048576 := by have := hg.1; omega
    have hx : ∀ x ∈ g, x.length ≤ 1048576 := fun x h => by have := hg.2 x h; omega
    obtain ⟨r, hs, hi, hrl, hgood, hbad⟩ := orderIn_ev g h0 hx
    obtain ⟨d1, d2⟩ := domIn_small g h0
    obtain ⟨b1, b2⟩ := backIn_small g h0 hx
    refine Ev.ite_neg h1 (Ev.bind hd (Ev.bind hi (Ev.bind hs (Ev.bind (iDomIn_ev g h0 hx) (Ev.bind (sDomIn_ev g h0 hx) (Ev.bind (iBackIn_ev g h0 hx) (Ev.bind (sBackIn_ev g h0 hx) ?_)))))))
    refine Ev.ite_neg (by simp) (Ev.bind (sameInts_ev r (by omega)) (Ev.ite_pos rfl (Ev.ite_neg (by simp) (Ev.bind (sameLists_ev _ (by omega) (fun x h => by have := d2 x h; omega)) (Ev.ite_pos rfl (Ev.ite_neg (by simp) (Ev.bind (sameLists_ev _ (by omega) (fun x h => by have := b2 x h; omega)) (Ev.succ ?_))))))))
    simp only [laws_FnGraphs.j0]
    refine Ev.ite_neg (by simp) ?_
    by_cases h : goodGraphB g = true
    · have hG := goodGraph_GG h hx
      have hhi := hG.hi
      have ed : (domIn g).1 = tab g.length (domL g g.length) := by unfold domIn; rw [if_pos h]
      have eb : (backIn g).1 = backAll g g.length := by unfold backIn; rw [if_pos h]
      rw [ed, eb]
      refine Ev.ite_pos h (Ev.ite_pos (by omega) (Ev.ite_pos (by omega) (Ev.bind (Ev.now _) ?_)))
      rw [Int.toNat_natCast, List.length_replicate]
      have e0 : List.replicate g.length (0 : Int) = tab g.length (fun b : Int => if b < ((0 : Nat) : Int) then -1 else 0) := by rw [tab_rep]; exact tab_congr fun b h _ => by rw [if_neg (by omega)]
      rw [e0]
      refine Ev.count g.length (fun k b i => laws_FnGraphs.l0 k r (tab g.length (domL g g.length)) (backAll g g.length) b (g.length : Int) i g) (fun m => tab g.length (fun b : Int => if b < (m : Int) then -1 else 0)) _ ?_ (fun m hm ih => ?_)
      · refine Ev.succ ?_
        simp only [laws_FnGraphs.l0]
        rw [show tab g.length (fun b : Int => if b < (g.length : Int) then (-1 : Int) else 0) = List.replicate g.length (-1) from by rw [tab_rep]; exact tab_congr fun b _ h => by rw [if_pos h]]
        exact Ev.ite_neg (by omega) (l1_ev hG hx h (hgood h))
      · refine Ev.succ ?_
        simp only [laws_FnGraphs.l0]
        rw [wrap_succ (by omega), tab_set _ (by omega)]
        rw [show tab g.length (fun b : Int => if b = (m : Int) then (-1 : Int) else if b < (m : Int) then -1 else 0) = tab g.length (fun b : Int => if b < ((m + 1 : Nat) : Int) then (-1 : Int) else 0) from tab_congr fun b _ _ => by
          by_cases hb : b = m
          · rw [if_pos hb, if_pos (by omega)]
          · rw [if_neg hb]
            by_cases h2 : b < (m : Int)
            · rw [if_pos h2, if_pos (by omega)]
            · rw [if_neg h2, if_neg (by omega)]]
        exact Ev.ite_pos (by omega) (Ev.ite_pos (by omega) (Ev.ite_pos (by rw [tab_length]; omega) ih))
    · have hr := hbad (by simpa using h)
      subst hr
      exact Ev.ite_neg h (Ev.some (by simp))

end Go.Proofs.Ytbagmhcdhemopaa.Pure
