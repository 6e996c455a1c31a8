-- WRITTEN BY A PROGRAM OF THIS SESSION
import Derived.Test.YtbagmhcdhemopaaQ0
import Derived.Test.YtbagmhcdhemopaaQ2
import Derived.Test.YtbagmhcdhemopaaQ4
namespace Go.Proofs.Ytbagmhcdhemopaa.Q
open Go.RowKit Go.Proofs.YtbagmhcdhemopaaW.PrintWords Go.Proofs.YtbagmhcdhemopaaW.PrintLast Go.Proofs.YtbagmhcdhemopaaW.PrintMore
attribute [local go_sem] max2_int min2_int max_two min_two max_three min_three max_four min_four   -- for this text's walks alone
set_option linter.unusedVariables false
set_option linter.unusedSimpArgs false

/-! ### impl_listOf: function 53 -/
def impl_listOf.l0 : Nat → List Int → List Bool → Int → Int → Option (List Int)
  | 0, _, _, _, _ => none
  | k + 1, x3, x7, x8, x9 => if x9 < x8 then (if 0 ≤ x9 then (if x9 < (x7.length : Int) then (if rdOf false x7 x9 = true then (if x3.length < 17592186044416 then (impl_listOf.l0 k (x3 ++ [x9]) x7 x8 (wrap64 (x9 + 1))) else (none)) else (impl_listOf.l0 k x3 x7 x8 (wrap64 (x9 + 1)))) else (none)) else (none)) else (some x3)
def impl_listOf.f (k : Nat) (l0 : List Bool) : Option (List Int) := impl_listOf.l0 k (([] : List Int)) l0 (l0.length : Int) 0
theorem impl_listOf.mono_l : ∀ k, (∀ y0 y1 y2 y3, LeO (impl_listOf.l0 k y0 y1 y2 y3) (impl_listOf.l0 (k + 1) y0 y1 y2 y3))
  | 0 => fun _ _ _ _ r h => by simp [impl_listOf.l0] at h
  | k + 1 => by
    have ih0 := impl_listOf.mono_l k
    · intro y0 y1 y2 y3
      unfold impl_listOf.l0
      repeat' first
      | (with_reducible exact ih0 _ _ _ _)
      | (with_reducible exact LeO.refl _)
      | (with_reducible exact LeO.none _)
      | (with_reducible refine LeO.ite ?_ ?_)
      | (with_reducible refine LeO.bind ?_ (fun _ => ?_))
      | exact ih0 _ _ _ _
      | exact LeO.none _
      | refine LeO.ite ?_ ?_
      | refine LeO.bind ?_ (fun _ => ?_)
theorem impl_listOf.mono : ∀ a0 k, LeO (impl_listOf.f k a0) (impl_listOf.f (k + 1) a0) := by
  intro a0 k
  have ih0 := impl_listOf.mono_l k
  unfold impl_listOf.f
  repeat' first
      | (with_reducible exact ih0 _ _ _ _)
      | (with_reducible exact LeO.refl _)
      | (with_reducible exact LeO.none _)
      | (with_reducible refine LeO.ite ?_ ?_)
      | (with_reducible refine LeO.bind ?_ (fun _ => ?_))
      | exact ih0 _ _ _ _
      | exact LeO.none _
      | refine LeO.ite ?_ ?_
      | refine LeO.bind ?_ (fun _ => ?_)
set_option maxHeartbeats 8000000 in
set_option maxRecDepth 100000 in
theorem impl_listOf.calls (k : Nat) (A0 : Option Addr) (c0 : Nat) (l0 : List Bool) (r : List Int) (w : World) (hr0 : Kd.C Kd.bool w A0 l0.length l0) (hc0 : l0.length ≤ c0) (h : impl_listOf.f k l0 = some r) :
    Calls Try.prog 53 #[.slice A0 l0.length c0] w fun e w' => ∃ v0_ : Value, e = .returned (v0_) ∧ Kd.R (Kd.int .i64) 3 w' w.heap.size (fun _ => True) v0_ r ∧ Below w.heap.size w w' := by
  have HR0 := Aside0.mk hr0
  have HC0 := Aside0.mk hc0
  clear hr0 hc0
  have HB := Aside0.mk (Below.refl w.heap.size w)
  have H : (impl_listOf.l0 k (([] : List Int)) l0 (l0.length : Int) 0) = some r := h
  clear h
  obtain ⟨y163, hy163⟩ : ∃ y_ : List Int, y_ = (([] : List Int)) := ⟨_, rfl⟩
  replace H : (impl_listOf.l0 k y163 l0 (l0.length : Int) 0) = some r := by first | (rw [hy163]; with_reducible exact H) | (have H2_ := (Option.bind_some _ _).symm.trans H; rw [hy163]; with_reducible exact H2_) | (have H2_ := (Option.bind_some _ _).symm.trans H; with_reducible exact H2_) | with_reducible exact H | (rw [hy163]; exact H) | exact H
  have Ny163 := Aside0.mk hy163
  clear hy163
  have H' := Aside0.mk H
  clear H
  go_enter Try.func53, Try.ntmps53
  go_wp2_with (first | ((with_reducible refine gate_dst (N := 6) rfl ?_); refine Kd.R_lit (Kd.int .i64) _ 3 ?hg (N := 6) ?hd (xs := ([] : List Int)) (inner := []) (ok := fun _ => True) (okp := fun _ => True) ?hr ?hp (fun _ hk => hk) trivial (Below.refl _ _) (Nat.le_refl _) (by simp) ?_; (case hd => rfl); (case hg => rfl); (case hr => first | (go_simp; done) | (go_simp; rfl)); (case hp => exact (Reps.none _ _)); intro v164 w2 ho3 hb hg_ hnew_; clear hg_ hnew_; (first | rw [← Ny163.out] at ho3 | (simp only [Int.reduceToNat] at ho3; rw [← Ny163.out] at ho3)); have n0_ := Aside0.mk (Kd.R_lower ho3 (below_size (by repeat (first | (with_reducible first | exact HB.out | apply below_alloc | apply pw_below_drewN | apply below_drew1) | exact HB.out)))); have n1_ := Aside0.mk (below_step (by repeat (first | (with_reducible first | exact HB.out | apply below_alloc | apply pw_below_drewN | apply below_drew1) | exact HB.out)) hb); clear HB; have HO165 := n0_; have HB := n1_; clear n0_ n1_; clear hb ho3))
  go_loopg [3, 9] k (fun kq v3 v9 w' => ∃ (x3_1 : List Int) (x9_1 : Int), v9 = .int .i64 x9_1 ∧ Aside0 (impl_listOf.l0 kq x3_1 l0 (l0.length : Int) x9_1 = some r) ∧ Aside0 (kq ≤ k) ∧ Aside0 (Kd.R (Kd.int .i64) 3 w' w.heap.size (fun _ => True) v3 x3_1) ∧ Aside0 (Below w.heap.size w w'))
  case atStart => exact ⟨(y163), (0), (by first | rfl | (simp; done) | (simp [*]; done)), H', ⟨Nat.le_refl _⟩, ⟨by (with_reducible repeat (first | apply Kd.R_alloc | apply Kd.R_drewN | apply Kd.R_drew)); exact HO165.out⟩, ⟨by repeat (first | (with_reducible first | exact HB.out | apply below_alloc | apply pw_below_drewN | apply below_drew1) | exact HB.out)⟩⟩
  case round =>
    clear H'
    try clear p2
    obtain ⟨x3_1, x9_1, rfl, HA, HK1, HO_3, HB⟩ := hrel
    cases gk with
    | zero => exact absurd HA.out (by simp [impl_listOf.l0])
    | succ k1 =>
      have H := HA.out
      clear HA
      simp only [impl_listOf.l0] at H
      by_cases c4 : x9_1 < (l0.length : Int)
      · rw [if_pos c4] at H
        have c4b0 : decide (x9_1 < (l0.length : Int)) = true := decide_eq_true c4
        clear c4
        by_cases c5 : 0 ≤ x9_1
        · rw [if_pos c5] at H
          have c5b0 : decide (0 ≤ x9_1) = true := decide_eq_true c5
          clear c5
          by_cases c6 : x9_1 < (l0.length : Int)
          · rw [if_pos c6] at H
            have c6b0 : decide (x9_1 < (l0.length : Int)) = true := decide_eq_true c6
            clear c6
            obtain ⟨bq7, hbq7⟩ : ∃ b_ : Bool, b_ = (rdOf false l0 x9_1) := ⟨_, rfl⟩
            replace H : (if bq7 = true then (if x3_1.length < 17592186044416 then (impl_listOf.l0 k1 (x3_1 ++ [x9_1]) l0 (l0.length : Int) (wrap64 (x9_1 + 1))) else (none)) else (impl_listOf.l0 k1 x3_1 l0 (l0.length : Int) (wrap64 (x9_1 + 1)))) = some r := by rw [← hbq7] at H; exact H
            have Nbq7 := Aside0.mk hbq7
            clear hbq7
            by_cases c8 : bq7 = true
            · subst c8
              have H1 : (if x3_1.length < 17592186044416 then (impl_listOf.l0 k1 (x3_1 ++ [x9_1]) l0 (l0.length : Int) (wrap64 (x9_1 + 1))) else (none)) = some r := by rw [if_pos rfl] at H; exact H
              clear H
              have H := H1
              clear H1
              by_cases c9 : x3_1.length < 17592186044416
              · rw [if_pos c9] at H
                have LMc9 := Aside0.mk c9
                clear c9
                obtain ⟨y167, hy167⟩ : ∃ y_ : List Int, y_ = (x3_1 ++ [x9_1]) := ⟨_, rfl⟩
                replace H : (impl_listOf.l0 k1 y167 l0 (l0.length : Int) (wrap64 (x9_1 + 1))) = some r := by first | (rw [hy167]; with_reducible exact H) | (have H2_ := (Option.bind_some _ _).symm.trans H; rw [hy167]; with_reducible exact H2_) | (have H2_ := (Option.bind_some _ _).symm.trans H; with_reducible exact H2_) | with_reducible exact H | (rw [hy167]; exact H) | exact H
                have Ny167 := Aside0.mk hy167
                clear hy167
                have H' := Aside0.mk H
                clear H
                have p166 : 0 ≤ (x9_1 : Int) := of_decide_eq_true (by first | (with_reducible assumption) | assumption)
                have q166 : x9_1 < (l0.length : Int) := of_decide_eq_true (by first | (with_reducible assumption) | assumption)
                obtain ⟨ad166, e166, hx166_0⟩ := Kd.at_bool HR0.out x9_1 p166 q166
                (try rw [← Nbq7.out] at hx166_0)
                cases e166
                replace hx166_0 := (HB.out.cell (World.block_lt_of_cell? w _ hx166_0)).trans hx166_0
                replace p166 := eq_true p166
                replace q166 := eq_true q166
                go_wp2_with (first | ((with_reducible refine gate_builtin (b := .append) (xs := #[.tmp 15, .tmp 17]) rfl ?_); at_builtin; refine Kd.R_append (Kd.int .i64) (w0 := w) w.heap.size rfl (.tmp 15) (.tmp 17) 31 3 (.int .i64 0) 8 rfl Try.underlying31 info3 rfl (by decide) (by omega) u3 x3_1 x9_1 [.int .i64 x9_1] (fun _ => True) (fun _ => False) rfl rfl ?aP (fun _ hk => hk.elim) ?aF ?aO ?aB ?aS ?aL ?_; (case aP => exact rfl); (case aB => exact (by repeat (first | (with_reducible first | exact HB.out | apply below_alloc | apply pw_below_drewN | apply below_drew1) | exact HB.out))); (case aF => exact (fun _ _ => trivial)); (case aO => exact (by (with_reducible repeat (first | apply Kd.R_alloc | apply Kd.R_drewN | apply Kd.R_drew)); exact HO_3.out)); (case aS => exact (below_size (by repeat (first | (with_reducible first | exact HB.out | apply below_alloc | apply pw_below_drewN | apply below_drew1) | exact HB.out)))); (case aL => have := LMc9.out; omega); intro v168 w10 ho hb hg hat; rw [← Ny167.out] at ho; have n0_ := Aside0.mk (hb); have n1_ := Aside0.mk (ho); clear HB; clear HO_3; have HB := n0_; have HO169 := n1_; clear n0_ n1_; clear ho hb hg hat))
                go_roundg k1
                case measure => have := HK1.out; omega
                case rel => exact ⟨(y167), (wrap64 (x9_1 + 1)), (by first | rfl | (simp; done) | (simp [*]; done)), H', ⟨by have := HK1.out; omega⟩, ⟨by (with_reducible repeat (first | apply Kd.R_alloc | apply Kd.R_drewN | apply Kd.R_drew)); exact HO169.out⟩, ⟨by repeat (first | (with_reducible first | exact HB.out | apply below_alloc | apply pw_below_drewN | apply below_drew1) | exact HB.out)⟩⟩
              · rw [if_neg c9] at H
                exact absurd H (by simp)
            · replace c8 := Bool.eq_false_iff.mpr c8
              subst c8
              have H1 : (impl_listOf.l0 k1 x3_1 l0 (l0.length : Int) (wrap64 (x9_1 + 1))) = some r := by rw [if_neg (show ¬ (false = true) by decide)] at H; exact H
              clear H
              have H := H1
              clear H1
              have H' := Aside0.mk H
              clear H
              have p166 : 0 ≤ (x9_1 : Int) := of_decide_eq_true (by first | (with_reducible assumption) | assumption)
              have q166 : x9_1 < (l0.length : Int) := of_decide_eq_true (by first | (with_reducible assumption) | assumption)
              obtain ⟨ad166, e166, hx166_0⟩ := Kd.at_bool HR0.out x9_1 p166 q166
              (try rw [← Nbq7.out] at hx166_0)
              cases e166
              replace hx166_0 := (HB.out.cell (World.block_lt_of_cell? w _ hx166_0)).trans hx166_0
              replace p166 := eq_true p166
              replace q166 := eq_true q166
              go_wp2
              go_roundg k1
              case measure => have := HK1.out; omega
              case rel => exact ⟨(x3_1), (wrap64 (x9_1 + 1)), (by first | rfl | (simp; done) | (simp [*]; done)), H', ⟨by have := HK1.out; omega⟩, ⟨by (with_reducible repeat (first | apply Kd.R_alloc | apply Kd.R_drewN | apply Kd.R_drew)); exact HO_3.out⟩, ⟨by repeat (first | (with_reducible first | exact HB.out | apply below_alloc | apply pw_below_drewN | apply below_drew1) | exact HB.out)⟩⟩
          · rw [if_neg c6] at H
            exact absurd H (by simp)
        · rw [if_neg c5] at H
          exact absurd H (by simp)
      · rw [if_neg c4] at H
        have c4b0 : decide (x9_1 < (l0.length : Int)) = false := decide_eq_false c4
        clear c4
        obtain rfl := Option.some.inj H
        go_wp2
        go_ret
        exact ⟨_, by first | rfl | (simp [errW_none, errW_some] <;> rfl) | (simp [*, errW_none, errW_some] <;> rfl), by (with_reducible repeat (first | apply Kd.R_alloc | apply Kd.R_drewN | apply Kd.R_drew)); exact HO_3.out, by repeat (first | (with_reducible first | exact HB.out | apply below_alloc | apply pw_below_drewN | apply below_drew1) | exact HB.out)⟩

/-! ### impl_Graph_reducible: function 51 (by hand: a pointer's row is handed on) -/
mutual
def impl_Graph_reducible.l0 : Nat → List (List Int) → List (List Bool) → List (List Int) → Int → Option Bool
  | 0, _, _, _, _ => none
  | k + 1, g, dm, nx, i => if i < (g.length : Int) then (if 0 ≤ i then (impl_Graph_reducible.l1 k g dm nx i (g.getD i.toNat []) 0) else none) else ((impl_reach.f k g 0 []).bind fun rb => ((impl_listOf.f k rb).bind fun ls => (impl_Graph_reducible.l2 k nx ls 0)))
def impl_Graph_reducible.l1 : Nat → List (List Int) → List (List Bool) → List (List Int) → Int → List Int → Int → Option Bool
  | 0, _, _, _, _, _, _ => none
  | k + 1, g, dm, nx, i, row, j => if j < (row.length : Int) then (if 0 ≤ j then (if i < (dm.length : Int) then (if 0 ≤ rd row j then (if rd row j < ((dm.getD i.toNat []).length : Int) then (if rdOf false (dm.getD i.toNat []) (rd row j) = true then (impl_Graph_reducible.l1 k g dm nx i row (wrap64 (j + 1))) else (if i < (nx.length : Int) then (if (nx.getD i.toNat []).length < 17592186044416 then (impl_Graph_reducible.l1 k g dm (nx.set i.toNat (nx.getD i.toNat [] ++ [rd row j])) i row (wrap64 (j + 1))) else none) else none)) else none) else none) else none) else none) else impl_Graph_reducible.l0 k g dm nx (wrap64 (i + 1))
def impl_Graph_reducible.l2 : Nat → List (List Int) → List Int → Int → Option Bool
  | 0, _, _, _ => none
  | k + 1, nx, ls, i => if i < (ls.length : Int) then (if 0 ≤ i then (if 0 ≤ rd ls i then (if rd ls i < (nx.length : Int) then (impl_Graph_reducible.l3 k nx ls i (nx.getD (rd ls i).toNat []) 0) else none) else none) else none) else some true
def impl_Graph_reducible.l3 : Nat → List (List Int) → List Int → Int → List Int → Int → Option Bool
  | 0, _, _, _, _, _ => none
  | k + 1, nx, ls, i, row, j => if j < (row.length : Int) then (if 0 ≤ j then ((impl_reach.f k nx (rd row j) []).bind fun rb => (if 0 ≤ rd ls i then (if rd ls i < (rb.length : Int) then (if rdOf false rb (rd ls i) = true then some false else (impl_Graph_reducible.l3 k nx ls i row (wrap64 (j + 1)))) else none) else none)) else none) else impl_Graph_reducible.l2 k nx ls (wrap64 (i + 1))
end
def impl_Graph_reducible.f (k : Nat) (g : List (List Int)) : Option Bool := if g.length ≤ 11728124029610 then ((impl_dominators.f k g).bind fun dm => (impl_Graph_reducible.l0 k g dm (List.replicate g.length []) 0)) else none
theorem impl_Graph_reducible.mono_l : ∀ k, (∀ y0 y1 y2 y3, LeO (impl_Graph_reducible.l0 k y0 y1 y2 y3) (impl_Graph_reducible.l0 (k + 1) y0 y1 y2 y3)) ∧ (∀ y0 y1 y2 y3 y4 y5, LeO (impl_Graph_reducible.l1 k y0 y1 y2 y3 y4 y5) (impl_Graph_reducible.l1 (k + 1) y0 y1 y2 y3 y4 y5)) ∧ (∀ y0 y1 y2, LeO (impl_Graph_reducible.l2 k y0 y1 y2) (impl_Graph_reducible.l2 (k + 1) y0 y1 y2)) ∧ (∀ y0 y1 y2 y3 y4, LeO (impl_Graph_reducible.l3 k y0 y1 y2 y3 y4) (impl_Graph_reducible.l3 (k + 1) y0 y1 y2 y3 y4))
  | 0 => ⟨fun _ _ _ _ r h => by simp [impl_Graph_reducible.l0] at h, fun _ _ _ _ _ _ r h => by simp [impl_Graph_reducible.l1] at h, fun _ _ _ r h => by simp [impl_Graph_reducible.l2] at h, fun _ _ _ _ _ r h => by simp [impl_Graph_reducible.l3] at h⟩
  | k + 1 => by
    obtain ⟨ih0, ih1, ih2, ih3⟩ := impl_Graph_reducible.mono_l k
    refine ⟨?_, ?_, ?_, ?_⟩
    · intro y0 y1 y2 y3
      unfold impl_Graph_reducible.l0
      repeat' first
      | (with_reducible exact ih0 _ _ _ _)
      | (with_reducible exact ih1 _ _ _ _ _ _)
      | (with_reducible exact ih2 _ _ _)
      | (with_reducible exact ih3 _ _ _ _ _)
      | (with_reducible exact impl_dominators.mono _ _)
      | (with_reducible exact impl_reach.mono _ _ _ _)
      | (with_reducible exact impl_listOf.mono _ _)
      | (with_reducible exact LeO.refl _)
      | (with_reducible exact LeO.none _)
      | (with_reducible refine LeO.ite ?_ ?_)
      | (with_reducible refine LeO.bind ?_ (fun _ => ?_))
    · intro y0 y1 y2 y3 y4 y5
      unfold impl_Graph_reducible.l1
      repeat' first
      | (with_reducible exact ih0 _ _ _ _)
      | (with_reducible exact ih1 _ _ _ _ _ _)
      | (with_reducible exact ih2 _ _ _)
      | (with_reducible exact ih3 _ _ _ _ _)
      | (with_reducible exact impl_dominators.mono _ _)
      | (with_reducible exact impl_reach.mono _ _ _ _)
      | (with_reducible exact impl_listOf.mono _ _)
      | (with_reducible exact LeO.refl _)
      | (with_reducible exact LeO.none _)
      | (with_reducible refine LeO.ite ?_ ?_)
      | (with_reducible refine LeO.bind ?_ (fun _ => ?_))
    · intro y0 y1 y2
      unfold impl_Graph_reducible.l2
      repeat' first
      | (with_reducible exact ih0 _ _ _ _)
      | (with_reducible exact ih1 _ _ _ _ _ _)
      | (with_reducible exact ih2 _ _ _)
      | (with_reducible exact ih3 _ _ _ _ _)
      | (with_reducible exact impl_dominators.mono _ _)
      | (with_reducible exact impl_reach.mono _ _ _ _)
      | (with_reducible exact impl_listOf.mono _ _)
      | (with_reducible exact LeO.refl _)
      | (with_reducible exact LeO.none _)
      | (with_reducible refine LeO.ite ?_ ?_)
      | (with_reducible refine LeO.bind ?_ (fun _ => ?_))
    · intro y0 y1 y2 y3 y4
      unfold impl_Graph_reducible.l3
      repeat' first
      | (with_reducible exact ih0 _ _ _ _)
      | (with_reducible exact ih1 _ _ _ _ _ _)
      | (with_reducible exact ih2 _ _ _)
      | (with_reducible exact ih3 _ _ _ _ _)
      | (with_reducible exact impl_dominators.mono _ _)
      | (with_reducible exact impl_reach.mono _ _ _ _)
      | (with_reducible exact impl_listOf.mono _ _)
      | (with_reducible exact LeO.refl _)
      | (with_reducible exact LeO.none _)
      | (with_reducible refine LeO.ite ?_ ?_)
      | (with_reducible refine LeO.bind ?_ (fun _ => ?_))
theorem impl_Graph_reducible.mono : ∀ a0 k, LeO (impl_Graph_reducible.f k a0) (impl_Graph_reducible.f (k + 1) a0) := by
  intro a0 k
  obtain ⟨ih0, ih1, ih2, ih3⟩ := impl_Graph_reducible.mono_l k
  unfold impl_Graph_reducible.f
  repeat' first
      | (with_reducible exact ih0 _ _ _ _)
      | (with_reducible exact ih1 _ _ _ _ _ _)
      | (with_reducible exact ih2 _ _ _)
      | (with_reducible exact ih3 _ _ _ _ _)
      | (with_reducible exact impl_dominators.mono _ _)
      | (with_reducible exact impl_reach.mono _ _ _ _)
      | (with_reducible exact impl_listOf.mono _ _)
      | (with_reducible exact LeO.refl _)
      | (with_reducible exact LeO.none _)
      | (with_reducible refine LeO.ite ?_ ?_)
      | (with_reducible refine LeO.bind ?_ (fun _ => ?_))
/-- What holds between the rounds: next is written, the dominators lie in the blocks from a to b. -/
structure DInv (w W : World) (a b : Nat) (vn vd : Value) (nx : List (List Int)) (dm : List (List Bool)) : Prop where
  below : Below w.heap.size w W
  out : Kd.S (Kd.slice 3 (Kd.int .i64)) 31 W w.heap.size (fun k => ¬ (a ≤ k ∧ k < b)) vn nx
  dom : Kd.S (Kd.slice 4 Kd.bool) 63 W w.heap.size (fun k => a ≤ k ∧ k < b) vd dm
  flt : b ≤ W.heap.size
theorem DInv.step {w W W' : World} {a b : Nat} {vn vd : Value} {nx : List (List Int)} {dm : List (List Bool)} (h : DInv w W a b vn vd nx dm) (hb : Below W.heap.size W W') : DInv w W' a b vn vd nx dm :=
  ⟨below_step h.below hb, Kd.S_below h.out hb, Kd.S_below h.dom hb, Nat.le_trans h.flt hb.size⟩
theorem DInv.put {w W W4 : World} {a b g nn cap : Nat} {vd ve v0 : Value} {nx : List (List Int)} {dm : List (List Bool)} {y : List Int} {i : Int} {oki : Nat → Prop} (h : DInv w W a b (.slice (some ⟨g, 0, none⟩) nn cap) vd nx dm)
    (hH : Kd.H (Kd.slice 3 (Kd.int .i64)) 31 W w.heap.size (fun k => ¬ (a ≤ k ∧ k < b)) (.slice (some ⟨g, 0, none⟩) nn cap) nx i oki [ve]) (h0 : 0 ≤ i) (h1 : i < nn) (hg : ¬ (a ≤ g ∧ g < b)) (hgb : w.heap.size ≤ g)
    (hk : Kept W W4 oki) (hb : Below w.heap.size w W4) (hr : (Kd.int .i64).R 3 W4 w.heap.size (fun k => oki k ∨ W.heap.size ≤ k) v0 y) : DInv w (W4.setCell ⟨g, i.toNat, none⟩ v0) a b (.slice (some ⟨g, 0, none⟩) nn cap) vd (nx.set i.toNat y) dm := by
  obtain ⟨h2, h3⟩ := S_upd hH h0 h1 hg (fun k hk => Nat.lt_of_lt_of_le hk.2 h.flt) hk hr
  exact ⟨hb.setCell hgb _, h2, Kd.S_step h.dom (fun k hk _ => h3 k hk), Nat.le_trans h.flt (Nat.le_trans hk.1 (by simp [World.setCell]))⟩
/-- The dominators are made first. -/
theorem DInv.second {w W w3 : World} {m : Nat} {vd : Value} {dm : List (List Bool)} (hw : Below w.heap.size w W) (hm : m ≤ 281474976710656) (hb : Below W.heap.size W w3) (ho : Kd.S (Kd.slice 4 Kd.bool) 63 w3 W.heap.size (fun _ => True) vd dm) :
    DInv w (w3.alloc (.cells (madeCells #[.slice none 0 0] m) 31)) W.heap.size w3.heap.size (.slice (some ⟨w3.heap.size, 0, none⟩) m m) vd (List.replicate m []) dm := by
  have hs := hw.size
  have hb3 := below_step hw hb
  refine ⟨hb3.alloc hb3.size _, ?_, ?_, by simp⟩
  · exact Kd.S_mono (Kd.S_lower (Kd.S_bound (S_made (Kd.int .i64) 3 31 w3 m hm)) hb3.size) (fun k hk h => by have := hk.2.1; omega)
  · exact Kd.S_lower (Kd.S_below (Kd.S_mono (Kd.S_bound ho) (fun k hk => ⟨hk.2.1, hk.2.2.1⟩)) (below_alloc (Below.refl _ _) _)) hs
/-- Next is made first. -/
theorem DInv.first {w W w3 : World} {m : Nat} {vd : Value} {dm : List (List Bool)} (hw : Below w.heap.size w W) (hm : m ≤ 281474976710656) (hb : Below (W.alloc (.cells (madeCells #[.slice none 0 0] m) 31)).heap.size (W.alloc (.cells (madeCells #[.slice none 0 0] m) 31)) w3) (ho : Kd.S (Kd.slice 4 Kd.bool) 63 w3 (W.alloc (.cells (madeCells #[.slice none 0 0] m) 31)).heap.size (fun _ => True) vd dm) :
    DInv w w3 (W.alloc (.cells (madeCells #[.slice none 0 0] m) 31)).heap.size w3.heap.size (.slice (some ⟨W.heap.size, 0, none⟩) m m) vd (List.replicate m []) dm := by
  have hs := hw.size
  refine ⟨below_step (hw.alloc hs _) hb, ?_, ?_, Nat.le_refl _⟩
  · exact Kd.S_mono (Kd.S_lower (Kd.S_below (Kd.S_bound (S_made (Kd.int .i64) 3 31 W m hm)) hb) hs) (fun k hk h => by have := hk.2.2.1; omega)
  · exact Kd.S_lower (Kd.S_mono (Kd.S_bound ho) (fun k hk => ⟨hk.2.1, hk.2.2.1⟩)) (by simp; omega)
/-- What is only read further on. -/
structure EInv (w W : World) (vn vl : Value) (nx : List (List Int)) (ls : List Int) : Prop where
  below : Below w.heap.size w W
  out : Kd.S (Kd.slice 3 (Kd.int .i64)) 31 W w.heap.size (fun _ => True) vn nx
  row : (Kd.int .i64).R 3 W w.heap.size (fun _ => True) vl ls
theorem EInv.step {w W W' : World} {vn vl : Value} {nx : List (List Int)} {ls : List Int} (h : EInv w W vn vl nx ls) (hb : Below W.heap.size W W') : EInv w W' vn vl nx ls := ⟨below_step h.below hb, Kd.S_below h.out hb, Kd.R_below h.row hb⟩
set_option maxHeartbeats 8000000 in
set_option maxRecDepth 100000 in
theorem impl_Graph_reducible.calls (k : Nat) (b : Nat) (A0 : Option Addr) (c0 : Nat) (l0 : List (List Int)) (r : Bool) (w : World) (hbox : w.heap[b]? = some (.cells #[.slice A0 l0.length c0] 27 (0, 0))) (hr0 : Kd.C (Kd.slice 3 (Kd.int .i64)) w A0 l0.length l0) (hc0 : l0.length ≤ c0) (h : impl_Graph_reducible.f k l0 = some r) :
    Calls Try.prog 51 #[.pointer (some ⟨b, 0, none⟩)] w fun e w' => e = .returned (.bool r) ∧ Below w.heap.size w w' := by
  have hu27 := Try.underlying27
  have HR0 := Aside0.mk hr0
  have HC0 := Aside0.mk hc0
  have HBX := Aside0.mk hbox
  clear hr0 hc0 hbox
  unfold impl_Graph_reducible.f at h
  by_cases c1 : l0.length ≤ 11728124029610
  rotate_left
  · rw [if_neg c1] at h; exact absurd h (by simp)
  rw [if_pos c1] at h
  obtain ⟨dm, A1, H⟩ := Option.bind_eq_some_iff.mp h
  have A := Aside0.mk A1
  have H' := Aside0.mk H
  have HM := Aside0.mk c1
  clear h A1 H c1
  have hczA : (w.alloc (.cells (madeCells #[.slice none 0 0] l0.length) 31)).cell? ⟨b, 0, none⟩ = some (.slice A0 l0.length c0) := (blk_cell (blk_alloc HBX.out _) 0).trans rfl
  have hcz : w.cell? ⟨b, 0, none⟩ = some (.slice A0 l0.length c0) := (blk_cell HBX.out 0).trans rfl
  have hfz := blk_frozen HBX.out 0
  have hmk22 := fun W => run_make_row' (P := Try.prog) 22 31 (.slice none 0 0) 24 Try.underlying22 (by kernel_rfl) rfl .i64 .i64 l0.length (by have := HM.out; omega) (by have := HM.out; omega) W
  go_enter Try.func51, Try.ntmps51
  go_upto_region 1 with (fail)
  go_cut [3, 4] (fun v3 v4 wc => ∃ (gn n4 a2 b2 : Nat), v4 = .slice (some ⟨gn, 0, none⟩) n4 n4 ∧ Aside0 (n4 = l0.length) ∧ Aside0 (DInv w wc a2 b2 v4 v3 (List.replicate l0.length []) dm))
  case first =>
    go_region_with (go_at_call 52; refine (impl_dominators.calls k _ _ l0 dm _ (Kd.C_below HR0.out (by repeat (first | exact Below.refl _ _ | apply below_alloc | apply below_drew1))) HC0.out A.out).mono ?_; rintro e w3 ⟨vd, rfl, ho, hb⟩; have hbw : Below w.heap.size w w3 := below_step (by repeat (first | exact Below.refl _ _ | apply below_alloc | apply below_drew1)) hb; have hcz3 : w3.cell? ⟨b, 0, none⟩ = some (.slice A0 l0.length c0) := (blk_cell (blk_below HBX.out hbw) 0).trans rfl)
    all_goals go_wp2
    all_goals go_meet
    all_goals first
      | exact ⟨_, _, _, _, rfl, ⟨rfl⟩, ⟨DInv.first (Below.refl _ _) (by have := HM.out; omega) (below_then (below_drew (Below.refl _ _)) (Nat.le_refl _) hb) ho⟩⟩
      | exact ⟨_, _, _, _, rfl, ⟨rfl⟩, ⟨DInv.second (below_drew (Below.refl _ _)) (by have := HM.out; omega) hb ho⟩⟩
      | skip
  case rest =>
    obtain ⟨gn, n4, a2, b2, rfl, HN, HI⟩ := hcut
    obtain ⟨Ad, cd, ed⟩ := Kd.S_slice HI.out.dom
    subst ed
    clear hmk22 hcz hczA hfz
    have hcz3 : wc.cell? ⟨b, 0, none⟩ = some (.slice A0 l0.length c0) := (blk_cell (blk_below HBX.out HI.out.below) 0).trans rfl
    go_wp2
    go_loopg [29] k (fun kq v29 w' => ∃ (nx : List (List Int)) (i : Int), v29 = .int .i64 i ∧ Aside0 (impl_Graph_reducible.l0 kq l0 dm nx i = some r) ∧ Aside0 (kq ≤ k) ∧ Aside0 (DInv w w' a2 b2 (.slice (some ⟨gn, 0, none⟩) n4 n4) (.slice Ad dm.length cd) nx dm))
    case atStart => exact ⟨_, 0, rfl, H', ⟨Nat.le_refl _⟩, HI⟩
    case round =>
      clear H' HI hcz3
      obtain ⟨nx, i, rfl, HA, HK1, HI⟩ := hrel
      cases gk with
      | zero => exact absurd HA.out (by simp [impl_Graph_reducible.l0])
      | succ k1 =>
        have H := HA.out
        clear HA
        simp only [impl_Graph_reducible.l0] at H
        by_cases c3 : i < (l0.length : Int)
        · rw [if_pos c3] at H
          by_cases c4 : 0 ≤ i
          · rw [if_pos c4] at H
            obtain ⟨ad, AL, cL, eA, hx0, hl0, hi0⟩ := at_row HR0.out i c4 c3
            obtain ⟨row, hrow⟩ : ∃ row, row = l0.getD i.toNat [] := ⟨_, rfl⟩
            rw [← hrow] at hx0 hl0 hi0 H
            cases eA
            have H' := Aside0.mk H
            have HRR := Aside0.mk hi0
            have c3b : decide (i < (l0.length : Int)) = true := decide_eq_true c3
            have c4b : decide (0 ≤ i) = true := decide_eq_true c4
            have p3 := eq_true c3
            have p4 := eq_true c4
            have p34 : (i < (n4 : Int)) = True := eq_true (by rw [HN.out]; exact c3)
            have p34b : decide (i < (n4 : Int)) = true := decide_eq_true (by rw [HN.out]; exact c3)
            have hx1 : wr.cell? (ad.add i.toNat) = some (.slice AL row.length cL) := pw_cell_below HI.out.below hx0
            clear H hi0 hl0 hrow c3 c4 hx0
            go_wp2
            go_loopg [36] k1 (fun kq v36 w' => ∃ (nx : List (List Int)) (j : Int), v36 = .int .i64 j ∧ Aside0 (impl_Graph_reducible.l1 kq l0 dm nx i row j = some r) ∧ Aside0 (kq ≤ k1) ∧ Aside0 (DInv w w' a2 b2 (.slice (some ⟨gn, 0, none⟩) n4 n4) (.slice Ad dm.length cd) nx dm))
            case atStart => exact ⟨nx, 0, rfl, H', ⟨Nat.le_refl _⟩, HI⟩
            case round =>
              clear H' HI hx1
              obtain ⟨nx, j, rfl, HA, HK2, HI⟩ := hrel
              cases gk with
              | zero => exact absurd HA.out (by simp [impl_Graph_reducible.l1])
              | succ k2 =>
                have H := HA.out
                clear HA
                simp only [impl_Graph_reducible.l1] at H
                by_cases d1 : j < (row.length : Int)
                · rw [if_pos d1] at H
                  by_cases d2 : 0 ≤ j
                  · rw [if_pos d2] at H
                    by_cases d3 : i < (dm.length : Int)
                    · rw [if_pos d3] at H
                      obtain ⟨m, hm⟩ : ∃ m, m = rd row j := ⟨_, rfl⟩
                      rw [← hm] at H
                      by_cases d4 : 0 ≤ m
                      · rw [if_pos d4] at H
                        by_cases d5 : m < ((dm.getD i.toNat []).length : Int)
                        · rw [if_pos d5] at H
                          obtain ⟨a1, e1, hy1⟩ := Kd.at_int (Kd.C_below HRR.out HI.out.below) j d2 d1
                          rw [← hm] at hy1
                          cases e1
                          have d6 : 0 ≤ i := of_decide_eq_true c4b
                          obtain ⟨a2', A2, c2, e2, hy2, hl2, hi2⟩ := at_row (Kd.S_reads' HI.out.dom).2.2 i d6 d3
                          cases e2
                          obtain ⟨a3, e3, hy3⟩ := Kd.at_bool hi2 m d4 d5
                          cases e3
                          obtain ⟨y, hy⟩ : ∃ y, y = dm.getD i.toNat [] := ⟨_, rfl⟩
                          rw [← hy] at H hy2 hl2 hi2 hy3 d5
                          have q1 : decide (j < (row.length : Int)) = true := decide_eq_true d1
                          have q2 : decide (0 ≤ j) = true := decide_eq_true d2
                          have p1 := eq_true d1
                          have p2 := eq_true d2
                          have p3' := eq_true d3
                          have p4' := eq_true d4
                          have p5' := eq_true d5
                          have HM := Aside0.mk hm
                          clear d1 d2 d3 d4 d5 hl2 hi2 hy hm
                          by_cases d7 : rdOf false y m = true
                          · rw [if_pos d7] at H
                            rw [d7] at hy3
                            have H' := Aside0.mk H
                            clear H d7 d6
                            go_wp2
                            go_roundg k2
                            case measure => have := HK2.out; omega
                            case rel => exact ⟨nx, _, rfl, H', ⟨by have := HK2.out; omega⟩, HI⟩
                          · rw [if_neg d7] at H
                            have d7' : rdOf false y m = false := by simpa using d7
                            rw [d7'] at hy3
                            by_cases d8 : i < (nx.length : Int)
                            · rw [if_pos d8] at H
                              by_cases d9 : (nx.getD i.toNat []).length < 17592186044416
                              · rw [if_pos d9] at H
                                obtain ⟨y2, hy2⟩ : ∃ y2, y2 = nx.getD i.toNat [] := ⟨_, rfl⟩
                                rw [← hy2] at H d9
                                have H' := Aside0.mk H
                                have HLM := Aside0.mk d9
                                obtain ⟨g', oki, ve, hg, hx2, hf2, hR, hoki, hPg, hbg, hH⟩ := S_row HI.out.out i d6 (of_decide_eq_true p34b)
                                injection hg with hg
                                injection hg with hg _ _
                                subst hg
                                rw [← hy2] at hR
                                have HR := Aside0.mk hR
                                have HH := Aside0.mk hH
                                have HKI := Aside0.mk hoki
                                have HPG := Aside0.mk hPg
                                have HBG := Aside0.mk hbg
                                obtain ⟨Ae, ce, ee⟩ := Kd.R_slice hR
                                subst ee
                                clear hy2 H d7 d7' d8 d9 d6 hR hH hoki hPg hbg
                                go_wp2_with (first | ((with_reducible refine gate_builtin (b := .append) (xs := #[.tmp 53, .tmp 55]) rfl ?_); at_builtin; refine Kd.R_append (Kd.int .i64) (w0 := w) w.heap.size rfl (.tmp 53) (.tmp 55) 31 3 (.int .i64 0) 8 rfl Try.underlying31 (by kernel_rfl) rfl (by decide) (by omega) (.slice Ae y2.length ce) y2 m [.int .i64 m] (fun k_ => oki k_ ∨ wr.heap.size ≤ k_) (fun _ => False) rfl rfl ?aP (fun _ hk => hk.elim) ?aF ?aO ?aB ?aS ?aL ?_; (case aP => exact rfl); (case aB => exact HI.out.below); (case aF => exact fun k_ hk_ => .inr hk_); (case aO => exact Kd.R_mono HR.out (fun k_ h_ => .inl h_)); (case aS => exact HI.out.below.size); (case aL => have := HLM.out; omega); intro v56 w7 ho hb hgr hat; have hkp : Kept wr w7 oki := Kept.of_grown hgr (Kept.refl _ _) (fun k_ e_ => .inl (HR.out.1 k_ e_)); have HI3 := Aside0.mk (HI.out.put HH.out (of_decide_eq_true c4b) (of_decide_eq_true p34b) HPG.out HBG.out hkp hb ho); have hx7 : w7.cell? ⟨gn, i.toNat, none⟩ = some (.slice Ae y2.length ce) := cell_kept hx2 hkp (fun h_ => (HKI.out gn h_).2 rfl); have hf7 : w7.frozen? ⟨gn, i.toNat, none⟩ = false := (frozen_kept hkp (fun h_ => (HKI.out gn h_).2 rfl) (World.block_lt_of_cell? wr _ hx2)).trans hf2; obtain ⟨Av, cv, ev⟩ := Kd.R_slice ho; rw [List.length_append, List.length_singleton] at ev; subst ev; clear ho hb hgr hat hkp HR HH HKI HPG HBG HI hx2 hf2 hy1 hy2 hy3))
                                go_roundg k2
                                case measure => have := HK2.out; omega
                                case rel => exact ⟨_, _, rfl, H', ⟨by have := HK2.out; omega⟩, HI3⟩
                              · rw [if_neg d9] at H; exact absurd H (by simp)
                            · rw [if_neg d8] at H; exact absurd H (by simp)
                        · rw [if_neg d5] at H; exact absurd H (by simp)
                      · rw [if_neg d4] at H; exact absurd H (by simp)
                    · rw [if_neg d3] at H; exact absurd H (by simp)
                  · rw [if_neg d2] at H; exact absurd H (by simp)
                · rw [if_neg d1] at H
                  have H' := Aside0.mk H
                  have q1 : decide (j < (row.length : Int)) = false := decide_eq_false d1
                  clear H d1
                  go_wp2
                  go_roundg k2
                  case measure => have := HK2.out; have := HK1.out; omega
                  case rel => exact ⟨nx, _, rfl, H', ⟨by have := HK2.out; have := HK1.out; omega⟩, HI⟩
          · rw [if_neg c4] at H; exact absurd H (by simp)
        · rw [if_neg c3] at H
          obtain ⟨rb, B1, H⟩ := Option.bind_eq_some_iff.mp H
          obtain ⟨ls, B2, H⟩ := Option.bind_eq_some_iff.mp H
          have B := Aside0.mk B1
          have C := Aside0.mk B2
          have H' := Aside0.mk H
          have c3b : decide (i < (l0.length : Int)) = false := decide_eq_false c3
          have hln : n4 = nx.length := (Kd.S_reads' HI.out.out).1
          subst hln
          have hcz3 : wr.cell? ⟨b, 0, none⟩ = some (.slice A0 l0.length c0) := (blk_cell (blk_below HBX.out HI.out.below) 0).trans rfl
          clear H B1 B2 c3
          go_wp2_with (first | (go_at_call 55; refine (impl_reach.calls k1 _ _ l0 0 none 0 [] rb _ (Kd.C_below HR0.out HI.out.below) HC0.out (Kd.C_nil _ _) (Nat.le_refl _) B.out).mono ?_; rintro e w4 ⟨va, rfl, ho, hb⟩; have HI2 := Aside0.mk (HI.out.step hb); have HRB := Aside0.mk ho; clear hcz3 HI ho hb; obtain ⟨Ab, cb, eb⟩ := Kd.R_slice HRB.out; subst eb) | (go_at_call 53; refine (impl_listOf.calls k1 _ _ rb ls _ (Kd.R_reads' HRB.out).2.2 (R_cap HRB.out) C.out).mono ?_; rintro e w5 ⟨vl, rfl, ho, hb⟩; have HE := Aside0.mk (show EInv w w5 _ vl nx ls from ⟨below_step HI2.out.below hb, Kd.S_mono (Kd.S_below HI2.out.out hb) (fun _ _ => trivial), Kd.R_lower ho HI2.out.below.size⟩); clear HI2 HRB ho hb; obtain ⟨Al, cl, el⟩ := Kd.R_slice HE.out.row; subst el))
          go_loopg [67] k1 (fun kq v67 w' => ∃ (i : Int), v67 = .int .i64 i ∧ Aside0 (impl_Graph_reducible.l2 kq nx ls i = some r) ∧ Aside0 (kq ≤ k1) ∧ Aside0 (EInv w w' (.slice (some ⟨gn, 0, none⟩) nx.length nx.length) (.slice Al ls.length cl) nx ls))
          case atStart => exact ⟨0, rfl, H', ⟨Nat.le_refl _⟩, HE⟩
          case round =>
            clear H' HE
            obtain ⟨i, rfl, HA, HK2, HE⟩ := hrel
            cases gk with
            | zero => exact absurd HA.out (by simp [impl_Graph_reducible.l2])
            | succ k2 =>
              have H := HA.out
              clear HA
              simp only [impl_Graph_reducible.l2] at H
              by_cases d1 : i < (ls.length : Int)
              · rw [if_pos d1] at H
                by_cases d2 : 0 ≤ i
                · rw [if_pos d2] at H
                  obtain ⟨m, hm⟩ : ∃ m, m = rd ls i := ⟨_, rfl⟩
                  rw [← hm] at H
                  by_cases d3 : 0 ≤ m
                  · rw [if_pos d3] at H
                    by_cases d4 : m < (nx.length : Int)
                    · rw [if_pos d4] at H
                      obtain ⟨a1, e1, hy1⟩ := Kd.at_int (Kd.R_reads' HE.out.row).2.2 i d2 d1
                      rw [← hm] at hy1
                      cases e1
                      obtain ⟨a2', A2, c2, e2, hy2, hl2, hi2⟩ := at_row (Kd.S_reads' HE.out.out).2.2 m d3 d4
                      cases e2
                      rw [add_plain] at hy2
                      obtain ⟨row, hrow⟩ : ∃ row, row = nx.getD m.toNat [] := ⟨_, rfl⟩
                      rw [← hrow] at H hy2 hl2 hi2
                      have HRW := Aside0.mk hi2
                      have H' := Aside0.mk H
                      have HM := Aside0.mk hm
                      have q1 : decide (i < (ls.length : Int)) = true := decide_eq_true d1
                      have q2 : decide (0 ≤ i) = true := decide_eq_true d2
                      have p1 := eq_true d1
                      have p2 := eq_true d2
                      have p3 := eq_true d3
                      have p4 := eq_true d4
                      clear H d1 d2 d3 d4 hl2 hi2 hrow hm
                      go_wp2
                      go_loopg [76] k2 (fun kq v76 w' => ∃ (j : Int), v76 = .int .i64 j ∧ Aside0 (impl_Graph_reducible.l3 kq nx ls i row j = some r) ∧ Aside0 (kq ≤ k2) ∧ Aside0 (EInv w w' (.slice (some ⟨gn, 0, none⟩) nx.length nx.length) (.slice (some a1) ls.length cl) nx ls) ∧ Aside0 ((Kd.int .i64).C w' A2 row.length row))
                      case atStart => exact ⟨0, rfl, H', ⟨Nat.le_refl _⟩, HE, HRW⟩
                      case round =>
                        clear H' HE HRW hy1 hy2
                        obtain ⟨j, rfl, HA, HK3, HE, HRW⟩ := hrel
                        cases gk with
                        | zero => exact absurd HA.out (by simp [impl_Graph_reducible.l3])
                        | succ k3 =>
                          have H := HA.out
                          clear HA
                          simp only [impl_Graph_reducible.l3] at H
                          by_cases d1 : j < (row.length : Int)
                          · rw [if_pos d1] at H
                            by_cases d2 : 0 ≤ j
                            · rw [if_pos d2] at H
                              rw [← HM.out] at H
                              obtain ⟨rb2, B1, H⟩ := Option.bind_eq_some_iff.mp H
                              have B2 := Aside0.mk B1
                              rw [if_pos (of_eq_true p3)] at H
                              by_cases d4 : m < (rb2.length : Int)
                              · rw [if_pos d4] at H
                                obtain ⟨y, hy⟩ : ∃ y, y = rd row j := ⟨_, rfl⟩
                                obtain ⟨a4, e4, hy4⟩ := Kd.at_int HRW.out j d2 d1
                                rw [← hy] at hy4
                                cases e4
                                have hB3 := B2.out
                                rw [← hy] at hB3
                                have B3 := Aside0.mk hB3
                                have q3 : decide (j < (row.length : Int)) = true := decide_eq_true d1
                                have q4 : decide (0 ≤ j) = true := decide_eq_true d2
                                have p5 := eq_true d1
                                have p6 := eq_true d2
                                have p7 := eq_true d4
                                have HD4 := Aside0.mk d4
                                clear d1 d2 d4 B1 B2 hB3 hy
                                cases d7 : rdOf false rb2 m with
                                | true =>
                                  rw [d7, if_pos rfl] at H
                                  obtain rfl := Option.some.inj H
                                  have HD7 := Aside0.mk d7
                                  clear d7
                                  go_wp2_with (go_at_call 55; refine (impl_reach.calls k3 _ _ nx y none 0 [] rb2 _ (Kd.S_reads' HE.out.out).2.2 (Nat.le_refl _) (Kd.C_nil _ _) (Nat.le_refl _) B3.out).mono ?_; rintro e w4 ⟨va, rfl, ho, hb⟩; have HE2 := Aside0.mk (HE.out.step hb); have HRB := Aside0.mk ho; clear HE ho hb hy4; obtain ⟨Ab, cb, eb⟩ := Kd.R_slice HRB.out; subst eb; obtain ⟨a5, e5, hy5⟩ := Kd.at_bool (Kd.R_reads' HRB.out).2.2 m (of_eq_true p3) HD4.out; cases e5; rw [HD7.out] at hy5)
                                  go_ret
                                  exact ⟨rfl, HE2.out.below⟩
                                | false =>
                                  rw [d7, if_neg (by simp)] at H
                                  have H' := Aside0.mk H
                                  have HD7 := Aside0.mk d7
                                  clear d7 H
                                  go_wp2_with (go_at_call 55; refine (impl_reach.calls k3 _ _ nx y none 0 [] rb2 _ (Kd.S_reads' HE.out.out).2.2 (Nat.le_refl _) (Kd.C_nil _ _) (Nat.le_refl _) B3.out).mono ?_; rintro e w4 ⟨va, rfl, ho, hb⟩; have HE2 := Aside0.mk (HE.out.step hb); have HRW2 := Aside0.mk (Kd.C_below HRW.out hb); have HRB := Aside0.mk ho; clear HE HRW ho hb hy4; obtain ⟨Ab, cb, eb⟩ := Kd.R_slice HRB.out; subst eb; obtain ⟨a5, e5, hy5⟩ := Kd.at_bool (Kd.R_reads' HRB.out).2.2 m (of_eq_true p3) HD4.out; cases e5; rw [HD7.out] at hy5)
                                  go_roundg k3
                                  case measure => have := HK3.out; omega
                                  case rel => exact ⟨_, rfl, H', ⟨by have := HK3.out; omega⟩, HE2, HRW2⟩
                              · rw [if_neg d4] at H; exact absurd H (by simp)
                            · rw [if_neg d2] at H; exact absurd H (by simp)
                          · rw [if_neg d1] at H
                            have H' := Aside0.mk H
                            have q3 : decide (j < (row.length : Int)) = false := decide_eq_false d1
                            clear H d1
                            go_wp2
                            go_roundg k3
                            case measure => have := HK3.out; have := HK2.out; omega
                            case rel => exact ⟨_, rfl, H', ⟨by have := HK3.out; have := HK2.out; omega⟩, HE⟩
                    · rw [if_neg d4] at H; exact absurd H (by simp)
                  · rw [if_neg d3] at H; exact absurd H (by simp)
                · rw [if_neg d2] at H; exact absurd H (by simp)
              · rw [if_neg d1] at H
                obtain rfl := Option.some.inj H
                have q1 : decide (i < (ls.length : Int)) = false := decide_eq_false d1
                clear H d1
                go_wp2
                go_ret
                exact ⟨rfl, HE.out.below⟩

/-! ### impl_IsReducible: function 23 (by hand: a variable whose row a pointer's method hands on) -/
def impl_IsReducible.f (k : Nat) (g : List (List Int)) : Option (Bool × Bool) := (impl_GoodGraph.f k g).bind fun b => (if b = true then ((impl_Graph_reducible.f k g).bind fun x => (some (x, true))) else (some (false, false)))
theorem impl_IsReducible.mono : ∀ a0 k, LeO (impl_IsReducible.f k a0) (impl_IsReducible.f (k + 1) a0) := by
  intro a0 k
  unfold impl_IsReducible.f
  repeat' first
      | (with_reducible exact impl_GoodGraph.mono _ _)
      | (with_reducible exact impl_Graph_reducible.mono _ _)
      | (with_reducible exact LeO.refl _)
      | (with_reducible exact LeO.none _)
      | (with_reducible refine LeO.ite ?_ ?_)
      | (with_reducible refine LeO.bind ?_ (fun _ => ?_))
set_option maxHeartbeats 8000000 in
set_option maxRecDepth 100000 in
theorem impl_IsReducible.calls (k : Nat) (A0_0 : Option Addr) (c0_0 : Nat) (l0_0 : List (List Int)) (r1 : Bool) (r2 : Bool) (w : World) (hr0_0 : Kd.C (Kd.slice 3 (Kd.int .i64)) w A0_0 l0_0.length l0_0) (hc0_0 : l0_0.length ≤ c0_0) (h : impl_IsReducible.f k l0_0 = some (r1, r2)) :
    Calls Try.prog 23 #[.agg #[.slice A0_0 l0_0.length c0_0]] w fun e w' => e = .returned (.tuple #[.bool r1, .bool r2]) ∧ Below w.heap.size w w' := by
  have hu27 := Try.underlying27
  have HR0 := Aside0.mk hr0_0
  have HC0 := Aside0.mk hc0_0
  clear hr0_0 hc0_0
  unfold impl_IsReducible.f at h
  obtain ⟨b, A1, H⟩ := Option.bind_eq_some_iff.mp h
  have A := Aside0.mk A1
  have HBX := Aside0.mk (heap_alloc_new w (.cells #[.slice A0_0 l0_0.length c0_0] 27))
  have HB := Aside0.mk (below_alloc (Below.refl w.heap.size w) (.cells #[.slice A0_0 l0_0.length c0_0] 27))
  clear h A1
  cases b with
  | false =>
    rw [if_neg (by decide)] at H
    simp only [Option.some.injEq, Prod.mk.injEq] at H
    obtain ⟨rfl, rfl⟩ := H
    go_enter Try.func23, Try.ntmps23
    go_wp2_with (first | (go_at_call 14; (refine (impl_GoodGraph.calls k _ _ l0_0 false _ (Kd.C_below HR0.out HB.out) HC0.out A.out).mono ?_); rintro e w2 ⟨rfl, hb⟩; have HB2 := Aside0.mk (below_step HB.out hb); clear hb))
    go_ret2
    exact ⟨rfl, HB2.out⟩
  | true =>
    rw [if_pos rfl] at H
    obtain ⟨x, B1, H⟩ := Option.bind_eq_some_iff.mp H
    simp only [Option.some.injEq, Prod.mk.injEq] at H
    obtain ⟨rfl, rfl⟩ := H
    have B := Aside0.mk B1
    clear B1
    go_enter Try.func23, Try.ntmps23
    go_wp2_with (first | (go_at_call 14; (refine (impl_GoodGraph.calls k _ _ l0_0 true _ (Kd.C_below HR0.out HB.out) HC0.out A.out).mono ?_); rintro e w2 ⟨rfl, hb⟩; have HB2 := Aside0.mk (below_step HB.out hb); have HBX2 := Aside0.mk (blk_below HBX.out hb); clear hb) | (go_at_call 51; (refine (impl_Graph_reducible.calls k _ _ _ l0_0 x _ HBX2.out (Kd.C_below HR0.out HB2.out) HC0.out B.out).mono ?_); rintro e w3 ⟨rfl, hb⟩; have HB3 := Aside0.mk (below_step HB2.out hb); clear hb))
    go_ret2
    exact ⟨rfl, HB3.out⟩

/-! ### spec_l1Has: function 59 -/
def spec_l1Has.l0 : Nat → Int → List Int → Int → Int → Option (Bool)
  | 0, _, _, _, _ => none
  | k + 1, x1, x7, x8, x9 => if x9 < x8 then (if 0 ≤ x9 then (if x9 < (x7.length : Int) then (if (rd x7 x9) = x1 then (some true) else (spec_l1Has.l0 k x1 x7 x8 (wrap64 (x9 + 1)))) else (none)) else (none)) else (some false)
def spec_l1Has.f (k : Nat) (l0 : List Int) (a1 : Int) : Option (Bool) := spec_l1Has.l0 k a1 l0 (l0.length : Int) 0
theorem spec_l1Has.mono_l : ∀ k, (∀ y0 y1 y2 y3, LeO (spec_l1Has.l0 k y0 y1 y2 y3) (spec_l1Has.l0 (k + 1) y0 y1 y2 y3))
  | 0 => fun _ _ _ _ r h => by simp [spec_l1Has.l0] at h
  | k + 1 => by
    have ih0 := spec_l1Has.mono_l k
    · intro y0 y1 y2 y3
      unfold spec_l1Has.l0
      repeat' first
      | (with_reducible exact ih0 _ _ _ _)
      | (with_reducible exact LeO.refl _)
      | (with_reducible exact LeO.none _)
      | (with_reducible refine LeO.ite ?_ ?_)
      | (with_reducible refine LeO.bind ?_ (fun _ => ?_))
      | exact ih0 _ _ _ _
      | exact LeO.none _
      | refine LeO.ite ?_ ?_
      | refine LeO.bind ?_ (fun _ => ?_)
theorem spec_l1Has.mono : ∀ a0 a1 k, LeO (spec_l1Has.f k a0 a1) (spec_l1Has.f (k + 1) a0 a1) := by
  intro a0 a1 k
  have ih0 := spec_l1Has.mono_l k
  unfold spec_l1Has.f
  repeat' first
      | (with_reducible exact ih0 _ _ _ _)
      | (with_reducible exact LeO.refl _)
      | (with_reducible exact LeO.none _)
      | (with_reducible refine LeO.ite ?_ ?_)
      | (with_reducible refine LeO.bind ?_ (fun _ => ?_))
      | exact ih0 _ _ _ _
      | exact LeO.none _
      | refine LeO.ite ?_ ?_
      | refine LeO.bind ?_ (fun _ => ?_)
set_option maxHeartbeats 8000000 in
set_option maxRecDepth 100000 in
theorem spec_l1Has.calls (k : Nat) (A0 : Option Addr) (c0 : Nat) (l0 : List Int) (a1 : Int) (r : Bool) (w : World) (hr0 : Kd.C (Kd.int .i64) w A0 l0.length l0) (hc0 : l0.length ≤ c0) (h : spec_l1Has.f k l0 a1 = some r) :
    Calls Try.prog 59 #[.slice A0 l0.length c0, .int .i64 a1] w fun e w' => e = .returned (.bool r) ∧ Drawn0 w w' := by
  have HR0 := Aside0.mk hr0
  have HC0 := Aside0.mk hc0
  clear hr0 hc0
  have H : (spec_l1Has.l0 k a1 l0 (l0.length : Int) 0) = some r := h
  clear h
  have H' := Aside0.mk H
  clear H
  go_enter Try.func59, Try.ntmps59
  go_wp2
  go_loopg [9] k (fun kq v9 w' => ∃ (x9_1 : Int), v9 = .int .i64 x9_1 ∧ Aside0 (spec_l1Has.l0 kq a1 l0 (l0.length : Int) x9_1 = some r) ∧ Aside0 (kq ≤ k) ∧ Drawn0 w w')
  case atStart => exact ⟨(0), (by first | rfl | (simp; done) | (simp [*]; done)), H', ⟨Nat.le_refl _⟩, by repeat (first | exact Drawn0.refl _ | apply Drawn0.step)⟩
  case round =>
    clear H'
    try clear p2
    obtain ⟨x9_1, rfl, HA, HK1, ⟨m1, rfl⟩⟩ := hrel
    cases gk with
    | zero => exact absurd HA.out (by simp [spec_l1Has.l0])
    | succ k1 =>
      have H := HA.out
      clear HA
      simp only [spec_l1Has.l0] at H
      by_cases c3 : x9_1 < (l0.length : Int)
      · rw [if_pos c3] at H
        have c3b0 : decide (x9_1 < (l0.length : Int)) = true := decide_eq_true c3
        clear c3
        by_cases c4 : 0 ≤ x9_1
        · rw [if_pos c4] at H
          have c4b0 : decide (0 ≤ x9_1) = true := decide_eq_true c4
          clear c4
          by_cases c5 : x9_1 < (l0.length : Int)
          · rw [if_pos c5] at H
            have c5b0 : decide (x9_1 < (l0.length : Int)) = true := decide_eq_true c5
            clear c5
            by_cases c6 : (rd l0 x9_1) = a1
            · rw [if_pos c6] at H
              have c6b0 : ((rd l0 x9_1) == a1) = true := beq_iff_eq.mpr c6
              have c6b1 : ((rd l0 x9_1) != a1) = false := bne_eq_false_iff_eq.mpr c6
              clear c6
              obtain rfl := Option.some.inj H
              have p170 : 0 ≤ (x9_1 : Int) := of_decide_eq_true (by first | (with_reducible assumption) | assumption)
              have q170 : x9_1 < (l0.length : Int) := of_decide_eq_true (by first | (with_reducible assumption) | assumption)
              obtain ⟨ad170, e170, hx170_0⟩ := Kd.at_int HR0.out x9_1 p170 q170
              cases e170
              replace p170 := eq_true p170
              replace q170 := eq_true q170
              go_wp2
              go_ret
              exact ⟨by first | rfl | (simp; done) | (simp [*]; done), by repeat (first | exact Drawn0.refl _ | apply Drawn0.step)⟩
            · rw [if_neg c6] at H
              have c6b0 : ((rd l0 x9_1) == a1) = false := beq_eq_false_iff_ne.mpr c6
              have c6b1 : ((rd l0 x9_1) != a1) = true := bne_iff_ne.mpr c6
              have H' := Aside0.mk H
              clear H
              have p170 : 0 ≤ (x9_1 : Int) := of_decide_eq_true (by first | (with_reducible assumption) | assumption)
              have q170 : x9_1 < (l0.length : Int) := of_decide_eq_true (by first | (with_reducible assumption) | assumption)
              obtain ⟨ad170, e170, hx170_0⟩ := Kd.at_int HR0.out x9_1 p170 q170
              cases e170
              replace p170 := eq_true p170
              replace q170 := eq_true q170
              go_wp2
              go_roundg k1
              case measure => have := HK1.out; omega
              case rel => exact ⟨(wrap64 (x9_1 + 1)), (by first | rfl | (simp; done) | (simp [*]; done)), H', ⟨by have := HK1.out; omega⟩, by repeat (first | exact Drawn0.refl _ | apply Drawn0.step)⟩
          · rw [if_neg c5] at H
            exact absurd H (by simp)
        · rw [if_neg c4] at H
          exact absurd H (by simp)
      · rw [if_neg c3] at H
        have c3b0 : decide (x9_1 < (l0.length : Int)) = false := decide_eq_false c3
        clear c3
        obtain rfl := Option.some.inj H
        go_wp2
        go_ret
        exact ⟨by first | rfl | (simp; done) | (simp [*]; done), by repeat (first | exact Drawn0.refl _ | apply Drawn0.step)⟩

end Go.Proofs.Ytbagmhcdhemopaa.Q
