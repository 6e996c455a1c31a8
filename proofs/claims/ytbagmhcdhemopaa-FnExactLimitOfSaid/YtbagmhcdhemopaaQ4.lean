-- WRITTEN BY A PROGRAM OF THIS SESSION
import Derived.Test.YtbagmhcdhemopaaQ0
import Derived.Test.YtbagmhcdhemopaaQ2
import Derived.Test.YtbagmhcdhemopaaQ3
namespace Go.Proofs.Ytbagmhcdhemopaa.Q
open Go.RowKit Go.Proofs.YtbagmhcdhemopaaW.PrintWords Go.Proofs.YtbagmhcdhemopaaW.PrintLast Go.Proofs.YtbagmhcdhemopaaW.PrintMore
attribute [local go_sem] max2_int min2_int max_two min_two max_three min_three max_four min_four   -- for this text's walks alone
set_option linter.unusedVariables false
set_option linter.unusedSimpArgs false

/-! ### spec_l7Limit: function 54 (by hand: rows in rows beside a flat one, all of the call's own) -/
mutual
def spec_l7Limit.l0 : Nat → List (List Int) → List Int → List (List Int) → Int → Option Int
  | 0, _, _, _, _ => none
  | k + 1, g, L, x, i => if i < (L.length : Int) then (if 0 ≤ i then (if 0 ≤ rd L i then (if rd L i < (g.length : Int) then ((spec_l6Drop.f k (g.getD (rd L i).toNat []) (rd L i)).bind fun y => (spec_l7Limit.l0 k g L (x.set (rd L i).toNat y) (wrap64 (i + 1)))) else none) else none) else none) else spec_l7Limit.l1 k L x true
def spec_l7Limit.l1 : Nat → List Int → List (List Int) → Bool → Option Int
  | 0, _, _, _ => none
  | k + 1, L, x, ag => if ag = true then spec_l7Limit.l2 k L x 0 else some (L.length : Int)
def spec_l7Limit.l2 : Nat → List Int → List (List Int) → Int → Option Int
  | 0, _, _, _ => none
  | k + 1, L, x, i => if i < (L.length : Int) then (if 0 ≤ i then (spec_l7Limit.l3 k L x i (rd L i) [] 0) else none) else spec_l7Limit.l1 k L x false
def spec_l7Limit.l3 : Nat → List Int → List (List Int) → Int → Int → List Int → Int → Option Int
  | 0, _, _, _, _, _, _ => none
  | k + 1, L, x, i, m, fr, j => if j < (L.length : Int) then (if 0 ≤ j then (if 0 ≤ rd L j then (if rd L j < (x.length : Int) then ((spec_l1Has.f k (x.getD (rd L j).toNat []) m).bind fun b => (if b = true then (if fr.length < 17592186044416 then (spec_l7Limit.l3 k L x i m (fr ++ [rd L j]) (wrap64 (j + 1))) else none) else (spec_l7Limit.l3 k L x i m fr (wrap64 (j + 1))))) else none) else none) else none) else (if m = 0 then (spec_l7Limit.l2 k L x (wrap64 (i + 1))) else (if (fr.length : Int) = 1 then (if 0 ≤ rd fr 0 then (if rd fr 0 < (x.length : Int) then ((spec_l6Drop.f k (x.getD (rd fr 0).toNat []) m).bind fun l => (if 0 ≤ m then (if m < (x.length : Int) then (spec_l7Limit.l4 k L x m (rd fr 0) l (x.getD m.toNat []) 0) else none) else none)) else none) else none) else (spec_l7Limit.l2 k L x (wrap64 (i + 1)))))
def spec_l7Limit.l4 : Nat → List Int → List (List Int) → Int → Int → List Int → List Int → Int → Option Int
  | 0, _, _, _, _, _, _, _ => none
  | k + 1, L, x, m, p, l, row, j => if j < (row.length : Int) then (if 0 ≤ j then ((spec_l1Put.f k l (rd row j)).bind fun l2 => (spec_l7Limit.l4 k L x m p l2 row (wrap64 (j + 1)))) else none) else ((spec_l6Drop.f k l p).bind fun y => ((spec_l6Drop.f k L m).bind fun L2 => (spec_l7Limit.l1 k L2 (x.set p.toNat y) true)))
end
def spec_l7Limit.f (k : Nat) (g : List (List Int)) : Option Int := if g.length ≤ 11728124029610 then ((spec_l7Without.f k g (-1)).bind fun L => (spec_l7Limit.l0 k g L (List.replicate g.length []) 0)) else none
theorem spec_l7Limit.mono_l : ∀ k, (∀ y0 y1 y2 y3, LeO (spec_l7Limit.l0 k y0 y1 y2 y3) (spec_l7Limit.l0 (k + 1) y0 y1 y2 y3)) ∧ (∀ y0 y1 y2, LeO (spec_l7Limit.l1 k y0 y1 y2) (spec_l7Limit.l1 (k + 1) y0 y1 y2)) ∧ (∀ y0 y1 y2, LeO (spec_l7Limit.l2 k y0 y1 y2) (spec_l7Limit.l2 (k + 1) y0 y1 y2)) ∧ (∀ y0 y1 y2 y3 y4 y5, LeO (spec_l7Limit.l3 k y0 y1 y2 y3 y4 y5) (spec_l7Limit.l3 (k + 1) y0 y1 y2 y3 y4 y5)) ∧ (∀ y0 y1 y2 y3 y4 y5 y6, LeO (spec_l7Limit.l4 k y0 y1 y2 y3 y4 y5 y6) (spec_l7Limit.l4 (k + 1) y0 y1 y2 y3 y4 y5 y6))
  | 0 => ⟨fun _ _ _ _ r h => by simp [spec_l7Limit.l0] at h, fun _ _ _ r h => by simp [spec_l7Limit.l1] at h, fun _ _ _ r h => by simp [spec_l7Limit.l2] at h, fun _ _ _ _ _ _ r h => by simp [spec_l7Limit.l3] at h, fun _ _ _ _ _ _ _ r h => by simp [spec_l7Limit.l4] at h⟩
  | k + 1 => by
    obtain ⟨ih0, ih1, ih2, ih3, ih4⟩ := spec_l7Limit.mono_l k
    refine ⟨?_, ?_, ?_, ?_, ?_⟩
    · intro y0 y1 y2 y3
      unfold spec_l7Limit.l0
      repeat' first
      | (with_reducible exact ih0 _ _ _ _)
      | (with_reducible exact ih1 _ _ _)
      | (with_reducible exact ih2 _ _ _)
      | (with_reducible exact ih3 _ _ _ _ _ _)
      | (with_reducible exact ih4 _ _ _ _ _ _ _)
      | (with_reducible exact spec_l7Without.mono _ _ _)
      | (with_reducible exact spec_l6Drop.mono _ _ _)
      | (with_reducible exact spec_l1Has.mono _ _ _)
      | (with_reducible exact spec_l1Put.mono _ _ _)
      | (with_reducible exact LeO.refl _)
      | (with_reducible exact LeO.none _)
      | (with_reducible refine LeO.ite ?_ ?_)
      | (with_reducible refine LeO.bind ?_ (fun _ => ?_))
    · intro y0 y1 y2
      unfold spec_l7Limit.l1
      repeat' first
      | (with_reducible exact ih0 _ _ _ _)
      | (with_reducible exact ih1 _ _ _)
      | (with_reducible exact ih2 _ _ _)
      | (with_reducible exact ih3 _ _ _ _ _ _)
      | (with_reducible exact ih4 _ _ _ _ _ _ _)
      | (with_reducible exact spec_l7Without.mono _ _ _)
      | (with_reducible exact spec_l6Drop.mono _ _ _)
      | (with_reducible exact spec_l1Has.mono _ _ _)
      | (with_reducible exact spec_l1Put.mono _ _ _)
      | (with_reducible exact LeO.refl _)
      | (with_reducible exact LeO.none _)
      | (with_reducible refine LeO.ite ?_ ?_)
      | (with_reducible refine LeO.bind ?_ (fun _ => ?_))
    · intro y0 y1 y2
      unfold spec_l7Limit.l2
      repeat' first
      | (with_reducible exact ih0 _ _ _ _)
      | (with_reducible exact ih1 _ _ _)
      | (with_reducible exact ih2 _ _ _)
      | (with_reducible exact ih3 _ _ _ _ _ _)
      | (with_reducible exact ih4 _ _ _ _ _ _ _)
      | (with_reducible exact spec_l7Without.mono _ _ _)
      | (with_reducible exact spec_l6Drop.mono _ _ _)
      | (with_reducible exact spec_l1Has.mono _ _ _)
      | (with_reducible exact spec_l1Put.mono _ _ _)
      | (with_reducible exact LeO.refl _)
      | (with_reducible exact LeO.none _)
      | (with_reducible refine LeO.ite ?_ ?_)
      | (with_reducible refine LeO.bind ?_ (fun _ => ?_))
    · intro y0 y1 y2 y3 y4 y5
      unfold spec_l7Limit.l3
      repeat' first
      | (with_reducible exact ih0 _ _ _ _)
      | (with_reducible exact ih1 _ _ _)
      | (with_reducible exact ih2 _ _ _)
      | (with_reducible exact ih3 _ _ _ _ _ _)
      | (with_reducible exact ih4 _ _ _ _ _ _ _)
      | (with_reducible exact spec_l7Without.mono _ _ _)
      | (with_reducible exact spec_l6Drop.mono _ _ _)
      | (with_reducible exact spec_l1Has.mono _ _ _)
      | (with_reducible exact spec_l1Put.mono _ _ _)
      | (with_reducible exact LeO.refl _)
      | (with_reducible exact LeO.none _)
      | (with_reducible refine LeO.ite ?_ ?_)
      | (with_reducible refine LeO.bind ?_ (fun _ => ?_))
    · intro y0 y1 y2 y3 y4 y5 y6
      unfold spec_l7Limit.l4
      repeat' first
      | (with_reducible exact ih0 _ _ _ _)
      | (with_reducible exact ih1 _ _ _)
      | (with_reducible exact ih2 _ _ _)
      | (with_reducible exact ih3 _ _ _ _ _ _)
      | (with_reducible exact ih4 _ _ _ _ _ _ _)
      | (with_reducible exact spec_l7Without.mono _ _ _)
      | (with_reducible exact spec_l6Drop.mono _ _ _)
      | (with_reducible exact spec_l1Has.mono _ _ _)
      | (with_reducible exact spec_l1Put.mono _ _ _)
      | (with_reducible exact LeO.refl _)
      | (with_reducible exact LeO.none _)
      | (with_reducible refine LeO.ite ?_ ?_)
      | (with_reducible refine LeO.bind ?_ (fun _ => ?_))
theorem spec_l7Limit.mono : ∀ a0 k, LeO (spec_l7Limit.f k a0) (spec_l7Limit.f (k + 1) a0) := by
  intro a0 k
  obtain ⟨ih0, ih1, ih2, ih3, ih4⟩ := spec_l7Limit.mono_l k
  unfold spec_l7Limit.f
  repeat' first
      | (with_reducible exact ih0 _ _ _ _)
      | (with_reducible exact ih1 _ _ _)
      | (with_reducible exact ih2 _ _ _)
      | (with_reducible exact ih3 _ _ _ _ _ _)
      | (with_reducible exact ih4 _ _ _ _ _ _ _)
      | (with_reducible exact spec_l7Without.mono _ _ _)
      | (with_reducible exact spec_l6Drop.mono _ _ _)
      | (with_reducible exact spec_l1Has.mono _ _ _)
      | (with_reducible exact spec_l1Put.mono _ _ _)
      | (with_reducible exact LeO.refl _)
      | (with_reducible exact LeO.none _)
      | (with_reducible refine LeO.ite ?_ ?_)
      | (with_reducible refine LeO.bind ?_ (fun _ => ?_))
/-- A fresh row is stored in an element's place. -/
theorem S_fill {α : Type} {d : Kd α} {e E base g nn cap : Nat} {W W4 : World} {P : Nat → Prop} {x : List (List α)} {y : List α} {v0 : Value} {i : Int} (h : Kd.S (Kd.slice e d) E W base P (.slice (some ⟨g, 0, none⟩) nn cap) x) (hs : base ≤ W.heap.size) (h0 : 0 ≤ i) (h1 : i < nn) (hb : Below W.heap.size W W4) (hr : d.R e W4 W.heap.size (fun _ => True) v0 y) :
    Kd.S (Kd.slice e d) E (W4.setCell ⟨g, i.toNat, none⟩ v0) base (fun k => P k ∨ W.heap.size ≤ k) (.slice (some ⟨g, 0, none⟩) nn cap) (x.set i.toNat y) := by
  obtain ⟨g', oki, ve, hg, _, _, _, _, hPg, hbg, hH⟩ := S_row (Kd.S_mono h (fun k hk => (fun hf => hf.2 hk : ¬ (k < W.heap.size ∧ ¬ P k)))) i h0 h1
  injection hg with hg
  injection hg with hg _ _
  subst hg
  refine Kd.S_mono (S_upd hH h0 h1 hPg (fun k hk => hk.1) (Kept.of_below hb oki) (Kd.R_mono (Kd.R_lower (Kd.R_bound hr) hs) (fun k hk => .inr hk.2.1))).1 (fun k hk => ?_)
  by_cases h2 : P k
  · exact .inl h2
  · exact .inr (Nat.le_of_not_lt fun h3 => hk ⟨h3, h2⟩)
/-- left and next, both of the call's own and apart. -/
structure LmI (w W : World) (vl vn : Value) (L : List Int) (x : List (List Int)) : Prop where
  below : Below w.heap.size w W
  both : ∃ Pl Pn : Nat → Prop, (Kd.int .i64).R 3 W w.heap.size Pl vl L ∧ Kd.S (Kd.slice 3 (Kd.int .i64)) 31 W w.heap.size Pn vn x ∧ ∀ k, Pl k → ¬ Pn k
theorem LmI.left {w W : World} {A : Option Addr} {n c : Nat} {vn : Value} {L : List Int} {x : List (List Int)} (h : LmI w W (.slice A n c) vn L x) : (Kd.int .i64).C W A L.length L ∧ L.length ≤ c := by
  obtain ⟨_, _, h1, _⟩ := h.both
  exact ⟨(Kd.R_reads' h1).2.2, R_cap h1⟩
theorem LmI.slice {w W : World} {vl vn : Value} {L : List Int} {x : List (List Int)} (h : LmI w W vl vn L x) : ∃ A c, vl = .slice A L.length c := by
  obtain ⟨_, _, h1, _⟩ := h.both
  exact Kd.R_slice h1
theorem LmI.next {w W : World} {A : Option Addr} {n c : Nat} {vl : Value} {L : List Int} {x : List (List Int)} (h : LmI w W vl (.slice A n c) L x) : (Kd.slice 3 (Kd.int .i64)).C W A x.length x ∧ n = x.length := by
  obtain ⟨_, _, _, h1, _⟩ := h.both
  exact ⟨(Kd.S_reads' h1).2.2, (Kd.S_reads' h1).1⟩
theorem LmI.leftSet {w W W1 : World} {A : Option Addr} {n c g nn cap : Nat} {L : List Int} {x : List (List Int)} (h : LmI w W (.slice A n c) (.slice (some ⟨g, 0, none⟩) nn cap) L x) (hb : Below W.heap.size W W1) (j : Nat) (u : Value) : (Kd.int .i64).C (W1.setCell ⟨g, j, none⟩ u) A L.length L := by
  obtain ⟨Pl, Pn, h1, h2, h3⟩ := h.both
  have hg : Pn g := (Kd.S_R h2).1 g (by simp [Value.ownBlock])
  exact (Kd.R_reads' (Kd.R_far (p := ⟨g, j, none⟩) (Kd.R_below h1 hb) (fun k hk e => h3 k hk (by have e2 : k = g := e; exact e2 ▸ hg)) u)).2.2
theorem lm_second {w w3 : World} {vr : Value} {rs : List Int} {m : Nat} (hw : Below w.heap.size w w3) (hm : m ≤ 281474976710656) (ho : (Kd.int .i64).R 3 w3 w.heap.size (fun _ => True) vr rs) :
    RInv (Kd.int .i64) 3 31 (Kd.int .i64) 3 w (w3.alloc (.cells (madeCells #[.slice none 0 0] m) 31)) (.slice (some ⟨w3.heap.size, 0, none⟩) m m) vr (List.replicate m []) rs (fun k => k < w3.heap.size) := by
  refine ⟨hw.alloc hw.size _, ?_, Kd.R_tight rfl (Kd.R_below ho (below_alloc (Below.refl _ _) _)), fun k h => Kd.R_lt ho k h.symm, fun k h => by simp; omega⟩
  exact Kd.S_mono (Kd.S_lower (Kd.S_bound (S_made (Kd.int .i64) 3 31 w3 m hm)) hw.size) (fun k hk h => by have := hk.2.1; omega)
/-- A row is made anew and stored, then the list of those left is made anew. -/
theorem LmI.round {w W W2 W4 : World} {vl vy vl2 : Value} {L L2 y : List Int} {x : List (List Int)} {g nn cap : Nat} {i : Int} (h : LmI w W vl (.slice (some ⟨g, 0, none⟩) nn cap) L x) {W1 : World} (h01 : Below W.heap.size W W1) (h0 : 0 ≤ i) (h1 : i < nn) (hb : Below W1.heap.size W1 W2) (hr : (Kd.int .i64).R 3 W2 W1.heap.size (fun _ => True) vy y)
    (hb4 : Below (W2.setCell ⟨g, i.toNat, none⟩ vy).heap.size (W2.setCell ⟨g, i.toNat, none⟩ vy) W4) (hr4 : (Kd.int .i64).R 3 W4 (W2.setCell ⟨g, i.toNat, none⟩ vy).heap.size (fun _ => True) vl2 L2) : LmI w W4 vl2 (.slice (some ⟨g, 0, none⟩) nn cap) L2 (x.set i.toNat y) := by
  obtain ⟨Pl, Pn, hl, hn, _⟩ := h.both
  have hs := h.below.size
  have hs1 := h01.size
  have hs2 := hb.size
  obtain ⟨_, _, _, hg, _, _, _, _, _, hbg, _⟩ := S_row hn i h0 h1
  injection hg with hg
  injection hg with hg _ _
  subst hg
  have h3 := S_fill (Kd.S_below hn h01) (Nat.le_trans hs hs1) h0 h1 hb hr
  have hB3 : Below w.heap.size w (W2.setCell ⟨g, i.toNat, none⟩ vy) := (below_step (below_step h.below h01) hb).setCell hbg _
  refine ⟨below_step hB3 hb4, fun k => (W2.setCell ⟨g, i.toNat, none⟩ vy).heap.size ≤ k, fun k => k < (W2.setCell ⟨g, i.toNat, none⟩ vy).heap.size, ?_, ?_, fun k hk => by omega⟩
  · exact Kd.R_lower (Kd.R_mono (Kd.R_bound hr4) (fun k hk => hk.2.1)) hB3.size
  · exact Kd.S_below (Kd.S_mono (Kd.S_bound h3) (fun k hk => hk.2.2.1)) hb4
set_option maxHeartbeats 8000000 in
set_option maxRecDepth 100000 in
theorem spec_l7Limit.calls (k : Nat) (A0_0 : Option Addr) (c0_0 : Nat) (l0_0 : List (List Int)) (r : Int) (w : World) (hr0_0 : Kd.C (Kd.slice 3 (Kd.int .i64)) w A0_0 l0_0.length l0_0) (hc0_0 : l0_0.length ≤ c0_0) (h : spec_l7Limit.f k l0_0 = some r) :
    Calls Try.prog 54 #[.agg #[.slice A0_0 l0_0.length c0_0]] w fun e w' => e = .returned (.int .i64 r) ∧ Below w.heap.size w w' := by
  have hu27 := Try.underlying27
  have HR0 := Aside0.mk hr0_0
  have HC0 := Aside0.mk hc0_0
  clear hr0_0 hc0_0
  unfold spec_l7Limit.f at h
  by_cases c1 : l0_0.length ≤ 11728124029610
  rotate_left
  · rw [if_neg c1] at h; exact absurd h (by simp)
  rw [if_pos c1] at h
  obtain ⟨L, A1, H⟩ := Option.bind_eq_some_iff.mp h
  have A := Aside0.mk A1
  have H' := Aside0.mk H
  have HM := Aside0.mk c1
  have HBX := Aside0.mk (heap_alloc_new w (.cells #[.slice A0_0 l0_0.length c0_0] 27))
  have HB := Aside0.mk (below_alloc (Below.refl w.heap.size w) (.cells #[.slice A0_0 l0_0.length c0_0] 27))
  clear h A1 H c1
  have hmk := fun W => run_make_row' (P := Try.prog) 22 31 (.slice none 0 0) 24 Try.underlying22 (by kernel_rfl) rfl .i64 .i64 l0_0.length (by have := HM.out; omega) (by have := HM.out; omega) W
  go_enter Try.func54, Try.ntmps54
  go_wp2_with (first | (go_at_call 73; (refine (spec_l7Without.calls k _ _ l0_0 (-1) L _ (Kd.C_below HR0.out HB.out) HC0.out A.out).mono ?_); rintro e w2 ⟨vl, rfl, ho, hb⟩; have HI := Aside0.mk (lm_second (m := l0_0.length) (below_step HB.out hb) (by have := HM.out; omega) (Kd.R_lower ho HB.out.size)); have HBX2 := Aside0.mk (blk_below HBX.out hb); have hcz : w2.cell? ⟨w.heap.size, 0, none⟩ = some (.slice A0_0 l0_0.length c0_0) := (blk_cell HBX2.out 0).trans rfl; have hfz := blk_frozen HBX2.out 0; obtain ⟨Al, cl, el⟩ := Kd.R_slice ho; subst el; clear ho hb))
  clear hcz hfz
  have HG := Aside0.mk (blk_lt HBX2.out)
  have HX := Aside0.mk (blk_alloc HBX2.out (.cells (madeCells #[.slice none 0 0] l0_0.length) 31))
  generalize w2.heap.size = go at HI HX HG ⊢
  clear hmk HB HBX HBX2 HM
  go_loopg [25] k (fun kq v25 w' => ∃ (x : List (List Int)) (i : Int), v25 = .int .i64 i ∧ Aside0 (spec_l7Limit.l0 kq l0_0 L x i = some r) ∧ Aside0 (kq ≤ k) ∧ Aside0 (RInv (Kd.int .i64) 3 31 (Kd.int .i64) 3 w w' (.slice (some ⟨go, 0, none⟩) l0_0.length l0_0.length) (.slice Al L.length cl) x L (fun k => k < go)) ∧ Aside0 (w'.heap[w.heap.size]? = some (.cells #[.slice A0_0 l0_0.length c0_0] 27 (0, 0))))
  case atStart => exact ⟨_, 0, rfl, H', ⟨Nat.le_refl _⟩, HI, HX⟩
  case round =>
    clear H' HI HX
    obtain ⟨x, i, rfl, HA, HK1, HI, HX⟩ := hrel
    cases gk with
    | zero => exact absurd HA.out (by simp [spec_l7Limit.l0])
    | succ k1 =>
      have H := HA.out
      clear HA
      simp only [spec_l7Limit.l0] at H
      by_cases c1 : i < (L.length : Int)
      · rw [if_pos c1] at H
        by_cases c2 : 0 ≤ i
        · rw [if_pos c2] at H
          obtain ⟨m, hm⟩ : ∃ m, m = rd L i := ⟨_, rfl⟩
          rw [← hm] at H
          by_cases c3 : 0 ≤ m
          · rw [if_pos c3] at H
            by_cases c4 : m < (l0_0.length : Int)
            · rw [if_pos c4] at H
              obtain ⟨y, A1, H⟩ := Option.bind_eq_some_iff.mp H
              have A2 := Aside0.mk A1
              have H' := Aside0.mk H
              obtain ⟨a1, e1, hy1⟩ := Kd.at_int (Kd.R_reads' HI.out.row).2.2 i c2 c1
              rw [← hm] at hy1
              cases e1
              obtain ⟨ad, AL, cL, eA, hx0, hl0, hi0⟩ := at_row HR0.out m c3 c4
              have hx1 : wr.cell? (ad.add m.toNat) = some (.slice AL (l0_0.getD m.toNat []).length cL) := pw_cell_below HI.out.below hx0
              obtain ⟨row, hrow⟩ : ∃ row, row = l0_0.getD m.toNat [] := ⟨_, rfl⟩
              rw [← hrow] at hx1 hl0 hi0 A2
              have hcz4 : wr.cell? ⟨w.heap.size, 0, none⟩ = some (.slice A0_0 l0_0.length c0_0) := (blk_cell HX.out 0).trans rfl
              have hfz4 := blk_frozen HX.out 0
              cases eA
              obtain ⟨g', oki, ve, hg, hx2, hf2, _, _, hPg, _, _⟩ := S_row HI.out.out m c3 c4
              injection hg with hg
              injection hg with hg hgq1 hgq2
              subst hg
              have HLT := Aside0.mk (World.block_lt_of_cell? wr _ hx2)
              have HRW := Aside0.mk hi0
              have HRL := Aside0.mk hl0
              have HC3 := Aside0.mk c3
              have HC4 := Aside0.mk c4
              have q1 : decide (i < (L.length : Int)) = true := decide_eq_true c1
              have q2 : decide (0 ≤ i) = true := decide_eq_true c2
              have p1 := eq_true c1
              have p2 := eq_true c2
              have p3 := eq_true c3
              have p4 := eq_true c4
              clear A1 H hx0 hl0 hi0 hrow hgq1 hgq2 hPg c1 c2 c3 c4 hm
              go_wp2_with (first | (go_at_call 60; (refine (spec_l6Drop.calls k1 _ _ row m y _ (Kd.C_below HRW.out HI.out.below) HRL.out A2.out).mono ?_); rintro e w4 ⟨vy, rfl, ho, hb⟩; have HI2 := Aside0.mk (HI.out.fill HC3.out HC4.out hb ho); have HX2 := Aside0.mk (blk_far (blk_below HX.out hb) (p := ⟨go, m.toNat, none⟩) (fun e => by have e2 : w.heap.size = go := e; have := HG.out; omega) vy); have hx3 : w4.cell? ⟨go, m.toNat, none⟩ = some ve := pw_cell_below hb hx2; have hf3 : w4.frozen? ⟨go, m.toNat, none⟩ = false := (frozen_below hb HLT.out).trans hf2; obtain ⟨Ay, cy, ey⟩ := Kd.R_slice ho; subst ey; clear ho hb HI HX hx1 hx2 hf2 hcz4 hfz4 hy1))
              go_roundg k1
              case measure => have := HK1.out; omega
              case rel => exact ⟨_, _, rfl, H', ⟨by have := HK1.out; omega⟩, HI2, HX2⟩
            · rw [if_neg c4] at H; exact absurd H (by simp)
          · rw [if_neg c3] at H; exact absurd H (by simp)
        · rw [if_neg c2] at H; exact absurd H (by simp)
      · rw [if_neg c1] at H
        have H' := Aside0.mk H
        have HJ := Aside0.mk (show LmI w wr _ _ L x from ⟨HI.out.below, _, _, HI.out.row, HI.out.out, fun k_ h_ h2_ => h2_ (HI.out.frow k_ h_)⟩)
        have q1 : decide (i < (L.length : Int)) = false := decide_eq_false c1
        clear H c1 HI HX
        go_wp2
        go_loopg [3, 7] k1 (fun kq v3 v7 w' => ∃ (L : List Int) (x : List (List Int)) (ag : Bool), v7 = .bool ag ∧ Aside0 (spec_l7Limit.l1 kq L x ag = some r) ∧ Aside0 (kq ≤ k1) ∧ Aside0 (LmI w w' v3 (.slice (some ⟨go, 0, none⟩) l0_0.length l0_0.length) L x))
        case atStart => exact ⟨L, x, true, rfl, H', ⟨Nat.le_refl _⟩, HJ⟩
        case round =>
          clear H' HJ
          obtain ⟨L, x, ag, rfl, HA, HK2, HI⟩ := hrel
          cases gk with
          | zero => exact absurd HA.out (by simp [spec_l7Limit.l1])
          | succ k2 =>
            have H := HA.out
            clear HA
            simp only [spec_l7Limit.l1] at H
            obtain ⟨Al, cl, rfl⟩ := HI.out.slice
            cases ag with
            | false =>
              rw [if_neg (by decide)] at H
              obtain rfl := Option.some.inj H
              go_wp2
              go_ret
              exact ⟨rfl, HI.out.below⟩
            | true =>
              rw [if_pos rfl] at H
              have H' := Aside0.mk H
              have HLN := Aside0.mk HI.out.next.2
              obtain ⟨wo, HI, HB⟩ : ∃ wo, Aside0 (LmI w wo (.slice Al L.length cl) (.slice (some ⟨go, 0, none⟩) l0_0.length l0_0.length) L x) ∧ Aside0 (Below wo.heap.size wo wr) := ⟨wr, HI, ⟨Below.refl _ _⟩⟩
              clear H
              go_wp2
              go_loopg [3, 7, 43] k2 (fun kq v3 v7 v43 w' => ∃ (i : Int), v3 = .slice Al L.length cl ∧ v7 = .bool false ∧ v43 = .int .i64 i ∧ Aside0 (spec_l7Limit.l2 kq L x i = some r) ∧ Aside0 (kq ≤ k2) ∧ Aside0 (Below wo.heap.size wo w'))
              case atStart => exact ⟨0, rfl, rfl, rfl, H', ⟨Nat.le_refl _⟩, HB⟩
              case round =>
                clear H' HB
                obtain ⟨i, rfl, rfl, rfl, HA, HK3, HB⟩ := hrel
                cases gk with
                | zero => exact absurd HA.out (by simp [spec_l7Limit.l2])
                | succ k3 =>
                  have H := HA.out
                  clear HA
                  simp only [spec_l7Limit.l2] at H
                  by_cases c1 : i < (L.length : Int)
                  · rw [if_pos c1] at H
                    by_cases c2 : 0 ≤ i
                    · rw [if_pos c2] at H
                      obtain ⟨m, hm⟩ : ∃ m, m = rd L i := ⟨_, rfl⟩
                      rw [← hm] at H
                      obtain ⟨a1, e1, hy1⟩ := Kd.at_int (Kd.C_below HI.out.left.1 HB.out) i c2 c1
                      rw [← hm] at hy1
                      cases e1
                      have H' := Aside0.mk H
                      have HF := Aside0.mk (Kd.R_nil (Kd.int .i64) 3 wr wo.heap.size (fun _ => True))
                      have q1 : decide (i < (L.length : Int)) = true := decide_eq_true c1
                      have q2 : decide (0 ≤ i) = true := decide_eq_true c2
                      have p1 := eq_true c1
                      have p2 := eq_true c2
                      clear H c1 c2 hm
                      go_wp2
                      clear hy1
                      go_loopg [10, 49] k3 (fun kq v10 v49 w' => ∃ (fr : List Int) (j : Int), v49 = .int .i64 j ∧ Aside0 (spec_l7Limit.l3 kq L x i m fr j = some r) ∧ Aside0 (kq ≤ k3) ∧ Aside0 (Below wo.heap.size wo w') ∧ Aside0 ((Kd.int .i64).R 3 w' wo.heap.size (fun _ => True) v10 fr))
                      case atStart => exact ⟨[], 0, rfl, H', ⟨Nat.le_refl _⟩, HB, HF⟩
                      case round =>
                        clear H' HB HF
                        obtain ⟨fr, j, rfl, HA, HK4, HB, HF⟩ := hrel
                        obtain ⟨Af, cf, rfl⟩ := Kd.R_slice HF.out
                        cases gk with
                        | zero => exact absurd HA.out (by simp [spec_l7Limit.l3])
                        | succ k4 =>
                          have H := HA.out
                          clear HA
                          simp only [spec_l7Limit.l3] at H
                          by_cases d1 : j < (L.length : Int)
                          · rw [if_pos d1] at H
                            by_cases d2 : 0 ≤ j
                            · rw [if_pos d2] at H
                              obtain ⟨p, hp⟩ : ∃ p, p = rd L j := ⟨_, rfl⟩
                              rw [← hp] at H
                              by_cases d3 : 0 ≤ p
                              · rw [if_pos d3] at H
                                by_cases d4 : p < (x.length : Int)
                                · rw [if_pos d4] at H
                                  obtain ⟨b, A1, H⟩ := Option.bind_eq_some_iff.mp H
                                  obtain ⟨a2, e2, hz1⟩ := Kd.at_int (Kd.C_below HI.out.left.1 HB.out) j d2 d1
                                  rw [← hp] at hz1
                                  injection e2 with e2
                                  subst e2
                                  obtain ⟨_, A3, c3, e3, hz2, hl3, hc3⟩ := at_row (Kd.C_below HI.out.next.1 HB.out) p d3 d4
                                  cases e3
                                  rw [add_plain] at hz2
                                  obtain ⟨row, hrow⟩ : ∃ row, row = x.getD p.toNat [] := ⟨_, rfl⟩
                                  rw [← hrow] at hz2 hl3 hc3 A1
                                  have A2 := Aside0.mk A1
                                  have HRW := Aside0.mk hc3
                                  have HRL := Aside0.mk hl3
                                  have s1 : decide (j < (L.length : Int)) = true := decide_eq_true d1
                                  have s2 : decide (0 ≤ j) = true := decide_eq_true d2
                                  have t1 := eq_true d1
                                  have t2 := eq_true d2
                                  have t3 := eq_true d3
                                  have t4 : (p < (l0_0.length : Int)) = True := eq_true (by rw [HLN.out]; exact d4)
                                  clear A1 d1 d2 d3 d4 hrow hl3 hc3 hp
                                  cases b with
                                  | true =>
                                    rw [if_pos rfl] at H
                                    by_cases d5 : fr.length < 17592186044416
                                    · rw [if_pos d5] at H
                                      have H' := Aside0.mk H
                                      have HLM := Aside0.mk d5
                                      clear H d5
                                      go_wp2_with (first | (go_at_call 59; (refine (spec_l1Has.calls k4 _ _ row m true _ HRW.out HRL.out A2.out).mono ?_); rintro e w5 ⟨rfl, ⟨nd, rfl⟩⟩) | ((with_reducible refine gate_builtin (b := .append) (xs := #[.tmp 59, .tmp 61]) rfl ?_); at_builtin; refine Kd.R_append (Kd.int .i64) (w0 := wo) wo.heap.size rfl (.tmp 59) (.tmp 61) 31 3 (.int .i64 0) 8 rfl Try.underlying31 (by kernel_rfl) rfl (by decide) (by omega) (.slice Af fr.length cf) fr p [.int .i64 p] (fun _ => True) (fun _ => False) rfl rfl ?aP (fun _ hk => hk.elim) (fun _ _ => trivial) ?aO ?aB ?aS ?aL ?_; (case aP => exact rfl); (case aB => exact pw_below_drewN HB.out _); (case aO => exact Kd.R_drewN HF.out _); (case aS => exact HB.out.size); (case aL => have := HLM.out; omega); intro v56 w7 ho hb hgr hat; have HF2 := Aside0.mk ho; have HB2 := Aside0.mk hb; clear ho hb hgr hat HF HB hz1 hz2))
                                      go_roundg k4
                                      case measure => have := HK4.out; omega
                                      case rel => exact ⟨_, _, rfl, H', ⟨by have := HK4.out; omega⟩, HB2, HF2⟩
                                    · rw [if_neg d5] at H; exact absurd H (by simp)
                                  | false =>
                                    rw [if_neg (by decide)] at H
                                    have H' := Aside0.mk H
                                    clear H
                                    go_wp2_with (first | (go_at_call 59; (refine (spec_l1Has.calls k4 _ _ row m false _ HRW.out HRL.out A2.out).mono ?_); rintro e w5 ⟨rfl, ⟨nd, rfl⟩⟩))
                                    go_roundg k4
                                    case measure => have := HK4.out; omega
                                    case rel => exact ⟨fr, _, rfl, H', ⟨by have := HK4.out; omega⟩, ⟨pw_below_drewN HB.out _⟩, ⟨Kd.R_drewN HF.out _⟩⟩
                                · rw [if_neg d4] at H; exact absurd H (by simp)
                              · rw [if_neg d3] at H; exact absurd H (by simp)
                            · rw [if_neg d2] at H; exact absurd H (by simp)
                          · rw [if_neg d1] at H
                            have s1 : decide (j < (L.length : Int)) = false := decide_eq_false d1
                            clear d1
                            by_cases d2 : m = 0
                            · rw [if_pos d2] at H
                              have H' := Aside0.mk H
                              have v2 : (m == 0) = true := beq_iff_eq.mpr d2
                              clear H d2
                              go_wp2
                              go_roundg k4
                              case measure => have := HK4.out; have := HK3.out; omega
                              case rel => exact ⟨_, rfl, rfl, rfl, H', ⟨by have := HK4.out; have := HK3.out; omega⟩, HB⟩
                            · rw [if_neg d2] at H
                              have v2 : (m == 0) = false := beq_eq_false_iff_ne.mpr d2
                              clear d2
                              by_cases d3 : (fr.length : Int) = 1
                              · rw [if_pos d3] at H
                                have v3 : ((fr.length : Int) != 1) = false := bne_eq_false_iff_eq.mpr d3
                                obtain ⟨pp, hpp⟩ : ∃ pp, pp = rd fr 0 := ⟨_, rfl⟩
                                rw [← hpp] at H
                                by_cases d4 : 0 ≤ pp
                                · rw [if_pos d4] at H
                                  by_cases d5 : pp < (x.length : Int)
                                  · rw [if_pos d5] at H
                                    obtain ⟨l, A1, H⟩ := Option.bind_eq_some_iff.mp H
                                    by_cases d6 : 0 ≤ m
                                    · rw [if_pos d6] at H
                                      by_cases d7 : m < (x.length : Int)
                                      · rw [if_pos d7] at H
                                        obtain ⟨gf, _, ef, _⟩ := Kd.R_form HF.out (by omega)
                                        injection ef with ef efa efb
                                        subst ef
                                        have hz0 := (Kd.R_celln (0 : Int) HF.out 0 (by decide) (by omega)).1
                                        rw [show rdOf (0 : Int) fr 0 = pp from hpp.symm, show (0 : Int).toNat = 0 from rfl] at hz0
                                        obtain ⟨_, A3, c3, e3, hz2, hl3, hc3⟩ := at_row (Kd.C_below HI.out.next.1 HB.out) pp d4 d5
                                        cases e3
                                        obtain ⟨_, A4, c4, e4, hz30, hl4, hc4⟩ := at_row HI.out.next.1 m d6 d7
                                        cases e4
                                        rw [add_plain] at hz2 hz30
                                        have hz3 := pw_cell_below HB.out hz30
                                        obtain ⟨oki, ve, hq2, hq3⟩ : ∃ (oki : Nat → Prop) (ve : Value), wo.cell? ⟨go, pp.toNat, none⟩ = some ve ∧ wo.frozen? ⟨go, pp.toNat, none⟩ = false := by
                                          obtain ⟨_, _, _, h1, _⟩ := HI.out.both
                                          obtain ⟨g_, oki, ve, eg, h2, h3, _⟩ := S_row h1 pp d4 (by rw [HLN.out]; exact d5)
                                          cases eg
                                          exact ⟨oki, ve, h2, h3⟩
                                        have HQ2 := Aside0.mk hq2
                                        have HQ3 := Aside0.mk hq3
                                        have HD4 := Aside0.mk d4
                                        have HD5 := Aside0.mk (show pp < (l0_0.length : Int) by rw [HLN.out]; exact d5)
                                        obtain ⟨row, hrow⟩ : ∃ row, row = x.getD pp.toNat [] := ⟨_, rfl⟩
                                        obtain ⟨row2, hrow2⟩ : ∃ row2, row2 = x.getD m.toNat [] := ⟨_, rfl⟩
                                        rw [← hrow] at hz2 hl3 hc3 A1
                                        rw [← hrow2] at hz3 hz30 hl4 hc4 H
                                        have A2 := Aside0.mk A1
                                        have H' := Aside0.mk H
                                        have HRW := Aside0.mk hc3
                                        have HRL := Aside0.mk hl3
                                        have HRW2 := Aside0.mk hc4
                                        have w1 : (0 < fr.length) = True := eq_true (by omega)
                                        have w4 := eq_true d4
                                        have w5 : (pp < (l0_0.length : Int)) = True := eq_true (by rw [HLN.out]; exact d5)
                                        have w6 := eq_true d6
                                        have w7 : (m < (l0_0.length : Int)) = True := eq_true (by rw [HLN.out]; exact d7)
                                        clear A1 H efa efb d3 d4 d5 d6 d7 hpp hl3 hc3 hl4 hc4 hrow hrow2 HF hz30 hq2 hq3
                                        go_wp2_with (go_at_call 60; (refine (spec_l6Drop.calls k4 _ _ row m l _ HRW.out HRL.out A2.out).mono ?_); rintro e w4 ⟨vy, rfl, ho, hb⟩; have HL := Aside0.mk (Kd.R_lower ho HB.out.size); have HB4 := Aside0.mk (below_step HB.out hb); have hz4 : w4.cell? ⟨go, m.toNat, none⟩ = some (.slice A4 row2.length c4) := pw_cell_below hb hz3; obtain ⟨Ay, cy, ey⟩ := Kd.R_slice ho; subst ey; clear ho hb hz0 hz2 hz3 HB HRW)
                                        go_loopg [14, 85] k4 (fun kq v14 v85 w' => ∃ (l : List Int) (j : Int), v85 = .int .i64 j ∧ Aside0 (spec_l7Limit.l4 kq L x m pp l row2 j = some r) ∧ Aside0 (kq ≤ k4) ∧ Aside0 (Below wo.heap.size wo w') ∧ Aside0 ((Kd.int .i64).R 3 w' wo.heap.size (fun _ => True) v14 l))
                                        case atStart => exact ⟨l, 0, rfl, H', ⟨Nat.le_refl _⟩, HB4, HL⟩
                                        case round =>
                                          clear H' HB4 HL hz4
                                          obtain ⟨l, j, rfl, HA, HK5, HB, HL⟩ := hrel
                                          obtain ⟨Ay, cy, rfl⟩ := Kd.R_slice HL.out
                                          cases gk with
                                          | zero => exact absurd HA.out (by simp [spec_l7Limit.l4])
                                          | succ k5 =>
                                            have H := HA.out
                                            clear HA
                                            simp only [spec_l7Limit.l4] at H
                                            by_cases b1 : j < (row2.length : Int)
                                            · rw [if_pos b1] at H
                                              by_cases b2 : 0 ≤ j
                                              · rw [if_pos b2] at H
                                                obtain ⟨l2, A1, H⟩ := Option.bind_eq_some_iff.mp H
                                                obtain ⟨z, hz⟩ : ∃ z, z = rd row2 j := ⟨_, rfl⟩
                                                rw [← hz] at A1
                                                have A2 := Aside0.mk A1
                                                have H' := Aside0.mk H
                                                obtain ⟨a4, e4, hy4⟩ := Kd.at_int (Kd.C_below HRW2.out HB.out) j b2 b1
                                                rw [← hz] at hy4
                                                cases e4
                                                have s1 : decide (j < (row2.length : Int)) = true := decide_eq_true b1
                                                have s2 : decide (0 ≤ j) = true := decide_eq_true b2
                                                have t1 := eq_true b1
                                                have t2 := eq_true b2
                                                clear A1 H b1 b2 hz
                                                go_wp2_with (go_at_call 74; (refine (spec_l1Put.calls k5 _ _ l z l2 wo _ HB.out HL.out A2.out).mono ?_); rintro e w7 ⟨v0, rfl, hr0, hb, hkp⟩; have HB2 := Aside0.mk hb; have HL2 := Aside0.mk (Kd.R_mono hr0 (fun _ _ => trivial)); clear hr0 hb hkp)
                                                go_roundg k5
                                                case measure => have := HK5.out; omega
                                                case rel => exact ⟨_, _, rfl, H', ⟨by have := HK5.out; omega⟩, HB2, HL2⟩
                                              · rw [if_neg b2] at H; exact absurd H (by simp)
                                            · rw [if_neg b1] at H
                                              obtain ⟨y, B1, H⟩ := Option.bind_eq_some_iff.mp H
                                              obtain ⟨L2, B2, H⟩ := Option.bind_eq_some_iff.mp H
                                              have C1 := Aside0.mk B1
                                              have C2 := Aside0.mk B2
                                              have H' := Aside0.mk H
                                              have s1 : decide (j < (row2.length : Int)) = false := decide_eq_false b1
                                              have hx2 := pw_cell_below HB.out HQ2.out
                                              have hf2 := (frozen_below HB.out (World.block_lt_of_cell? wo _ HQ2.out)).trans HQ3.out
                                              have HF2 := Aside0.mk hf2
                                              have HX2 := Aside0.mk hx2
                                              clear B1 B2 H b1 hx2 hf2
                                              go_wp2_with (first | (go_at_call 60; (with_reducible refine (spec_l6Drop.calls k5 _ _ l pp y _ (Kd.R_reads' HL.out).2.2 (R_cap HL.out) C1.out).mono ?_); rintro e w7 ⟨vy, rfl, ho, hb⟩; have HY := Aside0.mk ho; have HYB := Aside0.mk hb; have hx7 : w7.cell? ⟨go, pp.toNat, none⟩ = some ve := pw_cell_below hb HX2.out; have hf7 : w7.frozen? ⟨go, pp.toNat, none⟩ = false := (frozen_below hb (World.block_lt_of_cell? wr _ HX2.out)).trans HF2.out; obtain ⟨Az, cz, ez⟩ := Kd.R_slice ho; subst ez; have HLC := Aside0.mk (HI.out.leftSet (below_step HB.out hb) pp.toNat (.slice Az y.length cz)); clear ho hb HL) | (go_at_call 60; (with_reducible refine (spec_l6Drop.calls k5 _ _ L m L2 _ HLC.out HI.out.left.2 C2.out).mono ?_); rintro e w9 ⟨vl2, rfl, ho, hb⟩; have HJ := Aside0.mk (HI.out.round HB.out HD4.out HD5.out HYB.out HY.out hb ho); clear ho hb hx7 hf7))
                                              go_roundg k5
                                              case measure => have := HK5.out; have := HK4.out; have := HK3.out; have := HK2.out; omega
                                              case rel => exact ⟨_, _, _, rfl, H', ⟨by have := HK5.out; have := HK4.out; have := HK3.out; have := HK2.out; omega⟩, HJ⟩
                                      · rw [if_neg d7] at H; exact absurd H (by simp)
                                    · rw [if_neg d6] at H; exact absurd H (by simp)
                                  · rw [if_neg d5] at H; exact absurd H (by simp)
                                · rw [if_neg d4] at H; exact absurd H (by simp)
                              · rw [if_neg d3] at H
                                have H' := Aside0.mk H
                                have v3 : ((fr.length : Int) != 1) = true := bne_iff_ne.mpr d3
                                clear H d3
                                go_wp2
                                go_roundg k4
                                case measure => have := HK4.out; have := HK3.out; omega
                                case rel => exact ⟨_, rfl, rfl, rfl, H', ⟨by have := HK4.out; have := HK3.out; omega⟩, HB⟩
                    · rw [if_neg c2] at H; exact absurd H (by simp)
                  · rw [if_neg c1] at H
                    have H' := Aside0.mk H
                    have q1 : decide (i < (L.length : Int)) = false := decide_eq_false c1
                    have HJ := Aside0.mk (show LmI w wr _ _ L x from ⟨below_step HI.out.below HB.out, by obtain ⟨Pl, Pn, h1, h2, h3⟩ := HI.out.both; exact ⟨Pl, Pn, Kd.R_below h1 HB.out, Kd.S_below h2 HB.out, h3⟩⟩)
                    clear H c1
                    go_wp2
                    go_roundg k3
                    case measure => have := HK3.out; have := HK2.out; omega
                    case rel => exact ⟨L, x, false, rfl, H', ⟨by have := HK3.out; have := HK2.out; omega⟩, HJ⟩

/-! ### spec_LimitOf: function 29 -/
def spec_LimitOf.f (k : Nat) (l0_0 : List (List Int)) : Option (Int × Bool) := (spec_GoodGraph.f k l0_0).bind fun t190 => (if t190 = true then ((spec_l7Limit.f k l0_0).bind fun t191 => (some (t191, true))) else (some (0, false)))
theorem spec_LimitOf.mono : ∀ a0 k, LeO (spec_LimitOf.f k a0) (spec_LimitOf.f (k + 1) a0) := by
  intro a0 k
  unfold spec_LimitOf.f
  repeat' first
      | (with_reducible exact spec_GoodGraph.mono _ _)
      | (with_reducible exact spec_l7Limit.mono _ _)
      | (with_reducible exact LeO.refl _)
      | (with_reducible exact LeO.none _)
      | (with_reducible refine LeO.ite ?_ ?_)
      | (with_reducible refine LeO.bind ?_ (fun _ => ?_))
      | exact spec_GoodGraph.mono _ _
      | exact spec_l7Limit.mono _ _
      | exact LeO.none _
      | refine LeO.ite ?_ ?_
      | refine LeO.bind ?_ (fun _ => ?_)
set_option maxHeartbeats 8000000 in
set_option maxRecDepth 100000 in
theorem spec_LimitOf.calls (k : Nat) (A0_0 : Option Addr) (c0_0 : Nat) (l0_0 : List (List Int)) (r1 : Int) (r2 : Bool) (w : World) (hr0_0 : Kd.C (Kd.slice 3 (Kd.int .i64)) w A0_0 l0_0.length l0_0) (hc0_0 : l0_0.length ≤ c0_0) (h : spec_LimitOf.f k l0_0 = some (r1, r2)) :
    Calls Try.prog 29 #[.agg #[.slice A0_0 l0_0.length c0_0]] w fun e w' => e = .returned (.tuple #[.int .i64 r1, .bool r2]) ∧ Below w.heap.size w w' := by
  have hu27 := Try.underlying27
  have HR0_0 := Aside0.mk hr0_0
  have HC0_0 := Aside0.mk hc0_0
  clear hr0_0 hc0_0
  have HB := Aside0.mk (Below.refl w.heap.size w)
  have H : ((spec_GoodGraph.f k l0_0).bind fun t190 => (if t190 = true then ((spec_l7Limit.f k l0_0).bind fun t191 => (some (t191, true))) else (some (0, false)))) = some (r1, r2) := h
  clear h
  replace H := Option.bind_eq_some_iff.mp H
  obtain ⟨t190, A20, H⟩ := H
  replace H : (if t190 = true then ((spec_l7Limit.f k l0_0).bind fun t191 => (some (t191, true))) else (some (0, false))) = some (r1, r2) := H
  have A2 := Aside0.mk A20
  clear A20
  by_cases c3 : t190 = true
  · subst c3
    have H1 : ((spec_l7Limit.f k l0_0).bind fun t191 => (some (t191, true))) = some (r1, r2) := by rw [if_pos rfl] at H; exact H
    clear H
    have H := H1
    clear H1
    replace H := Option.bind_eq_some_iff.mp H
    obtain ⟨t191, A40, H⟩ := H
    replace H : (some (t191, true)) = some (r1, r2) := H
    have A4 := Aside0.mk A40
    clear A40
    simp only [Option.some.injEq, Prod.mk.injEq] at H
    obtain ⟨rfl, rfl⟩ := H
    go_enter Try.func29, Try.ntmps29
    go_wp2_with (first | ((with_reducible refine gate_dst (N := 1) rfl ?_); refine box_event ?hg (N := 1) ?hd (cs := #[.slice A0_0 l0_0.length c0_0]) (t := 27) ?hr ?_; (case hd => rfl); (case hg => rfl); (case hr => first | (go_simp; done) | (go_simp; rfl)); intro gb189 hg w5 hbox hb; have n0_ := Aside0.mk (below_step (by repeat (first | (with_reducible first | exact HB.out | apply below_alloc | apply pw_below_drewN | apply below_drew1) | exact HB.out)) hb); have n1_ := Aside0.mk (hbox); have n2_ := Aside0.mk ((by rw [hg]; exact (below_size (by repeat (first | (with_reducible first | exact HB.out | apply below_alloc | apply pw_below_drewN | apply below_drew1) | exact HB.out))) : w.heap.size ≤ gb189)); have n3_ := Aside0.mk ((by rw [hg]; exact (below_size (by repeat (first | (with_reducible first | exact HB.out | apply below_alloc | apply pw_below_drewN | apply below_drew1) | exact HB.out))) : w.heap.size ≤ gb189)); clear HB; have HB := n0_; have BK189 := n1_; have GW189 := n2_; have GE189 := n3_; clear n0_ n1_ n2_ n3_; clear hb hbox hg; have hcz6_0 : w5.cell? ⟨gb189, 0, none⟩ = some (.slice A0_0 l0_0.length c0_0) := (blk_cell BK189.out 0).trans rfl; have hfz6_0 := blk_frozen BK189.out 0) | ((with_reducible refine gate_callee (f := 12) rfl ?_); refine goesL_ (some 5) rfl rfl Try.func12 (by kernel_rfl) rfl #[.agg #[.slice A0_0 l0_0.length c0_0]] rfl (by (try simp only [List.map_toArray, List.map_cons, List.map_nil]); first | done | rfl | (simp only [List.length_drop, List.length_take]; rfl)) ?_; (with_reducible refine (spec_GoodGraph.calls k _ _ l0_0 true _ ?side1 ?side2 A2.out).mono ?_); (case side1 => repeat (first | exact (Kd.C_below HR0_0.out HB.out) | (with_reducible refine Kd.C_alloc ?_ _) | (with_reducible refine Kd.C_drewN ?_ _) | (with_reducible refine Kd.C_drew ?_))); (case side2 => exact HC0_0.out); rintro e w7 ⟨rfl, hb⟩; refine ⟨_, rfl, ?_⟩; have n0_ := Aside0.mk (blk_below (g := gb189) (o := .cells #[.slice A0_0 l0_0.length c0_0] 27 (0, 0)) (by (with_reducible repeat (first | refine blk_drewN ?_ _ | refine blk_drew ?_ | refine blk_alloc ?_ _)); exact BK189.out) hb); have n1_ := Aside0.mk (below_step (by repeat (first | (with_reducible first | exact HB.out | apply below_alloc | apply pw_below_drewN | apply below_drew1 | refine below_set ?_ GE189.out) | exact HB.out)) hb); clear BK189; clear HB; have BK189 := n0_; have HB := n1_; clear n0_ n1_; (try clear hb); (try clear hb2); (try clear hk); (try clear hi); have hcz8_0 : w7.cell? ⟨gb189, 0, none⟩ = some (.slice A0_0 l0_0.length c0_0) := (blk_cell BK189.out 0).trans rfl; have hfz8_0 := blk_frozen BK189.out 0) | ((with_reducible refine gate_callee (f := 54) rfl ?_); refine goesL_ (some 8) rfl rfl Try.func54 (by kernel_rfl) rfl #[.agg #[.slice A0_0 l0_0.length c0_0]] rfl (by (try simp only [List.map_toArray, List.map_cons, List.map_nil]); first | done | rfl | (simp only [List.length_drop, List.length_take]; rfl)) ?_; (with_reducible refine (spec_l7Limit.calls k _ _ l0_0 t191 _ ?side1 ?side2 A4.out).mono ?_); (case side1 => repeat (first | exact (Kd.C_below HR0_0.out HB.out) | (with_reducible refine Kd.C_alloc ?_ _) | (with_reducible refine Kd.C_drewN ?_ _) | (with_reducible refine Kd.C_drew ?_))); (case side2 => exact HC0_0.out); rintro e w9 ⟨rfl, hb⟩; refine ⟨_, rfl, ?_⟩; have n0_ := Aside0.mk (blk_below (g := gb189) (o := .cells #[.slice A0_0 l0_0.length c0_0] 27 (0, 0)) (by (with_reducible repeat (first | refine blk_drewN ?_ _ | refine blk_drew ?_ | refine blk_alloc ?_ _)); exact BK189.out) hb); have n1_ := Aside0.mk (below_step (by repeat (first | (with_reducible first | exact HB.out | apply below_alloc | apply pw_below_drewN | apply below_drew1 | refine below_set ?_ GE189.out) | exact HB.out)) hb); clear BK189; clear HB; have BK189 := n0_; have HB := n1_; clear n0_ n1_; (try clear hb); (try clear hb2); (try clear hk); (try clear hi)))
    go_ret2
    exact ⟨by first | rfl | (simp [errW_none, errW_some] <;> rfl) | (simp [*, errW_none, errW_some] <;> rfl), by repeat (first | (with_reducible first | exact HB.out | apply below_alloc | apply pw_below_drewN | apply below_drew1 | refine below_set ?_ GE189.out) | exact HB.out)⟩
  · replace c3 := Bool.eq_false_iff.mpr c3
    subst c3
    have H1 : (some (0, false)) = some (r1, r2) := by rw [if_neg (show ¬ (false = true) by decide)] at H; exact H
    clear H
    have H := H1
    clear H1
    simp only [Option.some.injEq, Prod.mk.injEq] at H
    obtain ⟨rfl, rfl⟩ := H
    go_enter Try.func29, Try.ntmps29
    go_wp2_with (first | ((with_reducible refine gate_dst (N := 1) rfl ?_); refine box_event ?hg (N := 1) ?hd (cs := #[.slice A0_0 l0_0.length c0_0]) (t := 27) ?hr ?_; (case hd => rfl); (case hg => rfl); (case hr => first | (go_simp; done) | (go_simp; rfl)); intro gb189 hg w10 hbox hb; have n0_ := Aside0.mk (below_step (by repeat (first | (with_reducible first | exact HB.out | apply below_alloc | apply pw_below_drewN | apply below_drew1) | exact HB.out)) hb); have n1_ := Aside0.mk (hbox); have n2_ := Aside0.mk ((by rw [hg]; exact (below_size (by repeat (first | (with_reducible first | exact HB.out | apply below_alloc | apply pw_below_drewN | apply below_drew1) | exact HB.out))) : w.heap.size ≤ gb189)); have n3_ := Aside0.mk ((by rw [hg]; exact (below_size (by repeat (first | (with_reducible first | exact HB.out | apply below_alloc | apply pw_below_drewN | apply below_drew1) | exact HB.out))) : w.heap.size ≤ gb189)); clear HB; have HB := n0_; have BK189 := n1_; have GW189 := n2_; have GE189 := n3_; clear n0_ n1_ n2_ n3_; clear hb hbox hg; have hcz11_0 : w10.cell? ⟨gb189, 0, none⟩ = some (.slice A0_0 l0_0.length c0_0) := (blk_cell BK189.out 0).trans rfl; have hfz11_0 := blk_frozen BK189.out 0) | ((with_reducible refine gate_callee (f := 12) rfl ?_); refine goesL_ (some 5) rfl rfl Try.func12 (by kernel_rfl) rfl #[.agg #[.slice A0_0 l0_0.length c0_0]] rfl (by (try simp only [List.map_toArray, List.map_cons, List.map_nil]); first | done | rfl | (simp only [List.length_drop, List.length_take]; rfl)) ?_; (with_reducible refine (spec_GoodGraph.calls k _ _ l0_0 false _ ?side1 ?side2 A2.out).mono ?_); (case side1 => repeat (first | exact (Kd.C_below HR0_0.out HB.out) | (with_reducible refine Kd.C_alloc ?_ _) | (with_reducible refine Kd.C_drewN ?_ _) | (with_reducible refine Kd.C_drew ?_))); (case side2 => exact HC0_0.out); rintro e w12 ⟨rfl, hb⟩; refine ⟨_, rfl, ?_⟩; have n0_ := Aside0.mk (blk_below (g := gb189) (o := .cells #[.slice A0_0 l0_0.length c0_0] 27 (0, 0)) (by (with_reducible repeat (first | refine blk_drewN ?_ _ | refine blk_drew ?_ | refine blk_alloc ?_ _)); exact BK189.out) hb); have n1_ := Aside0.mk (below_step (by repeat (first | (with_reducible first | exact HB.out | apply below_alloc | apply pw_below_drewN | apply below_drew1 | refine below_set ?_ GE189.out) | exact HB.out)) hb); clear BK189; clear HB; have BK189 := n0_; have HB := n1_; clear n0_ n1_; (try clear hb); (try clear hb2); (try clear hk); (try clear hi)))
    go_ret2
    exact ⟨by first | rfl | (simp [errW_none, errW_some] <;> rfl) | (simp [*, errW_none, errW_some] <;> rfl), by repeat (first | (with_reducible first | exact HB.out | apply below_alloc | apply pw_below_drewN | apply below_drew1 | refine below_set ?_ GE189.out) | exact HB.out)⟩

/-! ### impl_within: function 43 -/
def impl_within.f (a0 : Int) (a1 : Int) (a2 : Int) : Option (Bool) := if a0 ≥ a1 then (some (decide (a0 ≤ a2))) else (some false)
set_option maxHeartbeats 8000000 in
set_option maxRecDepth 100000 in
theorem impl_within.calls (a0 : Int) (a1 : Int) (a2 : Int) (r : Bool) (w : World) (h : impl_within.f a0 a1 a2 = some r) :
    Calls Try.prog 43 #[.int .i64 a0, .int .i64 a1, .int .i64 a2] w fun e w' => e = .returned (.bool r) ∧ Drawn0 w w' := by
  have H : (if a0 ≥ a1 then (some (decide (a0 ≤ a2))) else (some false)) = some r := h
  clear h
  by_cases c4 : a0 ≥ a1
  · rw [if_pos c4] at H
    have c4b0 : decide (a1 ≤ a0) = true := decide_eq_true c4
    clear c4
    obtain rfl := Option.some.inj H
    go_enter Try.func43, Try.ntmps43
    go_wp2
    go_ret
    exact ⟨by first | rfl | (simp; done) | (simp [*]; done), by repeat (first | exact Drawn0.refl _ | apply Drawn0.step)⟩
  · rw [if_neg c4] at H
    have c4b0 : decide (a1 ≤ a0) = false := decide_eq_false c4
    clear c4
    obtain rfl := Option.some.inj H
    go_enter Try.func43, Try.ntmps43
    go_wp2
    go_ret
    exact ⟨by first | rfl | (simp; done) | (simp [*]; done), by repeat (first | exact Drawn0.refl _ | apply Drawn0.step)⟩

-- NOT PRINTED: function 69 (slices_IndexFunc_int_int)

-- NOT PRINTED: function 44 (slices_ContainsFunc_int_int)

/-! ### impl_risesIn: function 46 -/
def impl_risesIn.l0 : Nat → List Int → Int → List Int → Int → Int → Option (Bool)
  | 0, _, _, _, _, _ => none
  | k + 1, x0, x1, x7, x8, x9 => if x9 < x8 then (if 0 ≤ x9 then (if x9 < (x7.length : Int) then ((impl_within.f (rd x7 x9) 0 (wrap64 (x1 - 1))).bind fun t193 => (if t193 = true then (if x9 > 0 then (if 0 ≤ (wrap64 (x9 - 1)) then (if (wrap64 (x9 - 1)) < (x0.length : Int) then (if (rd x0 (wrap64 (x9 - 1))) ≥ (rd x7 x9) then (some false) else (impl_risesIn.l0 k x0 x1 x7 x8 (wrap64 (x9 + 1)))) else (none)) else (none)) else (impl_risesIn.l0 k x0 x1 x7 x8 (wrap64 (x9 + 1)))) else (some false))) else (none)) else (none)) else (some true)
def impl_risesIn.f (k : Nat) (l0 : List Int) (a1 : Int) : Option (Bool) := impl_risesIn.l0 k l0 a1 l0 (l0.length : Int) 0
theorem impl_risesIn.mono_l : ∀ k, (∀ y0 y1 y2 y3 y4, LeO (impl_risesIn.l0 k y0 y1 y2 y3 y4) (impl_risesIn.l0 (k + 1) y0 y1 y2 y3 y4))
  | 0 => fun _ _ _ _ _ r h => by simp [impl_risesIn.l0] at h
  | k + 1 => by
    have ih0 := impl_risesIn.mono_l k
    · intro y0 y1 y2 y3 y4
      unfold impl_risesIn.l0
      repeat' first
      | (with_reducible exact ih0 _ _ _ _ _)
      | (with_reducible exact LeO.refl _)
      | (with_reducible exact LeO.none _)
      | (with_reducible refine LeO.ite ?_ ?_)
      | (with_reducible refine LeO.bind ?_ (fun _ => ?_))
      | exact ih0 _ _ _ _ _
      | exact LeO.none _
      | refine LeO.ite ?_ ?_
      | refine LeO.bind ?_ (fun _ => ?_)
theorem impl_risesIn.mono : ∀ a0 a1 k, LeO (impl_risesIn.f k a0 a1) (impl_risesIn.f (k + 1) a0 a1) := by
  intro a0 a1 k
  have ih0 := impl_risesIn.mono_l k
  unfold impl_risesIn.f
  repeat' first
      | (with_reducible exact ih0 _ _ _ _ _)
      | (with_reducible exact LeO.refl _)
      | (with_reducible exact LeO.none _)
      | (with_reducible refine LeO.ite ?_ ?_)
      | (with_reducible refine LeO.bind ?_ (fun _ => ?_))
      | exact ih0 _ _ _ _ _
      | exact LeO.none _
      | refine LeO.ite ?_ ?_
      | refine LeO.bind ?_ (fun _ => ?_)
set_option maxHeartbeats 8000000 in
set_option maxRecDepth 100000 in
theorem impl_risesIn.calls (k : Nat) (A0 : Option Addr) (c0 : Nat) (l0 : List Int) (a1 : Int) (r : Bool) (w : World) (hr0 : Kd.C (Kd.int .i64) w A0 l0.length l0) (hc0 : l0.length ≤ c0) (h : impl_risesIn.f k l0 a1 = some r) :
    Calls Try.prog 46 #[.slice A0 l0.length c0, .int .i64 a1] w fun e w' => e = .returned (.bool r) ∧ Drawn0 w w' := by
  have HR0 := Aside0.mk hr0
  have HC0 := Aside0.mk hc0
  clear hr0 hc0
  have H : (impl_risesIn.l0 k l0 a1 l0 (l0.length : Int) 0) = some r := h
  clear h
  have H' := Aside0.mk H
  clear H
  go_enter Try.func46, Try.ntmps46
  go_wp2
  go_loopg [9] k (fun kq v9 w' => ∃ (x9_1 : Int), v9 = .int .i64 x9_1 ∧ Aside0 (impl_risesIn.l0 kq l0 a1 l0 (l0.length : Int) x9_1 = some r) ∧ Aside0 (kq ≤ k) ∧ Drawn0 w w')
  case atStart => exact ⟨(0), (by first | rfl | (simp; done) | (simp [*]; done)), H', ⟨Nat.le_refl _⟩, by repeat (first | exact Drawn0.refl _ | apply Drawn0.step)⟩
  case round =>
    clear H'
    try clear p2
    obtain ⟨x9_1, rfl, HA, HK1, ⟨m1, rfl⟩⟩ := hrel
    cases gk with
    | zero => exact absurd HA.out (by simp [impl_risesIn.l0])
    | succ k1 =>
      have H := HA.out
      clear HA
      simp only [impl_risesIn.l0] at H
      by_cases c3 : x9_1 < (l0.length : Int)
      · rw [if_pos c3] at H
        have c3b0 : decide (x9_1 < (l0.length : Int)) = true := decide_eq_true c3
        clear c3
        by_cases c4 : 0 ≤ x9_1
        · rw [if_pos c4] at H
          have c4b0 : decide (0 ≤ x9_1) = true := decide_eq_true c4
          clear c4
          by_cases c5 : x9_1 < (l0.length : Int)
          · rw [if_pos c5] at H
            have c5b0 : decide (x9_1 < (l0.length : Int)) = true := decide_eq_true c5
            clear c5
            replace H := Option.bind_eq_some_iff.mp H
            obtain ⟨t193, A60, H⟩ := H
            replace H : (if t193 = true then (if x9_1 > 0 then (if 0 ≤ (wrap64 (x9_1 - 1)) then (if (wrap64 (x9_1 - 1)) < (l0.length : Int) then (if (rd l0 (wrap64 (x9_1 - 1))) ≥ (rd l0 x9_1) then (some false) else (impl_risesIn.l0 k1 l0 a1 l0 (l0.length : Int) (wrap64 (x9_1 + 1)))) else (none)) else (none)) else (impl_risesIn.l0 k1 l0 a1 l0 (l0.length : Int) (wrap64 (x9_1 + 1)))) else (some false)) = some r := H
            have A6 := Aside0.mk A60
            clear A60
            by_cases c7 : t193 = true
            · subst c7
              have H1 : (if x9_1 > 0 then (if 0 ≤ (wrap64 (x9_1 - 1)) then (if (wrap64 (x9_1 - 1)) < (l0.length : Int) then (if (rd l0 (wrap64 (x9_1 - 1))) ≥ (rd l0 x9_1) then (some false) else (impl_risesIn.l0 k1 l0 a1 l0 (l0.length : Int) (wrap64 (x9_1 + 1)))) else (none)) else (none)) else (impl_risesIn.l0 k1 l0 a1 l0 (l0.length : Int) (wrap64 (x9_1 + 1)))) = some r := by rw [if_pos rfl] at H; exact H
              clear H
              have H := H1
              clear H1
              by_cases c8 : x9_1 > 0
              · rw [if_pos c8] at H
                have c8b0 : decide (0 < x9_1) = true := decide_eq_true c8
                clear c8
                obtain ⟨ji9, hji9⟩ : ∃ j_ : Int, (wrap64 (x9_1 - 1)) = j_ := ⟨_, rfl⟩
                replace H : (if 0 ≤ (ji9) then (if (ji9) < (l0.length : Int) then (if (rd l0 (ji9)) ≥ (rd l0 x9_1) then (some false) else (impl_risesIn.l0 k1 l0 a1 l0 (l0.length : Int) (wrap64 (x9_1 + 1)))) else (none)) else (none)) = some r := by first | (rw [hji9] at H; exact H) | (simp only [hji9] at H ⊢; exact H)
                (try rw [hji9] at A6)
                have hji9w : (IntKind.i64.wrap (x9_1 - 1)) = ji9 := (i64_w _).trans hji9
                by_cases c10 : 0 ≤ (ji9)
                · rw [if_pos c10] at H
                  have c10b0 : decide (0 ≤ (ji9)) = true := decide_eq_true c10
                  clear c10
                  by_cases c11 : (ji9) < (l0.length : Int)
                  · rw [if_pos c11] at H
                    have c11b0 : decide ((ji9) < (l0.length : Int)) = true := decide_eq_true c11
                    clear c11
                    by_cases c12 : (rd l0 (ji9)) ≥ (rd l0 x9_1)
                    · rw [if_pos c12] at H
                      have c12b0 : decide ((rd l0 x9_1) ≤ (rd l0 (ji9))) = true := decide_eq_true c12
                      clear c12
                      obtain rfl := Option.some.inj H
                      have p192 : 0 ≤ (x9_1 : Int) := of_decide_eq_true (by first | (with_reducible assumption) | assumption)
                      have q192 : x9_1 < (l0.length : Int) := of_decide_eq_true (by first | (with_reducible assumption) | assumption)
                      obtain ⟨ad192, e192, hx192_0⟩ := Kd.at_int HR0.out x9_1 p192 q192
                      cases e192
                      replace p192 := eq_true p192
                      replace q192 := eq_true q192
                      go_wp2_with (first | ((with_reducible refine gate_callee (f := 43) rfl ?_); refine goesL_ (some 17) rfl rfl Try.func43 (by kernel_rfl) rfl #[.int .i64 (rd l0 x9_1), .int .i64 0, .int .i64 (wrap64 (a1 - 1))] rfl (by (try simp only [List.map_toArray, List.map_cons, List.map_nil]); first | done | rfl | (simp only [List.length_drop, List.length_take]; rfl)) ?_; (with_reducible refine (impl_within.calls (rd l0 x9_1) 0 (wrap64 (a1 - 1)) true _ A6.out).mono ?_); rintro e w' ⟨rfl, ⟨nd, rfl⟩⟩; refine ⟨_, rfl, ?_⟩; have p194 : 0 ≤ ((ji9) : Int) := of_decide_eq_true (by first | (with_reducible assumption) | assumption); have q194 : (ji9) < (l0.length : Int) := of_decide_eq_true (by first | (with_reducible assumption) | assumption); obtain ⟨ad194, e194, hx194_0⟩ := Kd.at_int HR0.out (ji9) p194 q194; obtain rfl : ad192 = ad194 := (by injection e194); replace p194 := eq_true p194; replace q194 := eq_true q194))
                      go_ret
                      exact ⟨by first | rfl | (simp; done) | (simp only [← hji9] <;> (first | rfl | simp)) | (simp [*]; done), by repeat (first | exact Drawn0.refl _ | apply Drawn0.step)⟩
                    · rw [if_neg c12] at H
                      have c12b0 : decide ((rd l0 x9_1) ≤ (rd l0 (ji9))) = false := decide_eq_false c12
                      clear c12
                      have H' := Aside0.mk H
                      clear H
                      have p192 : 0 ≤ (x9_1 : Int) := of_decide_eq_true (by first | (with_reducible assumption) | assumption)
                      have q192 : x9_1 < (l0.length : Int) := of_decide_eq_true (by first | (with_reducible assumption) | assumption)
                      obtain ⟨ad192, e192, hx192_0⟩ := Kd.at_int HR0.out x9_1 p192 q192
                      cases e192
                      replace p192 := eq_true p192
                      replace q192 := eq_true q192
                      go_wp2_with (first | ((with_reducible refine gate_callee (f := 43) rfl ?_); refine goesL_ (some 17) rfl rfl Try.func43 (by kernel_rfl) rfl #[.int .i64 (rd l0 x9_1), .int .i64 0, .int .i64 (wrap64 (a1 - 1))] rfl (by (try simp only [List.map_toArray, List.map_cons, List.map_nil]); first | done | rfl | (simp only [List.length_drop, List.length_take]; rfl)) ?_; (with_reducible refine (impl_within.calls (rd l0 x9_1) 0 (wrap64 (a1 - 1)) true _ A6.out).mono ?_); rintro e w' ⟨rfl, ⟨nd, rfl⟩⟩; refine ⟨_, rfl, ?_⟩; have p194 : 0 ≤ ((ji9) : Int) := of_decide_eq_true (by first | (with_reducible assumption) | assumption); have q194 : (ji9) < (l0.length : Int) := of_decide_eq_true (by first | (with_reducible assumption) | assumption); obtain ⟨ad194, e194, hx194_0⟩ := Kd.at_int HR0.out (ji9) p194 q194; obtain rfl : ad192 = ad194 := (by injection e194); replace p194 := eq_true p194; replace q194 := eq_true q194))
                      go_roundg k1
                      case measure => have := HK1.out; omega
                      case rel => exact ⟨(wrap64 (x9_1 + 1)), (by first | rfl | (simp; done) | (simp [*]; done)), H', ⟨by have := HK1.out; omega⟩, by repeat (first | exact Drawn0.refl _ | apply Drawn0.step)⟩
                  · rw [if_neg c11] at H
                    exact absurd H (by simp)
                · rw [if_neg c10] at H
                  exact absurd H (by simp)
              · rw [if_neg c8] at H
                have c8b0 : decide (0 < x9_1) = false := decide_eq_false c8
                clear c8
                have H' := Aside0.mk H
                clear H
                have p192 : 0 ≤ (x9_1 : Int) := of_decide_eq_true (by first | (with_reducible assumption) | assumption)
                have q192 : x9_1 < (l0.length : Int) := of_decide_eq_true (by first | (with_reducible assumption) | assumption)
                obtain ⟨ad192, e192, hx192_0⟩ := Kd.at_int HR0.out x9_1 p192 q192
                cases e192
                replace p192 := eq_true p192
                replace q192 := eq_true q192
                go_wp2_with (first | ((with_reducible refine gate_callee (f := 43) rfl ?_); refine goesL_ (some 17) rfl rfl Try.func43 (by kernel_rfl) rfl #[.int .i64 (rd l0 x9_1), .int .i64 0, .int .i64 (wrap64 (a1 - 1))] rfl (by (try simp only [List.map_toArray, List.map_cons, List.map_nil]); first | done | rfl | (simp only [List.length_drop, List.length_take]; rfl)) ?_; (with_reducible refine (impl_within.calls (rd l0 x9_1) 0 (wrap64 (a1 - 1)) true _ A6.out).mono ?_); rintro e w' ⟨rfl, ⟨nd, rfl⟩⟩; refine ⟨_, rfl, ?_⟩))
                go_roundg k1
                case measure => have := HK1.out; omega
                case rel => exact ⟨(wrap64 (x9_1 + 1)), (by first | rfl | (simp; done) | (simp [*]; done)), H', ⟨by have := HK1.out; omega⟩, by repeat (first | exact Drawn0.refl _ | apply Drawn0.step)⟩
            · replace c7 := Bool.eq_false_iff.mpr c7
              subst c7
              have H1 : (some false) = some r := by rw [if_neg (show ¬ (false = true) by decide)] at H; exact H
              clear H
              have H := H1
              clear H1
              obtain rfl := Option.some.inj H
              have p192 : 0 ≤ (x9_1 : Int) := of_decide_eq_true (by first | (with_reducible assumption) | assumption)
              have q192 : x9_1 < (l0.length : Int) := of_decide_eq_true (by first | (with_reducible assumption) | assumption)
              obtain ⟨ad192, e192, hx192_0⟩ := Kd.at_int HR0.out x9_1 p192 q192
              cases e192
              replace p192 := eq_true p192
              replace q192 := eq_true q192
              go_wp2_with (first | ((with_reducible refine gate_callee (f := 43) rfl ?_); refine goesL_ (some 17) rfl rfl Try.func43 (by kernel_rfl) rfl #[.int .i64 (rd l0 x9_1), .int .i64 0, .int .i64 (wrap64 (a1 - 1))] rfl (by (try simp only [List.map_toArray, List.map_cons, List.map_nil]); first | done | rfl | (simp only [List.length_drop, List.length_take]; rfl)) ?_; (with_reducible refine (impl_within.calls (rd l0 x9_1) 0 (wrap64 (a1 - 1)) false _ A6.out).mono ?_); rintro e w' ⟨rfl, ⟨nd, rfl⟩⟩; refine ⟨_, rfl, ?_⟩))
              go_ret
              exact ⟨by first | rfl | (simp; done) | (simp [*]; done), by repeat (first | exact Drawn0.refl _ | apply Drawn0.step)⟩
          · rw [if_neg c5] at H
            exact absurd H (by simp)
        · rw [if_neg c4] at H
          exact absurd H (by simp)
      · rw [if_neg c3] at H
        have c3b0 : decide (x9_1 < (l0.length : Int)) = false := decide_eq_false c3
        clear c3
        obtain rfl := Option.some.inj H
        go_wp2
        go_ret
        exact ⟨by first | rfl | (simp; done) | (simp [*]; done), by repeat (first | exact Drawn0.refl _ | apply Drawn0.step)⟩

-- NOT PRINTED: function 45 (impl_GoodGraph_1)

end Go.Proofs.Ytbagmhcdhemopaa.Q
