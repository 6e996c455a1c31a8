-- WRITTEN BY A PROGRAM OF THIS SESSION
import Derived.Test.YtbagmhcdhemopaaQ0
import Derived.Test.YtbagmhcdhemopaaQ5
import Derived.Test.YtbagmhcdhemopaaQ6
namespace Go.Proofs.Ytbagmhcdhemopaa.Q
open Go.RowKit Go.Proofs.YtbagmhcdhemopaaW.PrintWords Go.Proofs.YtbagmhcdhemopaaW.PrintLast Go.Proofs.YtbagmhcdhemopaaW.PrintMore
attribute [local go_sem] max2_int min2_int max_two min_two max_three min_three max_four min_four   -- for this text's walks alone
set_option linter.unusedVariables false
set_option linter.unusedSimpArgs false

/-! ### impl_shrink: function 56 (by hand: stores into slices that came in) -/
mutual
def impl_shrink.l0 : Nat → List Bool → List (List Bool) → Int → Option (Bool × List Bool × List (List Bool))
  | 0, _, _, _ => none
  | k + 1, l, x, i => if i < (l.length : Int) then (if 0 ≤ i then (if rdOf false l i = true then (if i < (x.length : Int) then (if i < ((x.getD i.toNat []).length : Int) then (if rdOf false (x.getD i.toNat []) i = true then some (true, l, x.set i.toNat ((x.getD i.toNat []).set i.toNat false)) else (impl_shrink.l1 k l x i [] 0)) else none) else none) else (impl_shrink.l0 k l x (wrap64 (i + 1)))) else none) else some (false, l, x)
def impl_shrink.l1 : Nat → List Bool → List (List Bool) → Int → List Int → Int → Option (Bool × List Bool × List (List Bool))
  | 0, _, _, _, _, _ => none
  | k + 1, l, x, i, fr, p => if p < (x.length : Int) then (if 0 ≤ p then (if p < (l.length : Int) then (if rdOf false l p = true then (if i < ((x.getD p.toNat []).length : Int) then (if rdOf false (x.getD p.toNat []) i = true then (if fr.length < 17592186044416 then (impl_shrink.l1 k l x i (fr ++ [p]) (wrap64 (p + 1))) else none) else (impl_shrink.l1 k l x i fr (wrap64 (p + 1)))) else none) else (impl_shrink.l1 k l x i fr (wrap64 (p + 1)))) else none) else none) else (if i = 0 then (impl_shrink.l0 k l x (wrap64 (i + 1))) else (if (fr.length : Int) = 1 then (if 0 ≤ rd fr 0 then (if rd fr 0 < (x.length : Int) then (if i < ((x.getD (rd fr 0).toNat []).length : Int) then (impl_shrink.l2 k l (x.set (rd fr 0).toNat ((x.getD (rd fr 0).toNat []).set i.toNat false)) i (rd fr 0) 0) else none) else none) else none) else (impl_shrink.l0 k l x (wrap64 (i + 1)))))
def impl_shrink.l2 : Nat → List Bool → List (List Bool) → Int → Int → Int → Option (Bool × List Bool × List (List Bool))
  | 0, _, _, _, _, _ => none
  | k + 1, l, x, i, p, j => if j < ((x.getD i.toNat []).length : Int) then (if 0 ≤ j then (if j < ((x.getD p.toNat []).length : Int) then (impl_shrink.l2 k l (x.set p.toNat ((x.getD p.toNat []).set j.toNat (rdOf false (x.getD p.toNat []) j || rdOf false (x.getD i.toNat []) j))) i p (wrap64 (j + 1))) else none) else none) else some (true, l.set i.toNat false, x)
end
def impl_shrink.f (k : Nat) (l : List Bool) (x : List (List Bool)) : Option (Bool × List Bool × List (List Bool)) := impl_shrink.l0 k l x 0
theorem impl_shrink.mono_l : ∀ k, (∀ y0 y1 y2, LeO (impl_shrink.l0 k y0 y1 y2) (impl_shrink.l0 (k + 1) y0 y1 y2)) ∧ (∀ y0 y1 y2 y3 y4, LeO (impl_shrink.l1 k y0 y1 y2 y3 y4) (impl_shrink.l1 (k + 1) y0 y1 y2 y3 y4)) ∧ (∀ y0 y1 y2 y3 y4, LeO (impl_shrink.l2 k y0 y1 y2 y3 y4) (impl_shrink.l2 (k + 1) y0 y1 y2 y3 y4))
  | 0 => ⟨fun _ _ _ r h => by simp [impl_shrink.l0] at h, fun _ _ _ _ _ r h => by simp [impl_shrink.l1] at h, fun _ _ _ _ _ r h => by simp [impl_shrink.l2] at h⟩
  | k + 1 => by
    obtain ⟨ih0, ih1, ih2⟩ := impl_shrink.mono_l k
    refine ⟨?_, ?_, ?_⟩
    · intro y0 y1 y2
      unfold impl_shrink.l0
      repeat' first
      | (with_reducible exact ih0 _ _ _)
      | (with_reducible exact ih1 _ _ _ _ _)
      | (with_reducible exact ih2 _ _ _ _ _)
      | (with_reducible exact LeO.refl _)
      | (with_reducible exact LeO.none _)
      | (with_reducible refine LeO.ite ?_ ?_)
      | (with_reducible refine LeO.bind ?_ (fun _ => ?_))
    · intro y0 y1 y2 y3 y4
      unfold impl_shrink.l1
      repeat' first
      | (with_reducible exact ih0 _ _ _)
      | (with_reducible exact ih1 _ _ _ _ _)
      | (with_reducible exact ih2 _ _ _ _ _)
      | (with_reducible exact LeO.refl _)
      | (with_reducible exact LeO.none _)
      | (with_reducible refine LeO.ite ?_ ?_)
      | (with_reducible refine LeO.bind ?_ (fun _ => ?_))
    · intro y0 y1 y2 y3 y4
      unfold impl_shrink.l2
      repeat' first
      | (with_reducible exact ih0 _ _ _)
      | (with_reducible exact ih1 _ _ _ _ _)
      | (with_reducible exact ih2 _ _ _ _ _)
      | (with_reducible exact LeO.refl _)
      | (with_reducible exact LeO.none _)
      | (with_reducible refine LeO.ite ?_ ?_)
      | (with_reducible refine LeO.bind ?_ (fun _ => ?_))
theorem impl_shrink.mono : ∀ a0 a1 k, LeO (impl_shrink.f k a0 a1) (impl_shrink.f (k + 1) a0 a1) := by
  intro a0 a1 k
  obtain ⟨ih0, ih1, ih2⟩ := impl_shrink.mono_l k
  unfold impl_shrink.f
  repeat' first
      | (with_reducible exact ih0 _ _ _)
      | (with_reducible exact ih1 _ _ _ _ _)
      | (with_reducible exact ih2 _ _ _ _ _)
      | (with_reducible exact LeO.refl _)
      | (with_reducible exact LeO.none _)
      | (with_reducible refine LeO.ite ?_ ?_)
      | (with_reducible refine LeO.bind ?_ (fun _ => ?_))
/-- An empty literal, just laid. -/
theorem R_lit0 {α : Type} {d : Kd α} (h1 : d.sz = 1) (E : Nat) (W : World) : d.R E (W.alloc (.cells #[] E)) W.heap.size (fun _ => True) (.slice (some ⟨W.heap.size, 0, none⟩) 0 0) ([] : List α) := by
  refine ⟨fun _ _ => trivial, [], ?_, ⟨by simp, fun j p hj => by simp at hj⟩⟩
  have h2 := World.ownsRow_lit (base := W.heap.size) (e := E) (size := d.sz) W #[] 0 (Nat.le_refl _) (by simp [maxLen]) (by simp)
  simpa using h2
theorem cell_far {W : World} {p q : Addr} {u v : Value} (h : W.cell? p = some v) (hne : p.block ≠ q.block) : (W.setCell q u).cell? p = some v := by
  have := Below.heap_setCell W q u p.block hne
  unfold World.cell? at h ⊢
  rw [this]
  exact h
theorem len_set {α : Type} (y : List (List α)) (p i j : Nat) (v : α) : ((y.set p ((y.getD p []).set j v)).getD i []).length = (y.getD i []).length := by
  rw [List.getD_eq_getElem?_getD, List.getElem?_set]
  by_cases h : p = i
  · subst h
    by_cases h2 : p < y.length
    · rw [if_pos rfl, if_pos h2]
      simp
    · rw [if_pos rfl, if_neg h2, List.getD_eq_getElem?_getD, List.getElem?_eq_none (by omega)]
  · rw [if_neg h, List.getD_eq_getElem?_getD]
/-- A cell of an element's row is written. -/
theorem S_cell {α : Type} {enc : α → Value} {h1 : ∀ x, (enc x).oneCell' = true} {e E base nn cap g : Nat} {W : World} {P : Nat → Prop} {x : List (List α)} {i j : Int} (h : Kd.S (Kd.slice e (Kd.scalar enc h1)) E W base P (.slice (some ⟨g, 0, none⟩) nn cap) x) (z : α) (h0 : 0 ≤ i) (hn : i < nn) (j0 : 0 ≤ j) (hj : j < ((x.getD i.toNat []).length : Int)) :
    ∃ g2 c2, W.cell? ⟨g, i.toNat, none⟩ = some (.slice (some ⟨g2, 0, none⟩) (x.getD i.toNat []).length c2) ∧ W.cell? ⟨g2, j.toNat, none⟩ = some (enc (rdOf z (x.getD i.toNat []) j)) ∧ W.frozen? ⟨g2, j.toNat, none⟩ = false ∧ P g2 ∧ g2 ≠ g ∧ base ≤ g2 ∧
      ∀ u : α, Kd.S (Kd.slice e (Kd.scalar enc h1)) E (W.setCell ⟨g2, j.toNat, none⟩ (enc u)) base P (.slice (some ⟨g, 0, none⟩) nn cap) (x.set i.toNat ((x.getD i.toNat []).set j.toNat u)) := by
  obtain ⟨g', oki, ve, hg, hx, _, hR, hoki, _, _, hH⟩ := S_row h i h0 hn
  injection hg with hg
  injection hg with hg _ _
  subst hg
  obtain ⟨g2, c2, rfl, hb2, hl2, _⟩ := Kd.R_form hR (by omega)
  obtain ⟨hc, hf⟩ := Kd.R_celln z hR j j0 hj
  have ho2 : oki g2 := hR.1 g2 (by simp [Value.ownBlock])
  refine ⟨g2, c2, hx, hc, hf, (hoki g2 ho2).1, (hoki g2 ho2).2, hb2, fun u => ?_⟩
  obtain ⟨hp, hgr⟩ := Kd.R_putg hR j u
  have hk : Kept W (W.setCell ⟨g2, j.toNat, none⟩ (enc u)) oki := Kept.of_grown hgr (Kept.refl _ _) (fun k e => .inl (by injection e with e; exact e ▸ ho2))
  exact S_back rfl hH hk hp hR.1
/-- What holds while left and next are written. -/
structure ShI (w0 w W : World) (Pl Pn : Nat → Prop) (vl vn : Value) (l : List Bool) (x : List (List Bool)) : Prop where
  below : Below w0.heap.size w0 W
  left : Kd.bool.R 4 W w0.heap.size Pl vl l
  next : Kd.S (Kd.slice 4 Kd.bool) 63 W w0.heap.size Pn vn x
  kept : Kept w W (fun k => Pl k ∨ Pn k)
theorem ShI.start {w0 w W : World} {Pl Pn : Nat → Prop} {vl vn : Value} {l : List Bool} {x : List (List Bool)} (hB : Below w0.heap.size w0 w) (hl : Kd.bool.R 4 w w0.heap.size Pl vl l) (hx : Kd.S (Kd.slice 4 Kd.bool) 63 w w0.heap.size Pn vn x) (hb : Below w.heap.size w W) : ShI w0 w W Pl Pn vl vn l x :=
  ⟨below_weaken hB hB.size hb, Kd.R_below hl hb, Kd.S_below hx hb, Kept.of_below hb _⟩
theorem ShI.drew {w0 w W : World} {Pl Pn : Nat → Prop} {vl vn : Value} {l : List Bool} {x : List (List Bool)} (h : ShI w0 w W Pl Pn vl vn l x) : ShI w0 w W.drew Pl Pn vl vn l x :=
  ⟨h.below.drew, Kd.R_drew h.left, Kd.S_drew h.next, h.kept⟩
theorem ShI.cell {w0 w W : World} {Pl Pn : Nat → Prop} {vl : Value} {l : List Bool} {x : List (List Bool)} {g nn cap : Nat} {i j : Int} (h : ShI w0 w W Pl Pn vl (.slice (some ⟨g, 0, none⟩) nn cap) l x) (hs : ∀ k, Pl k → ¬ Pn k) (h0 : 0 ≤ i) (hn : i < nn) (j0 : 0 ≤ j) (hj : j < ((x.getD i.toNat []).length : Int)) :
    ∃ g2 c2, W.cell? ⟨g, i.toNat, none⟩ = some (.slice (some ⟨g2, 0, none⟩) (x.getD i.toNat []).length c2) ∧ W.cell? ⟨g2, j.toNat, none⟩ = some (.bool (rdOf false (x.getD i.toNat []) j)) ∧ W.frozen? ⟨g2, j.toNat, none⟩ = false ∧ g2 ≠ g ∧
      ∀ u : Bool, ShI w0 w (W.setCell ⟨g2, j.toNat, none⟩ (.bool u)) Pl Pn vl (.slice (some ⟨g, 0, none⟩) nn cap) l (x.set i.toNat ((x.getD i.toNat []).set j.toNat u)) := by
  obtain ⟨g2, c2, hx, hc, hf, hp, hne, hb2, hu⟩ := S_cell h.next false h0 hn j0 hj
  exact ⟨g2, c2, hx, hc, hf, hne, fun u => ⟨h.below.setCell hb2 _, Kd.R_far (p := ⟨g2, j.toNat, none⟩) h.left (fun k hk e => hs k hk (by have e2 : k = g2 := e; exact e2 ▸ hp)) _, hu u, h.kept.setCell (p := ⟨g2, j.toNat, none⟩) (.inl (.inr hp)) _⟩⟩
theorem ShI.mark {w0 w W : World} {Pl Pn : Nat → Prop} {vl vn : Value} {l : List Bool} {x : List (List Bool)} {i : Int} (h : ShI w0 w W Pl Pn vl vn l x) (hs : ∀ k, Pl k → ¬ Pn k) (h0 : 0 ≤ i) (hn : i < (l.length : Int)) :
    ∃ g2 c2, vl = .slice (some ⟨g2, 0, none⟩) l.length c2 ∧ W.cell? ⟨g2, i.toNat, none⟩ = some (.bool (rdOf false l i)) ∧ W.frozen? ⟨g2, i.toNat, none⟩ = false ∧
      ∀ u : Bool, ShI w0 w (W.setCell ⟨g2, i.toNat, none⟩ (.bool u)) Pl Pn vl vn (l.set i.toNat u) x := by
  obtain ⟨g2, c2, rfl, hb2, _, _⟩ := Kd.R_form h.left (by omega)
  have hp : Pl g2 := h.left.1 g2 (by simp [Value.ownBlock])
  obtain ⟨hc, hf⟩ := Kd.R_celln false h.left i h0 hn
  exact ⟨g2, c2, rfl, hc, hf, fun u => ⟨h.below.setCell hb2 _, (Kd.R_putg h.left i u).1, Kd.S_far (p := ⟨g2, i.toNat, none⟩) h.next (fun k hk e => by have e2 : k = g2 := e; exact hs g2 hp (e2 ▸ hk)) _, h.kept.setCell (p := ⟨g2, i.toNat, none⟩) (.inl (.inl hp)) _⟩⟩
set_option maxHeartbeats 8000000 in
set_option maxRecDepth 100000 in
theorem impl_shrink.calls (k : Nat) (Pl Pn : Nat → Prop) (vl vn : Value) (l : List Bool) (x : List (List Bool)) (r1 : Bool) (r2 : List Bool) (r3 : List (List Bool)) (w0 w : World) (hB : Below w0.heap.size w0 w) (hl : Kd.bool.R 4 w w0.heap.size Pl vl l) (hx : Kd.S (Kd.slice 4 Kd.bool) 63 w w0.heap.size Pn vn x) (hs : ∀ k, Pl k → ¬ Pn k) (h : impl_shrink.f k l x = some (r1, r2, r3)) :
    Calls Try.prog 56 #[vl, vn] w fun e w' => e = .returned (.bool r1) ∧ ShI w0 w w' Pl Pn vl vn r2 r3 := by
  obtain ⟨Al, cl, rfl⟩ := Kd.R_slice hl
  obtain ⟨An, cn, rfl⟩ := Kd.S_slice hx
  have HS := Aside0.mk hs
  have HL := Aside0.mk hl
  have HX := Aside0.mk hx
  have HB0 := Aside0.mk hB
  have H' := Aside0.mk h
  have HB := Aside0.mk (Below.refl w.heap.size w)
  clear hs hl hx hB h
  unfold impl_shrink.f at H'
  go_enter Try.func56, Try.ntmps56
  go_wp2
  go_loopg [14] k (fun kq v14 w' => ∃ (i : Int), v14 = .int .i64 i ∧ Aside0 (impl_shrink.l0 kq l x i = some (r1, r2, r3)) ∧ Aside0 (kq ≤ k) ∧ Aside0 (Below w.heap.size w w'))
  case atStart => exact ⟨0, rfl, H', ⟨Nat.le_refl _⟩, HB⟩
  case round =>
    clear H' HB
    obtain ⟨i, rfl, HA, HK1, HB⟩ := hrel
    cases gk with
    | zero => exact absurd HA.out (by simp [impl_shrink.l0])
    | succ k1 =>
      have H := HA.out
      clear HA
      simp only [impl_shrink.l0] at H
      by_cases c1 : i < (l.length : Int)
      · rw [if_pos c1] at H
        by_cases c2 : 0 ≤ i
        · rw [if_pos c2] at H
          obtain ⟨a1, e1, hy1⟩ := Kd.at_bool (Kd.C_below (Kd.R_reads' HL.out).2.2 HB.out) i c2 c1
          cases e1
          have q1 : decide (i < (l.length : Int)) = true := decide_eq_true c1
          have q2 : decide (0 ≤ i) = true := decide_eq_true c2
          have p1 := eq_true c1
          have p2 := eq_true c2
          by_cases c3 : rdOf false l i = true
          · rw [if_pos c3] at H
            rw [c3] at hy1
            by_cases c4 : i < (x.length : Int)
            · rw [if_pos c4] at H
              have p4 := eq_true c4
              by_cases c5 : i < ((x.getD i.toNat []).length : Int)
              · rw [if_pos c5] at H
                have HI := ShI.start HB0.out HL.out HX.out HB.out
                obtain ⟨gn, _, _, e2, _⟩ := S_row HX.out i c2 c4
                cases e2
                obtain ⟨g2, cg, hy2, hy3, hf3, hne, hu⟩ := HI.cell HS.out c2 c4 c2 c5
                obtain ⟨m2, hm2⟩ : ∃ m2, m2 = (x.getD i.toNat []).length := ⟨_, rfl⟩
                rw [← hm2] at hy2 c5
                have p5 := eq_true c5
                by_cases c6 : rdOf false (x.getD i.toNat []) i = true
                · rw [if_pos c6] at H
                  rw [c6] at hy3
                  simp only [Option.some.injEq, Prod.mk.injEq] at H
                  obtain ⟨rfl, rfl, rfl⟩ := H
                  have HU := Aside0.mk (hu false)
                  clear HI hu c1 c2 c3 c4 c5 c6 hne hm2
                  go_wp2
                  go_ret
                  exact ⟨rfl, HU.out⟩
                · rw [if_neg c6] at H
                  have c6b : rdOf false (x.getD i.toNat []) i = false := by simpa using c6
                  rw [c6b] at hy3
                  have H' := Aside0.mk H
                  have HF := Aside0.mk (Kd.R_lower (R_lit0 (d := Kd.int .i64) rfl 3 wr) HB.out.size)
                  have HB2 := Aside0.mk (below_alloc HB.out (.cells #[] 3))
                  clear HI hu c1 c2 c3 c4 c5 c6 c6b hne hm2 H
                  go_wp2
                  clear hy1 hy2 hy3 hf3 HB
                  go_loopg [7, 37] k1 (fun kq v7 v37 w' => ∃ (fr : List Int) (p : Int), v37 = .int .i64 p ∧ Aside0 (impl_shrink.l1 kq l x i fr p = some (r1, r2, r3)) ∧ Aside0 (kq ≤ k1) ∧ Aside0 (Below w.heap.size w w') ∧ Aside0 ((Kd.int .i64).R 3 w' w.heap.size (fun _ => True) v7 fr))
                  case atStart => exact ⟨[], 0, rfl, H', ⟨Nat.le_refl _⟩, HB2, HF⟩
                  case round =>
                    clear H' HB2 HF
                    obtain ⟨fr, p, rfl, HA, HK2, HB, HF⟩ := hrel
                    obtain ⟨Af, cf, rfl⟩ := Kd.R_slice HF.out
                    cases gk with
                    | zero => exact absurd HA.out (by simp [impl_shrink.l1])
                    | succ k2 =>
                      have H := HA.out
                      clear HA
                      simp only [impl_shrink.l1] at H
                      by_cases d1 : p < (x.length : Int)
                      · rw [if_pos d1] at H
                        by_cases d2 : 0 ≤ p
                        · rw [if_pos d2] at H
                          by_cases d3 : p < (l.length : Int)
                          · rw [if_pos d3] at H
                            obtain ⟨a3, e3, hz1⟩ := Kd.at_bool (Kd.C_below (Kd.R_reads' HL.out).2.2 HB.out) p d2 d3
                            injection e3 with e3
                            subst e3
                            have u1 : decide (p < (x.length : Int)) = true := decide_eq_true d1
                            have u2 : decide (0 ≤ p) = true := decide_eq_true d2
                            have v1 := eq_true d1
                            have v2 := eq_true d2
                            have v3 := eq_true d3
                            by_cases d4 : rdOf false l p = true
                            · rw [if_pos d4] at H
                              rw [d4] at hz1
                              by_cases d5 : i < ((x.getD p.toNat []).length : Int)
                              · rw [if_pos d5] at H
                                have HI := ShI.start HB0.out HL.out HX.out HB.out
                                obtain ⟨g2', c2', hz2, hz3, _, _, _⟩ := HI.cell HS.out d2 d1 (of_decide_eq_true q2) d5
                                obtain ⟨m3, hm3⟩ : ∃ m3, m3 = (x.getD p.toNat []).length := ⟨_, rfl⟩
                                rw [← hm3] at hz2 d5
                                have v5 := eq_true d5
                                by_cases d6 : rdOf false (x.getD p.toNat []) i = true
                                · rw [if_pos d6] at H
                                  rw [d6] at hz3
                                  by_cases d7 : fr.length < 17592186044416
                                  · rw [if_pos d7] at H
                                    have H' := Aside0.mk H
                                    have HLM := Aside0.mk d7
                                    clear HI H d1 d2 d3 d4 d5 d6 d7 hm3
                                    go_wp2_with (first | ((with_reducible refine gate_builtin (b := .append) (xs := #[.tmp 53, .tmp 55]) rfl ?_); at_builtin; refine Kd.R_append (Kd.int .i64) (w0 := w) w.heap.size rfl (.tmp 53) (.tmp 55) 31 3 (.int .i64 0) 8 rfl Try.underlying31 (by kernel_rfl) rfl (by decide) (by omega) (.slice Af fr.length cf) fr p [.int .i64 p] (fun _ => True) (fun _ => False) rfl rfl ?aP (fun _ hk => hk.elim) (fun _ _ => trivial) ?aO ?aB ?aS ?aL ?_; (case aP => exact rfl); (case aB => exact HB.out); (case aO => exact HF.out); (case aS => exact HB.out.size); (case aL => have := HLM.out; omega); intro v56 w7 ho hb hgr hat; have HF2 := Aside0.mk ho; have HB2 := Aside0.mk hb; clear ho hb hgr hat HF HB hz1 hz2 hz3))
                                    go_roundg k2
                                    case measure => have := HK2.out; omega
                                    case rel => exact ⟨_, _, rfl, H', ⟨by have := HK2.out; omega⟩, HB2, HF2⟩
                                  · rw [if_neg d7] at H; exact absurd H (by simp)
                                · rw [if_neg d6] at H
                                  have d6b : rdOf false (x.getD p.toNat []) i = false := by simpa using d6
                                  rw [d6b] at hz3
                                  have H' := Aside0.mk H
                                  clear HI H d1 d2 d3 d4 d5 d6 d6b hm3
                                  go_wp2
                                  go_roundg k2
                                  case measure => have := HK2.out; omega
                                  case rel => exact ⟨fr, _, rfl, H', ⟨by have := HK2.out; omega⟩, HB, HF⟩
                              · rw [if_neg d5] at H; exact absurd H (by simp)
                            · rw [if_neg d4] at H
                              have d4b : rdOf false l p = false := by simpa using d4
                              rw [d4b] at hz1
                              have H' := Aside0.mk H
                              clear H d1 d2 d3 d4 d4b
                              go_wp2
                              go_roundg k2
                              case measure => have := HK2.out; omega
                              case rel => exact ⟨fr, _, rfl, H', ⟨by have := HK2.out; omega⟩, HB, HF⟩
                          · rw [if_neg d3] at H; exact absurd H (by simp)
                        · rw [if_neg d2] at H; exact absurd H (by simp)
                      · rw [if_neg d1] at H
                        have u1 : decide (p < (x.length : Int)) = false := decide_eq_false d1
                        clear d1
                        by_cases d2 : i = 0
                        · rw [if_pos d2] at H
                          have H' := Aside0.mk H
                          have v2 : (i == 0) = true := beq_iff_eq.mpr d2
                          clear H d2
                          go_wp2
                          go_roundg k2
                          case measure => have := HK2.out; have := HK1.out; omega
                          case rel => exact ⟨_, rfl, H', ⟨by have := HK2.out; have := HK1.out; omega⟩, HB⟩
                        · rw [if_neg d2] at H
                          have v2 : (i == 0) = false := beq_eq_false_iff_ne.mpr d2
                          clear d2
                          by_cases d3 : (fr.length : Int) = 1
                          · rw [if_pos d3] at H
                            have v3 : ((fr.length : Int) != 1) = false := bne_eq_false_iff_eq.mpr d3
                            obtain ⟨pp, hpp⟩ : ∃ pp, pp = rd fr 0 := ⟨_, rfl⟩
                            rw [← hpp] at H
                            by_cases d4 : 0 ≤ pp
                            · rw [if_pos d4] at H
                              by_cases d5 : pp < (x.length : Int)
                              · rw [if_pos d5] at H
                                by_cases d6 : i < ((x.getD pp.toNat []).length : Int)
                                · rw [if_pos d6] at H
                                  obtain ⟨gf, _, ef, _⟩ := Kd.R_form HF.out (by omega)
                                  injection ef with ef _ ef3
                                  subst ef
                                  have hz0 := (Kd.R_celln (0 : Int) HF.out 0 (by decide) (by omega)).1
                                  rw [show rdOf (0 : Int) fr 0 = pp from hpp.symm, show (0 : Int).toNat = 0 from rfl] at hz0
                                  have HI := ShI.start HB0.out HL.out HX.out HB.out
                                  obtain ⟨g3, c3, hz2, hz3, hf3, hne3, hu3⟩ := HI.cell HS.out d4 d5 (of_decide_eq_true q2) d6
                                  obtain ⟨m3, hm3⟩ : ∃ m3, m3 = (x.getD pp.toNat []).length := ⟨_, rfl⟩
                                  rw [← hm3] at hz2 d6
                                  obtain ⟨y, hy⟩ : ∃ y, y = x.set pp.toNat ((x.getD pp.toNat []).set i.toNat false) := ⟨_, rfl⟩
                                  have hu4 := hu3 false
                                  rw [← hy] at hu4 H
                                  have HU := Aside0.mk hu4
                                  have hyl : y.length = x.length := by rw [hy, List.length_set]
                                  obtain ⟨_, A2, c2, e2, hw2, _, _⟩ := at_row (Kd.S_reads' hu4.next).2.2 i (of_decide_eq_true q2) (by rw [hyl]; exact of_eq_true p4)
                                  cases e2
                                  obtain ⟨n2, hn2⟩ : ∃ n2, n2 = (y.getD i.toNat []).length := ⟨_, rfl⟩
                                  rw [← hn2, add_plain] at hw2
                                  have HN2 := Aside0.mk hn2.symm
                                  have HW2 := Aside0.mk hw2
                                  have H' := Aside0.mk H
                                  have w1 : (0 < fr.length) = True := eq_true (by omega)
                                  have w4 := eq_true d4
                                  have w5 := eq_true d5
                                  have w6 := eq_true d6
                                  clear HI hu3 hu4 hy hyl hn2 hpp hm3 hne3 H d3 d4 d5 d6 HF
                                  go_wp2
                                  clear hz0 hz2 hz3 hf3 hw2 HB
                                  go_loopg [79] k2 (fun kq v79 w' => ∃ (y : List (List Bool)) (j : Int), v79 = .int .i64 j ∧ Aside0 (impl_shrink.l2 kq l y i pp j = some (r1, r2, r3)) ∧ Aside0 (kq ≤ k2) ∧ Aside0 (ShI w0 w w' Pl Pn (.slice (some a1) l.length cl) (.slice (some ⟨gn, 0, none⟩) x.length cn) l y) ∧ Aside0 (w'.cell? ⟨gn, i.toNat, none⟩ = some (.slice A2 n2 c2)) ∧ Aside0 ((y.getD i.toNat []).length = n2))
                                  case atStart => exact ⟨y, 0, rfl, H', ⟨Nat.le_refl _⟩, HU, HW2, HN2⟩
                                  case round =>
                                    clear H' HU HW2 HN2
                                    obtain ⟨y, j, rfl, HA, HK3, HI, HW, HN⟩ := hrel
                                    cases gk with
                                    | zero => exact absurd HA.out (by simp [impl_shrink.l2])
                                    | succ k3 =>
                                      have H := HA.out
                                      clear HA
                                      simp only [impl_shrink.l2] at H
                                      rw [HN.out] at H
                                      have hyl := (Kd.S_reads' HI.out.next).1
                                      by_cases b1 : j < (n2 : Int)
                                      · rw [if_pos b1] at H
                                        by_cases b2 : 0 ≤ j
                                        · rw [if_pos b2] at H
                                          by_cases b3 : j < ((y.getD pp.toNat []).length : Int)
                                          · rw [if_pos b3] at H
                                            obtain ⟨_, A3, c4, e3, hw3, _, hr3⟩ := at_row (Kd.S_reads' HI.out.next).2.2 i (of_decide_eq_true q2) (by rw [← hyl]; exact of_eq_true p4)
                                            cases e3
                                            rw [add_plain, HW.out] at hw3
                                            injection hw3 with hw3
                                            injection hw3 with hw3 hqa hqb
                                            subst hw3
                                            clear hqa hqb
                                            rw [HN.out] at hr3
                                            obtain ⟨a4, e4, hz4⟩ := Kd.at_bool hr3 j b2 b1
                                            cases e4
                                            obtain ⟨g5, c5, hz5, hz6, hf6, hne5, hu5⟩ := HI.out.cell HS.out (of_eq_true w4) (of_eq_true w5) b2 b3
                                            obtain ⟨m5, hm5⟩ : ∃ m5, m5 = (y.getD pp.toNat []).length := ⟨_, rfl⟩
                                            rw [← hm5] at hz5 b3
                                            have hu6 := hu5 (rdOf false (y.getD pp.toNat []) j || rdOf false (y.getD i.toNat []) j)
                                            have HU := Aside0.mk hu6
                                            have HW2 := Aside0.mk (cell_far (q := ⟨g5, j.toNat, none⟩) (u := .bool (rdOf false (y.getD pp.toNat []) j || rdOf false (y.getD i.toNat []) j)) HW.out (fun e => hne5 e.symm))
                                            have HN2 := Aside0.mk (show ((y.set pp.toNat ((y.getD pp.toNat []).set j.toNat (rdOf false (y.getD pp.toNat []) j || rdOf false (y.getD i.toNat []) j))).getD i.toNat []).length = n2 from (len_set _ _ _ _ _).trans HN.out)
                                            have H' := Aside0.mk H
                                            have s1 : decide (j < (n2 : Int)) = true := decide_eq_true b1
                                            have s2 : decide (0 ≤ j) = true := decide_eq_true b2
                                            have t1 := eq_true b1
                                            have t2 := eq_true b2
                                            have t3 := eq_true b3
                                            clear H hu5 hu6 HI HW HN hyl hr3 hm5 hne5 b1 b2 b3
                                            cases hab : rdOf false (y.getD pp.toNat []) j with
                                            | true =>
                                              rw [hab] at HU HW2 HN2 H' hz6
                                              rw [Bool.true_or] at HU HW2 HN2 H'
                                              clear hab
                                              go_wp2
                                              go_still_tail 16, (by kernel_rfl)
                                              change wpList _ _ _ _ _ (World.drew wr)
                                              go_wp2
                                              go_roundg k3
                                              case measure => have := HK3.out; omega
                                              case rel => exact ⟨_, _, rfl, H', ⟨by have := HK3.out; omega⟩, ⟨HU.out.drew⟩, ⟨HW2.out⟩, HN2⟩
                                            | false =>
                                              rw [hab] at HU HW2 HN2 H' hz6
                                              rw [Bool.false_or] at HU HW2 HN2 H'
                                              clear hab
                                              generalize rdOf false (y.getD i.toNat []) j = u at HU HW2 HN2 H' hz4
                                              go_wp2
                                              go_still_tail 16, (by kernel_rfl)
                                              change wpList _ _ _ _ _ (World.drew wr)
                                              go_wp2
                                              go_roundg k3
                                              case measure => have := HK3.out; omega
                                              case rel => exact ⟨_, _, rfl, H', ⟨by have := HK3.out; omega⟩, ⟨HU.out.drew⟩, ⟨HW2.out⟩, HN2⟩
                                          · rw [if_neg b3] at H; exact absurd H (by simp)
                                        · rw [if_neg b2] at H; exact absurd H (by simp)
                                      · rw [if_neg b1] at H
                                        simp only [Option.some.injEq, Prod.mk.injEq] at H
                                        obtain ⟨rfl, rfl, rfl⟩ := H
                                        obtain ⟨g5, c5, e5, hz5, hf5, hu5⟩ := HI.out.mark HS.out (of_decide_eq_true q2) (of_decide_eq_true q1)
                                        cases e5
                                        have HU := Aside0.mk (hu5 false)
                                        have s1 : decide (j < (n2 : Int)) = false := decide_eq_false b1
                                        clear b1 hyl hu5
                                        go_wp2
                                        go_ret
                                        exact ⟨rfl, HU.out⟩
                                · rw [if_neg d6] at H; exact absurd H (by simp)
                              · rw [if_neg d5] at H; exact absurd H (by simp)
                            · rw [if_neg d4] at H; exact absurd H (by simp)
                          · rw [if_neg d3] at H
                            have H' := Aside0.mk H
                            have v3 : ((fr.length : Int) != 1) = true := bne_iff_ne.mpr d3
                            clear H d3
                            go_wp2
                            go_roundg k2
                            case measure => have := HK2.out; have := HK1.out; omega
                            case rel => exact ⟨_, rfl, H', ⟨by have := HK2.out; have := HK1.out; omega⟩, HB⟩
              · rw [if_neg c5] at H; exact absurd H (by simp)
            · rw [if_neg c4] at H; exact absurd H (by simp)
          · rw [if_neg c3] at H
            have c3b : rdOf false l i = false := by simpa using c3
            rw [c3b] at hy1
            have H' := Aside0.mk H
            clear H c1 c2 c3 c3b
            go_wp2
            go_roundg k1
            case measure => have := HK1.out; omega
            case rel => exact ⟨_, rfl, H', ⟨by have := HK1.out; omega⟩, HB⟩
        · rw [if_neg c2] at H; exact absurd H (by simp)
      · rw [if_neg c1] at H
        have q1 : decide (i < (l.length : Int)) = false := decide_eq_false c1
        simp only [Option.some.injEq, Prod.mk.injEq] at H
        obtain ⟨rfl, rfl, rfl⟩ := H
        have HI := Aside0.mk (ShI.start HB0.out HL.out HX.out HB.out)
        clear c1
        go_wp2
        go_ret
        exact ⟨rfl, HI.out⟩

/-! ### impl_LimitOf: function 30 (by hand: rows that a callee writes) -/
mutual
def impl_LimitOf.l0 : Nat → List (List Int) → List Bool → List (List Bool) → Int → Option (Int × Bool)
  | 0, _, _, _, _ => none
  | k + 1, g, a, x, i => if i < (g.length : Int) then (if 0 ≤ i then (impl_LimitOf.l1 k g a (x.set i.toNat (List.replicate g.length false)) i (g.getD i.toNat []) 0) else none) else impl_LimitOf.l2 k a x
def impl_LimitOf.l1 : Nat → List (List Int) → List Bool → List (List Bool) → Int → List Int → Int → Option (Int × Bool)
  | 0, _, _, _, _, _, _ => none
  | k + 1, g, a, x, i, row, j => if j < (row.length : Int) then (if 0 ≤ j then (if 0 ≤ rd row j then (if rd row j < ((x.getD i.toNat []).length : Int) then (if i < (a.length : Int) then (impl_LimitOf.l1 k g a (x.set i.toNat ((x.getD i.toNat []).set (rd row j).toNat (rdOf false a i))) i row (wrap64 (j + 1))) else none) else none) else none) else none) else impl_LimitOf.l0 k g a x (wrap64 (i + 1))
def impl_LimitOf.l2 : Nat → List Bool → List (List Bool) → Option (Int × Bool)
  | 0, _, _ => none
  | k + 1, a, x => (impl_shrink.f k a x).bind fun q => (if q.1 = true then (impl_LimitOf.l2 k q.2.1 q.2.2) else ((impl_listOf.f k q.2.1).bind fun ls => (some ((ls.length : Int), true))))
end
def impl_LimitOf.f (k : Nat) (g : List (List Int)) : Option (Int × Bool) := (impl_GoodGraph.f k g).bind fun b => (if b = true then (if g.length ≤ 11728124029610 then ((impl_reach.f k g 0 []).bind fun a => (impl_LimitOf.l0 k g a (List.replicate g.length []) 0)) else none) else (some (0, false)))
theorem impl_LimitOf.mono_l : ∀ k, (∀ y0 y1 y2 y3, LeO (impl_LimitOf.l0 k y0 y1 y2 y3) (impl_LimitOf.l0 (k + 1) y0 y1 y2 y3)) ∧ (∀ y0 y1 y2 y3 y4 y5, LeO (impl_LimitOf.l1 k y0 y1 y2 y3 y4 y5) (impl_LimitOf.l1 (k + 1) y0 y1 y2 y3 y4 y5)) ∧ (∀ y0 y1, LeO (impl_LimitOf.l2 k y0 y1) (impl_LimitOf.l2 (k + 1) y0 y1))
  | 0 => ⟨fun _ _ _ _ r h => by simp [impl_LimitOf.l0] at h, fun _ _ _ _ _ _ r h => by simp [impl_LimitOf.l1] at h, fun _ _ r h => by simp [impl_LimitOf.l2] at h⟩
  | k + 1 => by
    obtain ⟨ih0, ih1, ih2⟩ := impl_LimitOf.mono_l k
    refine ⟨?_, ?_, ?_⟩
    · intro y0 y1 y2 y3
      unfold impl_LimitOf.l0
      repeat' first
      | (with_reducible exact ih0 _ _ _ _)
      | (with_reducible exact ih1 _ _ _ _ _ _)
      | (with_reducible exact ih2 _ _)
      | (with_reducible exact impl_GoodGraph.mono _ _)
      | (with_reducible exact impl_reach.mono _ _ _ _)
      | (with_reducible exact impl_shrink.mono _ _ _)
      | (with_reducible exact impl_listOf.mono _ _)
      | (with_reducible exact LeO.refl _)
      | (with_reducible exact LeO.none _)
      | (with_reducible refine LeO.ite ?_ ?_)
      | (with_reducible refine LeO.bind ?_ (fun _ => ?_))
    · intro y0 y1 y2 y3 y4 y5
      unfold impl_LimitOf.l1
      repeat' first
      | (with_reducible exact ih0 _ _ _ _)
      | (with_reducible exact ih1 _ _ _ _ _ _)
      | (with_reducible exact ih2 _ _)
      | (with_reducible exact impl_GoodGraph.mono _ _)
      | (with_reducible exact impl_reach.mono _ _ _ _)
      | (with_reducible exact impl_shrink.mono _ _ _)
      | (with_reducible exact impl_listOf.mono _ _)
      | (with_reducible exact LeO.refl _)
      | (with_reducible exact LeO.none _)
      | (with_reducible refine LeO.ite ?_ ?_)
      | (with_reducible refine LeO.bind ?_ (fun _ => ?_))
    · intro y0 y1
      unfold impl_LimitOf.l2
      repeat' first
      | (with_reducible exact ih0 _ _ _ _)
      | (with_reducible exact ih1 _ _ _ _ _ _)
      | (with_reducible exact ih2 _ _)
      | (with_reducible exact impl_GoodGraph.mono _ _)
      | (with_reducible exact impl_reach.mono _ _ _ _)
      | (with_reducible exact impl_shrink.mono _ _ _)
      | (with_reducible exact impl_listOf.mono _ _)
      | (with_reducible exact LeO.refl _)
      | (with_reducible exact LeO.none _)
      | (with_reducible refine LeO.ite ?_ ?_)
      | (with_reducible refine LeO.bind ?_ (fun _ => ?_))
theorem impl_LimitOf.mono : ∀ a0 k, LeO (impl_LimitOf.f k a0) (impl_LimitOf.f (k + 1) a0) := by
  intro a0 k
  obtain ⟨ih0, ih1, ih2⟩ := impl_LimitOf.mono_l k
  unfold impl_LimitOf.f
  repeat' first
      | (with_reducible exact ih0 _ _ _ _)
      | (with_reducible exact ih1 _ _ _ _ _ _)
      | (with_reducible exact ih2 _ _)
      | (with_reducible exact impl_GoodGraph.mono _ _)
      | (with_reducible exact impl_reach.mono _ _ _ _)
      | (with_reducible exact impl_shrink.mono _ _ _)
      | (with_reducible exact impl_listOf.mono _ _)
      | (with_reducible exact LeO.refl _)
      | (with_reducible exact LeO.none _)
      | (with_reducible refine LeO.ite ?_ ?_)
      | (with_reducible refine LeO.bind ?_ (fun _ => ?_))
section
variable {w W w3 : World} {vr : Value} {rs : List Bool} {m : Nat}
theorem lim_first (hw : Below w.heap.size w W) (hm : m ≤ 281474976710656) (hb : Below (W.alloc (.cells (madeCells #[.slice none 0 0] m) 63)).heap.size (W.alloc (.cells (madeCells #[.slice none 0 0] m) 63)) w3) (ho : Kd.bool.R 4 w3 (W.alloc (.cells (madeCells #[.slice none 0 0] m) 63)).heap.size (fun _ => True) vr rs) :
    RInv Kd.bool 4 63 Kd.bool 4 w w3 (.slice (some ⟨W.heap.size, 0, none⟩) m m) vr (List.replicate m []) rs (fun k => k < W.heap.size ∨ some k = vr.ownBlock) := by
  have hs := hw.size
  have h1 := RInv.first (d := Kd.bool) (e := 4) rfl hw hm hb ho
  refine ⟨h1.below, ?_, h1.row, fun _ h => .inr h, fun k h => h.elim (fun h => by have := hb.size; simp at this; omega) (h1.flt k)⟩
  exact Kd.S_mono (Kd.S_lower (Kd.S_below (Kd.S_bound (S_made Kd.bool 4 63 W m hm)) hb) hs) (fun k hk h => h.elim (fun h => by have := hk.2.1; omega) (fun h => by have := hk.2.2.1; have := Kd.R_base ho k h.symm; omega))
theorem lim_second (hw : Below w.heap.size w W) (hm : m ≤ 281474976710656) (hb : Below W.heap.size W w3) (ho : Kd.bool.R 4 w3 W.heap.size (fun _ => True) vr rs) :
    RInv Kd.bool 4 63 Kd.bool 4 w (w3.alloc (.cells (madeCells #[.slice none 0 0] m) 63)) (.slice (some ⟨w3.heap.size, 0, none⟩) m m) vr (List.replicate m []) rs (fun k => k < W.heap.size ∨ some k = vr.ownBlock) := by
  have hs := hw.size
  have hs3 := hb.size
  have h1 := RInv.second (d := Kd.bool) (e := 4) (E := 63) rfl hw hm hb ho
  refine ⟨h1.below, ?_, h1.row, fun _ h => .inr h, fun k h => h.elim (fun h => by simp; omega) (h1.flt k)⟩
  exact Kd.S_mono (Kd.S_lower (Kd.S_bound (S_made Kd.bool 4 63 w3 m hm)) (Nat.le_trans hs hs3)) (fun k hk h => h.elim (fun h => by have := hk.2.1; omega) (fun h => by have := hk.2.1; have := Kd.R_lt ho k h.symm; omega))
end
set_option maxHeartbeats 8000000 in
set_option maxRecDepth 100000 in
theorem impl_LimitOf.calls (k : Nat) (A0_0 : Option Addr) (c0_0 : Nat) (l0_0 : List (List Int)) (r1 : Int) (r2 : Bool) (w : World) (hr0_0 : Kd.C (Kd.slice 3 (Kd.int .i64)) w A0_0 l0_0.length l0_0) (hc0_0 : l0_0.length ≤ c0_0) (h : impl_LimitOf.f k l0_0 = some (r1, r2)) :
    Calls Try.prog 30 #[.agg #[.slice A0_0 l0_0.length c0_0]] w fun e w' => e = .returned (.tuple #[.int .i64 r1, .bool r2]) ∧ Below w.heap.size w w' := by
  have hu27 := Try.underlying27
  have HR0 := Aside0.mk hr0_0
  have HC0 := Aside0.mk hc0_0
  clear hr0_0 hc0_0
  unfold impl_LimitOf.f at h
  obtain ⟨b, A1, H⟩ := Option.bind_eq_some_iff.mp h
  have A := Aside0.mk A1
  have HBX := Aside0.mk (heap_alloc_new w (.cells #[.slice A0_0 l0_0.length c0_0] 27))
  have HB := Aside0.mk (below_alloc (Below.refl w.heap.size w) (.cells #[.slice A0_0 l0_0.length c0_0] 27))
  clear h A1
  cases b with
  | false =>
    rw [if_neg (by decide)] at H
    simp only [Option.some.injEq, Prod.mk.injEq] at H
    obtain ⟨rfl, rfl⟩ := H
    go_enter Try.func30, Try.ntmps30
    go_wp2_with (first | (go_at_call 14; (refine (impl_GoodGraph.calls k _ _ l0_0 false _ (Kd.C_below HR0.out HB.out) HC0.out A.out).mono ?_); rintro e w2 ⟨rfl, hb⟩; have HB2 := Aside0.mk (below_step HB.out hb); clear hb))
    go_ret2
    exact ⟨rfl, HB2.out⟩
  | true =>
    rw [if_pos rfl] at H
    by_cases c1 : l0_0.length ≤ 11728124029610
    rotate_left
    · rw [if_neg c1] at H; exact absurd H (by simp)
    rw [if_pos c1] at H
    obtain ⟨a, B1, H⟩ := Option.bind_eq_some_iff.mp H
    have B := Aside0.mk B1
    have H' := Aside0.mk H
    have HM := Aside0.mk c1
    clear B1 H c1
    go_enter Try.func30, Try.ntmps30
    go_upto_region 3 with (first | (go_at_call 14; (refine (impl_GoodGraph.calls k _ _ l0_0 true _ (Kd.C_below HR0.out HB.out) HC0.out A.out).mono ?_); rintro e w2 ⟨rfl, hb⟩; have HB2 := Aside0.mk (below_step HB.out hb); have HBX2 := Aside0.mk (blk_below HBX.out hb); clear hb))
    have hczA : (w2.alloc (.cells (madeCells #[.slice none 0 0] l0_0.length) 63)).cell? ⟨w.heap.size, 0, none⟩ = some (.slice A0_0 l0_0.length c0_0) := (blk_cell (blk_alloc HBX2.out _) 0).trans rfl
    have hcz : w2.cell? ⟨w.heap.size, 0, none⟩ = some (.slice A0_0 l0_0.length c0_0) := (blk_cell HBX2.out 0).trans rfl
    have hfz := blk_frozen HBX2.out 0
    have hmk := fun W => run_make_row' (P := Try.prog) 61 63 (.slice none 0 0) 24 Try.underlying61 (by kernel_rfl) rfl .i64 .i64 l0_0.length (by have := HM.out; omega) (by have := HM.out; omega) W
    go_cut [4, 5] (fun v4 v5 wc => ∃ (go : Nat) (F : Nat → Prop), v5 = .slice (some ⟨go, 0, none⟩) l0_0.length l0_0.length ∧ Aside0 (RInv Kd.bool 4 63 Kd.bool 4 w wc v5 v4 (List.replicate l0_0.length []) a F) ∧ Aside0 (wc.heap[w.heap.size]? = some (.cells #[.slice A0_0 l0_0.length c0_0] 27 (0, 0))) ∧ Aside0 (F w.heap.size))
    case first =>
      go_region_with (go_at_call 55; refine (impl_reach.calls k _ _ l0_0 0 none 0 [] a _ (Kd.C_below HR0.out (by repeat (first | exact HB2.out | apply below_alloc | apply below_drew1))) HC0.out (Kd.C_nil _ _) (Nat.le_refl _) B.out).mono ?_; rintro e w3 ⟨va, rfl, ho, hb⟩; have hbw : Below w2.heap.size w2 w3 := below_step (by repeat (first | exact Below.refl _ _ | apply below_alloc | apply below_drew1)) hb; have HBX3 := Aside0.mk (blk_below HBX2.out hbw); have hcz3 : w3.cell? ⟨w.heap.size, 0, none⟩ = some (.slice A0_0 l0_0.length c0_0) := (blk_cell HBX3.out 0).trans rfl)
      all_goals go_wp2
      all_goals go_meet
      all_goals first
        | exact ⟨_, _, rfl, ⟨lim_first HB2.out (by have := HM.out; omega) (below_then (below_drew (Below.refl _ _)) (Nat.le_refl _) hb) ho⟩, ⟨HBX3.out⟩, ⟨.inl (blk_lt HBX2.out)⟩⟩
        | exact ⟨_, _, rfl, ⟨lim_second (below_drew HB2.out) (by have := HM.out; omega) hb ho⟩, ⟨blk_alloc HBX3.out _⟩, ⟨.inl (blk_lt HBX2.out)⟩⟩
        | skip
    case rest =>
      obtain ⟨go, F, rfl, HI, HX, HF⟩ := hcut
      obtain ⟨Aa, ca, ea⟩ := Kd.R_slice HI.out.row
      subst ea
      have HFR := Aside0.mk HI.out.frow
      clear hmk hcz hczA hfz HB2 HBX2
      have hmk := fun W => run_make_row' (P := Try.prog) 63 4 (.bool false) 1 Try.underlying63 (by kernel_rfl) rfl .i64 .i64 l0_0.length (by have := HM.out; omega) (by have := HM.out; omega) W
      have hcz3 : wc.cell? ⟨w.heap.size, 0, none⟩ = some (.slice A0_0 l0_0.length c0_0) := (blk_cell HX.out 0).trans rfl
      go_wp2
      clear hcz3
      go_loopg [23] k (fun kq v23 w' => ∃ (x : List (List Bool)) (i : Int), v23 = .int .i64 i ∧ Aside0 (impl_LimitOf.l0 kq l0_0 a x i = some (r1, r2)) ∧ Aside0 (kq ≤ k) ∧ Aside0 (RInv Kd.bool 4 63 Kd.bool 4 w w' (.slice (some ⟨go, 0, none⟩) l0_0.length l0_0.length) (.slice Aa a.length ca) x a F) ∧ Aside0 (w'.heap[w.heap.size]? = some (.cells #[.slice A0_0 l0_0.length c0_0] 27 (0, 0))))
      case atStart => exact ⟨_, 0, rfl, H', ⟨Nat.le_refl _⟩, HI, HX⟩
      case round =>
        clear H' HI HX
        obtain ⟨x, i, rfl, HA, HK1, HI, HX⟩ := hrel
        cases gk with
        | zero => exact absurd HA.out (by simp [impl_LimitOf.l0])
        | succ k1 =>
          have H := HA.out
          clear HA
          simp only [impl_LimitOf.l0] at H
          by_cases c4 : i < (l0_0.length : Int)
          · rw [if_pos c4] at H
            by_cases c5 : 0 ≤ i
            · rw [if_pos c5] at H
              obtain ⟨ad, AL, cL, eA, hx00, hl0, hi0⟩ := at_row HR0.out i c5 c4
              obtain ⟨row, hrow⟩ : ∃ row, row = l0_0.getD i.toNat [] := ⟨_, rfl⟩
              rw [← hrow] at hx00 hl0 hi0 H
              have hx0 : wr.cell? (ad.add i.toNat) = some (.slice AL row.length cL) := pw_cell_below HI.out.below hx00
              have hcz4 : wr.cell? ⟨w.heap.size, 0, none⟩ = some (.slice A0_0 l0_0.length c0_0) := (blk_cell HX.out 0).trans rfl
              have hfz4 := blk_frozen HX.out 0
              cases eA
              have H' := Aside0.mk H
              obtain ⟨g', oki, ve, hg, hx1, hf1, _, _, hPg, _, _⟩ := S_row HI.out.out i c5 c4
              injection hg with hg
              injection hg with hg hgq1 hgq2
              subst hg
              have HI2 := Aside0.mk (HI.out.fill c5 c4 (below_alloc (Below.refl _ _) _) (R_made (β := Bool) (enc := Value.bool) (h1 := fun _ => rfl) false rfl 4 wr l0_0.length (by have := HM.out; omega)))
              have HX2 := Aside0.mk (blk_far (blk_alloc HX.out (.cells (madeCells #[.bool false] l0_0.length) 4)) (p := ⟨go, i.toNat, none⟩) (fun e => by have e2 : w.heap.size = go := e; exact hPg (e2 ▸ HF.out)) (.slice (some ⟨wr.heap.size, 0, none⟩) l0_0.length l0_0.length))
              have HRW := Aside0.mk hi0
              have c4b : decide (i < (l0_0.length : Int)) = true := decide_eq_true c4
              have c5b : decide (0 ≤ i) = true := decide_eq_true c5
              have p4 := eq_true c4
              have p5 := eq_true c5
              have hlt := World.block_lt_of_cell? wr _ hx1
              have hx2 : (wr.alloc (.cells (madeCells #[.bool false] l0_0.length) 4)).cell? ⟨go, i.toNat, none⟩ = some ve := pw_cell_below (below_alloc (Below.refl _ _) _) hx1
              have hf2 : (wr.alloc (.cells (madeCells #[.bool false] l0_0.length) 4)).frozen? ⟨go, i.toNat, none⟩ = false := (frozen_below (below_alloc (Below.refl _ _) _) hlt).trans hf1
              clear H HI HX c4 c5 hlt hPg hx1 hf1 hi0 hl0 hrow hgq1 hgq2 hx00
              go_wp2
              clear hx0 hx2 hf2 hcz4 hfz4
              go_loopg [37] k1 (fun kq v37 w' => ∃ (x : List (List Bool)) (j : Int), v37 = .int .i64 j ∧ Aside0 (impl_LimitOf.l1 kq l0_0 a x i row j = some (r1, r2)) ∧ Aside0 (kq ≤ k1) ∧ Aside0 (RInv Kd.bool 4 63 Kd.bool 4 w w' (.slice (some ⟨go, 0, none⟩) l0_0.length l0_0.length) (.slice Aa a.length ca) x a F) ∧ Aside0 (w'.heap[w.heap.size]? = some (.cells #[.slice (some ad) l0_0.length c0_0] 27 (0, 0))))
              case atStart => exact ⟨_, 0, rfl, H', ⟨Nat.le_refl _⟩, HI2, HX2⟩
              case round =>
                clear H' HI2 HX2
                obtain ⟨x, j, rfl, HA, HK2, HI, HX⟩ := hrel
                cases gk with
                | zero => exact absurd HA.out (by simp [impl_LimitOf.l1])
                | succ k2 =>
                  have H := HA.out
                  clear HA
                  simp only [impl_LimitOf.l1] at H
                  by_cases d1 : j < (row.length : Int)
                  · rw [if_pos d1] at H
                    by_cases d2 : 0 ≤ j
                    · rw [if_pos d2] at H
                      obtain ⟨m, hm⟩ : ∃ m, m = rd row j := ⟨_, rfl⟩
                      rw [← hm] at H
                      by_cases d3 : 0 ≤ m
                      · rw [if_pos d3] at H
                        by_cases d4 : m < ((x.getD i.toNat []).length : Int)
                        · rw [if_pos d4] at H
                          by_cases d5 : i < (a.length : Int)
                          · rw [if_pos d5] at H
                            obtain ⟨a1, e1, hy1⟩ := Kd.at_int (Kd.C_below HRW.out HI.out.below) j d2 d1
                            rw [← hm] at hy1
                            cases e1
                            obtain ⟨a2, e2, hy2⟩ := Kd.at_bool (Kd.R_reads' HI.out.row).2.2 i (of_decide_eq_true c5b) d5
                            cases e2
                            obtain ⟨g2, c2', hy3, hy4, hf4, hF2, hset⟩ := HI.out.cell false (of_decide_eq_true c5b) (of_decide_eq_true c4b) d3 d4
                            obtain ⟨n2, hn2⟩ : ∃ n2, n2 = (x.getD i.toNat []).length := ⟨_, rfl⟩
                            rw [← hn2] at hy3 d4
                            obtain ⟨u, hu⟩ : ∃ u, u = rdOf false a i := ⟨_, rfl⟩
                            rw [← hu] at H hy2
                            have HI2 := Aside0.mk (hset u)
                            have HX2 := Aside0.mk (blk_far HX.out (p := ⟨g2, m.toNat, none⟩) (fun e => by have e2 : w.heap.size = g2 := e; exact hF2 (e2 ▸ HF.out)) (.bool u))
                            have H' := Aside0.mk H
                            have q1 : decide (j < (row.length : Int)) = true := decide_eq_true d1
                            have q2 : decide (0 ≤ j) = true := decide_eq_true d2
                            have p1 := eq_true d1
                            have p2 := eq_true d2
                            have p3 := eq_true d3
                            have p6 := eq_true d4
                            have p7 := eq_true d5
                            clear H HI HX hset hF2 hu hn2 hm d1 d2 d3 d4 d5
                            go_wp2
                            go_still_tail 10, (by kernel_rfl)
                            change wpList _ _ _ _ _ (World.drew wr)
                            go_wp2
                            go_roundg k2
                            case measure => have := HK2.out; omega
                            case rel => exact ⟨_, _, rfl, H', ⟨by have := HK2.out; omega⟩, ⟨HI2.out.drew⟩, ⟨HX2.out⟩⟩
                          · rw [if_neg d5] at H; exact absurd H (by simp)
                        · rw [if_neg d4] at H; exact absurd H (by simp)
                      · rw [if_neg d3] at H; exact absurd H (by simp)
                    · rw [if_neg d2] at H; exact absurd H (by simp)
                  · rw [if_neg d1] at H
                    have H' := Aside0.mk H
                    have q1 : decide (j < (row.length : Int)) = false := decide_eq_false d1
                    clear H d1
                    go_wp2
                    go_roundg k2
                    case measure => have := HK2.out; have := HK1.out; omega
                    case rel => exact ⟨x, _, rfl, H', ⟨by have := HK2.out; have := HK1.out; omega⟩, HI, HX⟩
            · rw [if_neg c5] at H; exact absurd H (by simp)
          · rw [if_neg c4] at H
            have H' := Aside0.mk H
            have c4b : decide (i < (l0_0.length : Int)) = false := decide_eq_false c4
            clear H c4
            go_wp2
            go_loopg [55] k1 (fun kq v55 w' => ∃ (b : List Bool) (x : List (List Bool)), Aside0 (impl_LimitOf.l2 kq b x = some (r1, r2)) ∧ Aside0 (kq ≤ k1) ∧ Aside0 (Below w.heap.size w w') ∧ Aside0 (Kd.bool.R 4 w' w.heap.size (fun k_ => some k_ = (.slice Aa a.length ca : Value).ownBlock) (.slice Aa a.length ca) b) ∧ Aside0 (Kd.S (Kd.slice 4 Kd.bool) 63 w' w.heap.size (fun k_ => ¬ F k_) (.slice (some ⟨go, 0, none⟩) l0_0.length l0_0.length) x))
            case atStart => exact ⟨a, x, H', ⟨Nat.le_refl _⟩, ⟨HI.out.below⟩, ⟨HI.out.row⟩, ⟨HI.out.out⟩⟩
            case round =>
              clear H' HI HX
              obtain ⟨b, x, HA, HK2, HB2, HL, HN⟩ := hrel
              cases gk with
              | zero => exact absurd HA.out (by simp [impl_LimitOf.l2])
              | succ k2 =>
                have H := HA.out
                clear HA
                simp only [impl_LimitOf.l2] at H
                obtain ⟨⟨q1, q2, q3⟩, C1, H⟩ := Option.bind_eq_some_iff.mp H
                have C := Aside0.mk C1
                dsimp only at H
                clear C1
                cases q1 with
                | true =>
                  rw [if_pos rfl] at H
                  have H' := Aside0.mk H
                  clear H
                  go_wp2_with (go_at_call 56; (refine (impl_shrink.calls k2 _ _ _ _ b x true q2 q3 w _ HB2.out HL.out HN.out (fun k_ h_ h2_ => h2_ (HFR.out k_ h_)) C.out).mono ?_); rintro e w5 ⟨rfl, hs⟩; have HS := Aside0.mk hs; clear hs HB2 HL HN)
                  go_roundg k2
                  case measure => have := HK2.out; omega
                  case rel => exact ⟨_, _, H', ⟨by have := HK2.out; omega⟩, ⟨HS.out.below⟩, ⟨HS.out.left⟩, ⟨HS.out.next⟩⟩
                | false =>
                  rw [if_neg (by decide)] at H
                  obtain ⟨ls, D1, H⟩ := Option.bind_eq_some_iff.mp H
                  simp only [Option.some.injEq, Prod.mk.injEq] at H
                  obtain ⟨rfl, rfl⟩ := H
                  have D := Aside0.mk D1
                  clear D1
                  go_wp2_with (first | (go_at_call 56; (refine (impl_shrink.calls k2 _ _ _ _ b x false q2 q3 w _ HB2.out HL.out HN.out (fun k_ h_ h2_ => h2_ (HFR.out k_ h_)) C.out).mono ?_); rintro e w5 ⟨rfl, hs⟩; have HS := Aside0.mk hs; clear hs HB2 HL HN) | (go_at_call 53; (rw [show a.length = q2.length from (Kd.R_reads' HS.out.left).1]; refine (impl_listOf.calls k2 _ _ q2 ls _ (Kd.R_reads' HS.out.left).2.2 (R_cap HS.out.left) D.out).mono ?_); rintro e w6 ⟨vl, rfl, ho, hb⟩; have HB6 := Aside0.mk (below_step HS.out.below hb); clear hb; obtain ⟨Al, cl, el⟩ := Kd.R_slice ho; subst el; clear ho))
                  go_ret2
                  exact ⟨rfl, HB6.out⟩

end Go.Proofs.Ytbagmhcdhemopaa.Q
