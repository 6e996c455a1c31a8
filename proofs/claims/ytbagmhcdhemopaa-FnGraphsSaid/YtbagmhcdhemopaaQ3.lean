-- WRITTEN BY A PROGRAM OF THIS SESSION
import Derived.Test.YtbagmhcdhemopaaQ0
import Derived.Test.YtbagmhcdhemopaaQ2
namespace Go.Proofs.Ytbagmhcdhemopaa.Q
open Go.RowKit Go.Proofs.YtbagmhcdhemopaaW.PrintWords Go.Proofs.YtbagmhcdhemopaaW.PrintLast Go.Proofs.YtbagmhcdhemopaaW.PrintMore
attribute [local go_sem] max2_int min2_int max_two min_two max_three min_three max_four min_four   -- for this text's walks alone
set_option linter.unusedVariables false
set_option linter.unusedSimpArgs false

/-- A state of type 27 at block g of W; what its slices lead to came in by w0. -/
def IsS27 (w0 W : World) (g : Nat) (f0 : List (List Int)) : Prop := ∃ A0 c0, W.heap[g]? = some (.cells #[.slice A0 f0.length c0] 27 (0, 0)) ∧ w0.heap.size ≤ g ∧ Kd.C (Kd.slice 3 (Kd.int .i64)) w0 A0 f0.length f0
theorem IsS27.grown {w0 W : World} {g : Nat} {f0 : List (List Int)} {W1 : World} {row : Option Nat} (h : IsS27 w0 W g f0) (hw : W.grownBy W1 row) (hne : some g ≠ row) : IsS27 w0 W1 g f0 := by
  obtain ⟨A0, c0, hb, hg, hr0⟩ := h
  exact ⟨A0, c0, blk_grown hb hw hne, hg, hr0⟩
theorem IsS27.own_neN {w0 W : World} {g : Nat} {f0 : List (List Int)} {α : Type} {d : Kd α} {e : Nat} {base : Nat} {ok : Nat → Prop} {v : Value} {xs : List α} (h : IsS27 w0 W g f0) (ho : Kd.N d e W base ok v xs) (ht : e ≠ 27) : some g ≠ v.ownBlock := by
  obtain ⟨A0, c0, hb, hg, hr0⟩ := h
  exact Kd.N_ne ho hb ht
theorem IsS27.fresh {w0 W : World} {g : Nat} {f0 : List (List Int)} (h : IsS27 w0 W g f0) : ∀ k, W.heap.size ≤ k → k ≠ g := by
  obtain ⟨A0, c0, hb, hg, hr0⟩ := h
  exact Kd.freshB hb
theorem IsS27.kept {w0 W : World} {g : Nat} {f0 : List (List Int)} {W1 : World} {S : Nat → Prop} (h : IsS27 w0 W g f0) (hk : Kept W W1 S) (hne : ¬ S g) : IsS27 w0 W1 g f0 := by
  obtain ⟨A0, c0, hb, hg, hr0⟩ := h
  exact ⟨A0, c0, blk_kept hb hk hne, hg, hr0⟩
theorem IsS27.below {w0 W : World} {g : Nat} {f0 : List (List Int)} {W1 : World} (h : IsS27 w0 W g f0) (hw : Below W.heap.size W W1) : IsS27 w0 W1 g f0 := h.grown (grown_of_below hw none) (by simp)
theorem IsS27.alloc {w0 W : World} {g : Nat} {f0 : List (List Int)} (h : IsS27 w0 W g f0) (o : Obj) : IsS27 w0 (W.alloc o) g f0 := h.below (below_alloc (Below.refl _ _) o)
theorem IsS27.drewN {w0 W : World} {g : Nat} {f0 : List (List Int)} (h : IsS27 w0 W g f0) (m : Nat) : IsS27 w0 (W.drewN m) g f0 := h
theorem IsS27.drew {w0 W : World} {g : Nat} {f0 : List (List Int)} (h : IsS27 w0 W g f0) : IsS27 w0 W.drew g f0 := h
theorem IsS27.at_ {w0 W : World} {g : Nat} {f0 : List (List Int)} {w' : World} {m : Nat} (hq : W.drewN m = w') (h : IsS27 w0 W g f0) : IsS27 w0 w' g f0 := by subst hq; exact IsS27.drewN h m
theorem IsS27.apart {w0 W : World} {g : Nat} {f0 : List (List Int)} {α : Type} {d : Kd α} {e : Nat} {base : Nat} {ok : Nat → Prop} {v : Value} {xs : List α} (h : IsS27 w0 W g f0) (ho : d.R e W base ok v xs) (ht : ∀ q, q ∈ e :: d.E → q ≠ 27) : d.R e W base (fun k => ok k ∧ k ≠ g) v xs := by
  obtain ⟨A0, c0, hb, hg, hr0⟩ := h
  exact Kd.R_types ho hb ht
theorem IsS27.own_ne {w0 W : World} {g : Nat} {f0 : List (List Int)} {α : Type} {d : Kd α} {e : Nat} {base : Nat} {ok : Nat → Prop} {v : Value} {xs : List α} (h : IsS27 w0 W g f0) (ho : d.R e W base ok v xs) (ht : e ≠ 27) : some g ≠ v.ownBlock := by
  obtain ⟨A0, c0, hb, hg, hr0⟩ := h
  exact Kd.R_ne ho hb ht
theorem IsS27.apartQ {w0 W : World} {g : Nat} {f0 : List (List Int)} {α : Type} {d : Kd α} {e : Nat} {base : Nat} {ok : Nat → Prop} {v : Value} {xs : List α} (h : IsS27 w0 W g f0) (ho : d.Q e W base ok v xs) (ht : ∀ q, q ∈ e :: d.E → q ≠ 27) : d.Q e W base (fun k => ok k ∧ k ≠ g) v xs := by
  obtain ⟨A0, c0, hb, hg, hr0⟩ := h
  exact Kd.Q_types ho hb ht
theorem IsS27.own_neQ {w0 W : World} {g : Nat} {f0 : List (List Int)} {α : Type} {d : Kd α} {e : Nat} {base : Nat} {ok : Nat → Prop} {v : Value} {xs : List α} (h : IsS27 w0 W g f0) (ho : d.Q e W base ok v xs) (ht : e ≠ 27) : some g ≠ v.ownBlock := by
  obtain ⟨A0, c0, hb, hg, hr0⟩ := h
  exact Kd.Q_ne ho hb ht
theorem IsS27.apartS {w0 W : World} {g : Nat} {f0 : List (List Int)} {α : Type} {d : Kd α} {e : Nat} {base : Nat} {ok : Nat → Prop} {v : Value} {xs : List α} (h : IsS27 w0 W g f0) (ho : d.S e W base ok v xs) (ht : ∀ q, q ∈ e :: d.E → q ≠ 27) : d.S e W base (fun k => ok k ∧ k ≠ g) v xs := by
  obtain ⟨A0, c0, hb, hg, hr0⟩ := h
  exact Kd.S_types ho hb ht
theorem IsS27.own_neS {w0 W : World} {g : Nat} {f0 : List (List Int)} {α : Type} {d : Kd α} {e : Nat} {base : Nat} {ok : Nat → Prop} {v : Value} {xs : List α} (h : IsS27 w0 W g f0) (ho : d.S e W base ok v xs) (ht : e ≠ 27) : some g ≠ v.ownBlock := by
  obtain ⟨A0, c0, hb, hg, hr0⟩ := h
  exact Kd.S_ne ho hb ht
theorem IsS27.lt {w0 W : World} {g : Nat} {f0 : List (List Int)} (h : IsS27 w0 W g f0) : g < W.heap.size := by
  obtain ⟨A0, c0, hb, hg, hr0⟩ := h
  exact blk_lt hb
theorem IsS27.ge {w0 W : World} {g : Nat} {f0 : List (List Int)} (h : IsS27 w0 W g f0) : w0.heap.size ≤ g := by
  obtain ⟨A0, c0, hb, hg, hr0⟩ := h
  exact hg
theorem IsS27.ne_blk {w0 W : World} {g : Nat} {f0 : List (List Int)} {a : Nat} {cs : Array Value} {t : TypeId} {fr : Nat × Nat} (h : IsS27 w0 W g f0) (hb2 : W.heap[a]? = some (.cells cs t fr)) (ht : t ≠ 27) : g ≠ a := by
  obtain ⟨A0, c0, hb, hg, hr0⟩ := h
  rintro rfl
  rw [hb] at hb2
  injection hb2 with hb2
  injection hb2 with _ ht2
  exact ht ht2.symm
theorem IsS27.far {w0 W : World} {g : Nat} {f0 : List (List Int)} {p : Addr} (h : IsS27 w0 W g f0) (hne : g ≠ p.block) (u : Value) : IsS27 w0 (W.setCell p u) g f0 := by
  obtain ⟨A0, c0, hb, hg, hr0⟩ := h
  exact ⟨A0, c0, blk_far hb hne u, hg, hr0⟩
theorem cellS27_0 {W : World} {g : Nat} {A0 : Option Addr} {c0 : Nat} {f0 : List (List Int)} (h : W.heap[g]? = some (.cells #[.slice A0 f0.length c0] 27 (0, 0))) : W.cell? ⟨g, 0, none⟩ = some (.slice A0 f0.length c0) := (blk_cell h 0).trans rfl
theorem IsS27.new (w0 W : World) (A0 : Option Addr) (c0 : Nat) (f0 : List (List Int)) (hB : Below w0.heap.size w0 W) (hr0 : Kd.C (Kd.slice 3 (Kd.int .i64)) w0 A0 f0.length f0) : IsS27 w0 (W.alloc (.cells #[.slice A0 f0.length c0] 27)) W.heap.size f0 := ⟨A0, c0, by simpa using heap_alloc_new W _, hB.size, hr0⟩
/-! ### impl_Graph_order: function 48 (by hand: a literal that calls itself) -/
mutual
def impl_Graph_order_1.l0 : Nat → List (List Int) → Int → List Bool → List Int → List Int → Int → Option (List Int × List Bool)
  | 0, _, _, _, _, _, _ => none
  | k + 1, g, a, sn, out, row, j => if j < (row.length : Int) then (if 0 ≤ j then (if 0 ≤ rd row j then (if rd row j < (sn.length : Int) then (if rdOf false sn (rd row j) = true then (impl_Graph_order_1.l0 k g a sn out row (wrap64 (j + 1))) else ((impl_Graph_order_1.l1 k g (rd row j) sn out).bind fun b => (impl_Graph_order_1.l0 k g a b.2 b.1 row (wrap64 (j + 1))))) else none) else none) else none) else (if out.length < 17592186044416 then some (out ++ [a], sn) else none)
def impl_Graph_order_1.l1 : Nat → List (List Int) → Int → List Bool → List Int → Option (List Int × List Bool)
  | 0, _, _, _, _ => none
  | k + 1, g, a, sn, out => if 0 ≤ a then (if a < (sn.length : Int) then (if a < (g.length : Int) then (impl_Graph_order_1.l0 k g a (sn.set a.toNat true) out (g.getD a.toNat []) 0) else none) else none) else none
end
def impl_Graph_order_1.f (k : Nat) (g : List (List Int)) (a : Int) (sn : List Bool) (out : List Int) : Option (List Int × List Bool) := impl_Graph_order_1.l1 k g a sn out
theorem impl_Graph_order_1.mono_l : ∀ k, (∀ y0 y1 y2 y3 y4 y5, LeO (impl_Graph_order_1.l0 k y0 y1 y2 y3 y4 y5) (impl_Graph_order_1.l0 (k + 1) y0 y1 y2 y3 y4 y5)) ∧ (∀ y0 y1 y2 y3, LeO (impl_Graph_order_1.l1 k y0 y1 y2 y3) (impl_Graph_order_1.l1 (k + 1) y0 y1 y2 y3))
  | 0 => ⟨fun _ _ _ _ _ _ r h => by simp [impl_Graph_order_1.l0] at h, fun _ _ _ _ r h => by simp [impl_Graph_order_1.l1] at h⟩
  | k + 1 => by
    obtain ⟨ih0, ih1⟩ := impl_Graph_order_1.mono_l k
    refine ⟨?_, ?_⟩
    · intro y0 y1 y2 y3 y4 y5
      unfold impl_Graph_order_1.l0
      repeat' first
      | (with_reducible exact ih0 _ _ _ _ _ _)
      | (with_reducible exact ih1 _ _ _ _)
      | (with_reducible exact LeO.refl _)
      | (with_reducible exact LeO.none _)
      | (with_reducible refine LeO.ite ?_ ?_)
      | (with_reducible refine LeO.bind ?_ (fun _ => ?_))
    · intro y0 y1 y2 y3
      unfold impl_Graph_order_1.l1
      repeat' first
      | (with_reducible exact ih0 _ _ _ _ _ _)
      | (with_reducible exact ih1 _ _ _ _)
      | (with_reducible exact LeO.refl _)
      | (with_reducible exact LeO.none _)
      | (with_reducible refine LeO.ite ?_ ?_)
      | (with_reducible refine LeO.bind ?_ (fun _ => ?_))
theorem impl_Graph_order_1.mono : ∀ a0 a1 a2 a3 k, LeO (impl_Graph_order_1.f k a0 a1 a2 a3) (impl_Graph_order_1.f (k + 1) a0 a1 a2 a3) := by
  intro a0 a1 a2 a3 k
  obtain ⟨ih0, ih1⟩ := impl_Graph_order_1.mono_l k
  unfold impl_Graph_order_1.f
  repeat' first
      | (with_reducible exact ih0 _ _ _ _ _ _)
      | (with_reducible exact ih1 _ _ _ _)
      | (with_reducible exact LeO.refl _)
      | (with_reducible exact LeO.none _)
      | (with_reducible refine LeO.ite ?_ ?_)
      | (with_reducible refine LeO.bind ?_ (fun _ => ?_))
/-- What holds while the literal is at work: its variables, each in its box. -/
structure VSt (w W : World) (b : Nat) (A0 : Option Addr) (n c bs gs bg bv bo : Nat) (vo : Value) (sn : List Bool) (out : List Int) : Prop where
  below : Below w.heap.size w W
  gbox : W.heap[b]? = some (.cells #[.slice A0 n c] 27 (0, 0))
  sbox : W.heap[bs]? = some (.cells #[.slice (some ⟨gs, 0, none⟩) sn.length sn.length] 63 (0, 0))
  srow : W.heap[gs]? = some (.cells (sn.map Value.bool).toArray 4 (0, 0))
  pbox : W.heap[bg]? = some (.cells #[.pointer (some ⟨b, 0, none⟩)] 76 (0, 0))
  vbox : W.heap[bv]? = some (.cells #[.func (.func 71) #[] #[.pointer (some ⟨bs, 0, none⟩), .pointer (some ⟨bg, 0, none⟩), .pointer (some ⟨bv, 0, none⟩), .pointer (some ⟨bo, 0, none⟩)]] 77 (0, 0))
  obox : W.heap[bo]? = some (.cells #[vo] 31 (0, 0))
  orow : (Kd.int .i64).R 3 W w.heap.size (fun _ => True) vo out
  ges : w.heap.size ≤ gs
  geo : w.heap.size ≤ bo
section
variable {w W W' : World} {b : Nat} {A0 : Option Addr} {n c bs gs bg bv bo : Nat} {vo : Value} {sn : List Bool} {out : List Int}
theorem VSt.step (h : VSt w W b A0 n c bs gs bg bv bo vo sn out) (hb : Below W.heap.size W W') : VSt w W' b A0 n c bs gs bg bv bo vo sn out :=
  ⟨below_step h.below hb, blk_below h.gbox hb, blk_below h.sbox hb, blk_below h.srow hb, blk_below h.pbox hb, blk_below h.vbox hb, blk_below h.obox hb, Kd.R_below h.orow hb, h.ges, h.geo⟩
theorem VSt.drew (h : VSt w W b A0 n c bs gs bg bv bo vo sn out) (m : Nat) : VSt w (W.drewN m) b A0 n c bs gs bg bv bo vo sn out := h.step (pw_below_drewN (Below.refl _ _) m)
/-- A mark, read. -/
theorem VSt.mark (h : VSt w W b A0 n c bs gs bg bv bo vo sn out) (i : Int) (h0 : 0 ≤ i) (h1 : i < (sn.length : Int)) : W.cell? ⟨gs, i.toNat, none⟩ = some (.bool (rdOf false sn i)) := by
  rw [blk_cell h.srow]
  have : i.toNat < sn.length := by omega
  simp [rdOf, List.getD_eq_getElem?_getD, List.getElem?_eq_getElem this]
/-- A mark is set. -/
theorem VSt.set (h : VSt w W b A0 n c bs gs bg bv bo vo sn out) (i : Int) : VSt w (W.setCell ⟨gs, i.toNat, none⟩ (.bool true)) b A0 n c bs gs bg bv bo vo (sn.set i.toNat true) out := by
  refine ⟨h.below.setCell h.ges _, blk_far h.gbox (blk_ne h.gbox h.srow (by decide)) _, ?_, ?_, blk_far h.pbox (blk_ne h.pbox h.srow (by decide)) _, blk_far h.vbox (blk_ne h.vbox h.srow (by decide)) _, blk_far h.obox (blk_ne h.obox h.srow (by decide)) _, ?_, h.ges, h.geo⟩
  · rw [List.length_set]; exact blk_far h.sbox (blk_ne h.sbox h.srow (by decide)) _
  · exact blk_put h.srow _ _ (by simp [List.map_set])
  · exact Kd.R_mono (Kd.R_far (p := ⟨gs, i.toNat, none⟩) (Kd.R_tight rfl h.orow) (fun k hk e => Kd.R_ne h.orow h.srow (by decide) (by rw [← hk]; exact congrArg some e.symm)) _) (fun _ _ => trivial)
/-- The list has grown and is stored again. -/
theorem VSt.grow {w1 : World} {v1 : Value} {a : Int} (h : VSt w W b A0 n c bs gs bg bv bo vo sn out) (hr : (Kd.int .i64).R 3 w1 w.heap.size (fun _ => True) v1 (out ++ [a])) (hb : Below w.heap.size w w1) (hg : W.grownBy w1 vo.ownBlock) : VSt w (w1.setCell ⟨bo, 0, none⟩ v1) b A0 n c bs gs bg bv bo v1 sn (out ++ [a]) := by
  have g1 : w1.heap[b]? = _ := blk_grown h.gbox hg (Kd.R_ne h.orow h.gbox (by decide))
  have g2 : w1.heap[bs]? = _ := blk_grown h.sbox hg (Kd.R_ne h.orow h.sbox (by decide))
  have g3 : w1.heap[gs]? = _ := blk_grown h.srow hg (Kd.R_ne h.orow h.srow (by decide))
  have g4 : w1.heap[bg]? = _ := blk_grown h.pbox hg (Kd.R_ne h.orow h.pbox (by decide))
  have g5 : w1.heap[bv]? = _ := blk_grown h.vbox hg (Kd.R_ne h.orow h.vbox (by decide))
  have g6 : w1.heap[bo]? = _ := blk_grown h.obox hg (Kd.R_ne h.orow h.obox (by decide))
  refine ⟨hb.setCell h.geo _, blk_far g1 (blk_ne g1 g6 (by decide)) _, blk_far g2 (blk_ne g2 g6 (by decide)) _, blk_far g3 (blk_ne g3 g6 (by decide)) _, blk_far g4 (blk_ne g4 g6 (by decide)) _, blk_far g5 (blk_ne g5 g6 (by decide)) _, blk_put g6 0 _ rfl, ?_, h.ges, h.geo⟩
  exact Kd.R_mono (Kd.R_far (p := ⟨bo, 0, none⟩) (Kd.R_tight rfl hr) (fun k hk e => Kd.R_ne hr g6 (by decide) (by rw [← hk]; exact congrArg some e.symm)) _) (fun _ _ => trivial)
end
set_option maxHeartbeats 8000000 in
set_option maxRecDepth 100000 in
theorem impl_Graph_order_1.calls (b : Nat) (A0 : Option Addr) (c0 : Nat) (l0 : List (List Int)) (bs gs bg bv bo : Nat) (w0 : World) (hr0 : Kd.C (Kd.slice 3 (Kd.int .i64)) w0 A0 l0.length l0) (k : Nat) : ∀ (a : Int) (sn : List Bool) (out r1 : List Int) (r2 : List Bool) (vo : Value) (w : World), VSt w0 w b A0 l0.length c0 bs gs bg bv bo vo sn out → impl_Graph_order_1.f k l0 a sn out = some (r1, r2) →
    Calls Try.prog 71 #[.int .i64 a, .pointer (some ⟨bs, 0, none⟩), .pointer (some ⟨bg, 0, none⟩), .pointer (some ⟨bv, 0, none⟩), .pointer (some ⟨bo, 0, none⟩)] w fun e w' => e = .returned (.tuple #[]) ∧ ∃ vo' : Value, VSt w0 w' b A0 l0.length c0 bs gs bg bv bo vo' r2 r1 := by
  have hu27 := Try.underlying27
  have HR0 := Aside0.mk hr0
  clear hr0
  induction k using Nat.strongRecOn with
  | _ k ih =>
  have IH := Aside0.mk ih
  clear ih
  intro a sn out r1 r2 vo w hst h
  unfold impl_Graph_order_1.f at h
  cases k with
  | zero => exact absurd h (by simp [impl_Graph_order_1.l1])
  | succ k =>
  simp only [impl_Graph_order_1.l1] at h
  by_cases c1 : 0 ≤ a
  rotate_left
  · rw [if_neg c1] at h; exact absurd h (by simp)
  rw [if_pos c1] at h
  by_cases c2 : a < (sn.length : Int)
  rotate_left
  · rw [if_neg c2] at h; exact absurd h (by simp)
  rw [if_pos c2] at h
  by_cases c3 : a < (l0.length : Int)
  rotate_left
  · rw [if_neg c3] at h; exact absurd h (by simp)
  rw [if_pos c3] at h
  have HS := Aside0.mk (hst.set a)
  have hs0 : w.cell? ⟨bs, 0, none⟩ = some (.slice (some ⟨gs, 0, none⟩) sn.length sn.length) := (blk_cell hst.sbox 0).trans rfl
  have hs1 := hst.mark a c1 c2
  have hf1 : w.frozen? ⟨gs, a.toNat, none⟩ = false := blk_frozen hst.srow _
  have hp2 : (w.setCell ⟨gs, a.toNat, none⟩ (.bool true)).cell? ⟨bg, 0, none⟩ = some (.pointer (some ⟨b, 0, none⟩)) := (blk_cell HS.out.pbox 0).trans rfl
  have hg2 : (w.setCell ⟨gs, a.toNat, none⟩ (.bool true)).cell? ⟨b, 0, none⟩ = some (.slice A0 l0.length c0) := (blk_cell HS.out.gbox 0).trans rfl
  obtain ⟨ad, AL, cL, eA, hx0', hl0, hi0⟩ := at_row HR0.out a c1 c3
  have hx0 := pw_cell_below HS.out.below hx0'
  clear hx0'
  obtain ⟨row, hrow⟩ : ∃ row, row = l0.getD a.toNat [] := ⟨_, rfl⟩
  rw [← hrow] at hx0 hl0 hi0 h
  obtain ⟨sn1, hsn⟩ : ∃ sn1, sn1 = sn.set a.toNat true := ⟨_, rfl⟩
  rw [← hsn] at h
  have HS' := HS
  rw [← hsn] at HS'
  have HRW := Aside0.mk hi0
  have H' := Aside0.mk h
  have q1 : decide (0 ≤ a) = true := decide_eq_true c1
  have q2 : decide (a < (sn.length : Int)) = true := decide_eq_true c2
  have q3 : decide (a < (l0.length : Int)) = true := decide_eq_true c3
  have p1 := eq_true c1
  have p2 := eq_true c2
  have p3 := eq_true c3
  cases eA
  clear h hst c1 c2 c3 HS hi0 hl0 hrow hsn
  go_enter Try.func71, Try.ntmps71
  go_wp2
  go_loopg [19] k (fun kq v19 w' => ∃ (sn : List Bool) (out : List Int) (vo : Value) (j : Int), v19 = .int .i64 j ∧ Aside0 (impl_Graph_order_1.l0 kq l0 a sn out row j = some (r1, r2)) ∧ Aside0 (kq ≤ k) ∧ Aside0 (VSt w0 w' b (some ad) l0.length c0 bs gs bg bv bo vo sn out))
  case atStart => exact ⟨_, _, _, 0, rfl, H', ⟨Nat.le_refl _⟩, HS'⟩
  case round =>
    clear H' HS' hs0 hs1 hf1 hp2 hg2 hx0
    obtain ⟨sn, out, vo, j, rfl, HA, HK1, HS⟩ := hrel
    cases gk with
    | zero => exact absurd HA.out (by simp [impl_Graph_order_1.l0])
    | succ k1 =>
      have H := HA.out
      clear HA
      simp only [impl_Graph_order_1.l0] at H
      by_cases d1 : j < (row.length : Int)
      · rw [if_pos d1] at H
        by_cases d2 : 0 ≤ j
        · rw [if_pos d2] at H
          obtain ⟨m, hm⟩ : ∃ m, m = rd row j := ⟨_, rfl⟩
          rw [← hm] at H
          by_cases d3 : 0 ≤ m
          · rw [if_pos d3] at H
            by_cases d4 : m < (sn.length : Int)
            · rw [if_pos d4] at H
              obtain ⟨a1, e1, hy1⟩ := Kd.at_int (Kd.C_below HRW.out HS.out.below) j d2 d1
              rw [← hm] at hy1
              cases e1
              have hs0 : wr.cell? ⟨bs, 0, none⟩ = some (.slice (some ⟨gs, 0, none⟩) sn.length sn.length) := (blk_cell HS.out.sbox 0).trans rfl
              have hs1 := HS.out.mark m d3 d4
              have q1 : decide (j < (row.length : Int)) = true := decide_eq_true d1
              have q2 : decide (0 ≤ j) = true := decide_eq_true d2
              have p1 := eq_true d1
              have p2 := eq_true d2
              have p3 := eq_true d3
              have p4 := eq_true d4
              clear d1 d2 d3 d4 hm
              cases d5 : rdOf false sn m with
              | true =>
                rw [d5] at hs1
                rw [if_pos d5] at H
                have H' := Aside0.mk H
                clear H d5
                go_wp2
                go_roundg k1
                case measure => have := HK1.out; omega
                case rel => exact ⟨_, _, _, _, rfl, H', ⟨by have := HK1.out; omega⟩, HS⟩
              | false =>
                rw [d5] at hs1
                rw [if_neg (by rw [d5]; decide)] at H
                obtain ⟨⟨o2, s2⟩, B1, H⟩ := Option.bind_eq_some_iff.mp H
                have B := Aside0.mk (show impl_Graph_order_1.f k1 l0 m sn out = some (o2, s2) from B1)
                have H' := Aside0.mk H
                have hv : wr.cell? ⟨bv, 0, none⟩ = some (.func (.func 71) #[] #[.pointer (some ⟨bs, 0, none⟩), .pointer (some ⟨bg, 0, none⟩), .pointer (some ⟨bv, 0, none⟩), .pointer (some ⟨bo, 0, none⟩)]) := (blk_cell HS.out.vbox 0).trans rfl
                clear H B1 d5
                go_wp2_with (go_at_call 71; refine (IH.out k1 (by have := HK1.out; omega) m sn out o2 s2 vo _ HS.out B.out).mono ?_; rintro e w4 ⟨rfl, vo2, h4⟩; have HS4 := Aside0.mk h4; clear h4 hv hs0 hs1 hy1 HS)
                go_roundg k1
                case measure => have := HK1.out; omega
                case rel => exact ⟨_, _, _, _, rfl, H', ⟨by have := HK1.out; omega⟩, HS4⟩
            · rw [if_neg d4] at H; exact absurd H (by simp)
          · rw [if_neg d3] at H; exact absurd H (by simp)
        · rw [if_neg d2] at H; exact absurd H (by simp)
      · rw [if_neg d1] at H
        by_cases d2 : out.length < 17592186044416
        · rw [if_pos d2] at H
          simp only [Option.some.injEq, Prod.mk.injEq] at H
          obtain ⟨rfl, rfl⟩ := H
          have q1' : decide (j < (row.length : Int)) = false := decide_eq_false d1
          have HLM := Aside0.mk d2
          have ho0 : wr.cell? ⟨bo, 0, none⟩ = some vo := (blk_cell HS.out.obox 0).trans rfl
          clear d1 d2
          go_wp2_with (first | ((with_reducible refine gate_builtin (b := .append) (xs := #[.tmp 32, .tmp 34]) rfl ?_); at_builtin; refine Kd.R_append (Kd.int .i64) (w0 := w0) w0.heap.size rfl (.tmp 32) (.tmp 34) 31 3 (.int .i64 0) 8 rfl Try.underlying31 (by kernel_rfl) rfl (by decide) (by omega) vo out a [.int .i64 a] (fun _ => True) (fun _ => False) rfl rfl ?aP (fun _ hk => hk.elim) ?aF ?aO ?aB ?aS ?aL ?_; (case aP => exact rfl); (case aB => exact HS.out.below); (case aF => exact fun _ _ => trivial); (case aO => exact HS.out.orow); (case aS => exact HS.out.below.size); (case aL => have := HLM.out; omega); intro v35 w7 ho hb hgr hat; obtain ⟨Av, cv, ev⟩ := Kd.R_slice ho; rw [List.length_append, List.length_singleton] at ev; subst ev; have HS7 := Aside0.mk (HS.out.grow ho hb hgr); have g6 : w7.heap[bo]? = _ := blk_grown HS.out.obox hgr (Kd.R_ne HS.out.orow HS.out.obox (by decide)); have hx7 : w7.cell? ⟨bo, 0, none⟩ = some vo := (blk_cell g6 0).trans rfl; have hf7 : w7.frozen? ⟨bo, 0, none⟩ = false := blk_frozen g6 0; clear ho hb hgr hat g6 ho0 HS))
          first | go_end0 | ((try simp only [Exit.inBlock, Exit.then]); refine bodyPost_ret (results_none rfl _ _ _) rfl ?_)
          exact ⟨rfl, _, HS7.out⟩
        · rw [if_neg d2] at H; exact absurd H (by simp)
/-- A function's value, stored. -/
theorem run_store_fnv {P : Program} {w : World} {a : Addr} {m : Mode} (fn : Fn) (first captured : Array Value) : (store a (.func fn first captured) m).run P w = stored P w a (.func fn first captured) m := run_store P w a _ m rfl
attribute [local go_sem] run_store_fnv
/-- An empty literal of numbers, just laid. -/
theorem R_lit0 {β : Type} {enc : β → Value} {h1 : ∀ x, (enc x).oneCell' = true} (E : Nat) (W : World) : (Kd.scalar enc h1).R E (W.alloc (.cells #[] E)) W.heap.size (fun _ => True) (.slice (some ⟨W.heap.size, 0, none⟩) 0 0) ([] : List β) := by
  refine ⟨fun _ _ => trivial, [], ?_, ⟨by simp, fun j p hj => by simp at hj⟩⟩
  have h2 := World.ownsRow_lit (base := W.heap.size) (e := E) (size := 1) W #[] 0 (Nat.le_refl _) (by simp [maxLen]) (by simp)
  change (W.alloc (.cells #[] E)).ownsRow W.heap.size E 1 _ 0 []
  simpa using h2
theorem made_bools (n : Nat) : madeCells #[.bool false] n = ((List.replicate n false).map Value.bool).toArray := by
  apply Array.ext
  · simp [size_madeCells]
  · intro i h1 h2
    simp [madeCells, Nat.mod_one]
def impl_Graph_order.f (k : Nat) (g : List (List Int)) : Option (List Int) := if g.length ≤ 281474976710656 then ((impl_Graph_order_1.f k g 0 (List.replicate g.length false) []).bind fun b => (slices_Reverse_int_int.f k b.1)) else none
theorem impl_Graph_order.mono : ∀ a0 k, LeO (impl_Graph_order.f k a0) (impl_Graph_order.f (k + 1) a0) := by
  intro a0 k
  unfold impl_Graph_order.f
  repeat' first
      | (with_reducible exact impl_Graph_order_1.mono _ _ _ _ _)
      | (with_reducible exact slices_Reverse_int_int.mono _ _)
      | (with_reducible exact LeO.refl _)
      | (with_reducible exact LeO.none _)
      | (with_reducible refine LeO.ite ?_ ?_)
      | (with_reducible refine LeO.bind ?_ (fun _ => ?_))
set_option maxHeartbeats 8000000 in
set_option maxRecDepth 100000 in
theorem impl_Graph_order.calls (k : Nat) (b : Nat) (A0 : Option Addr) (c0 : Nat) (l0 : List (List Int)) (r : List Int) (w : World) (hbox : w.heap[b]? = some (.cells #[.slice A0 l0.length c0] 27 (0, 0))) (hr0 : Kd.C (Kd.slice 3 (Kd.int .i64)) w A0 l0.length l0) (hc0 : l0.length ≤ c0) (h : impl_Graph_order.f k l0 = some r) :
    Calls Try.prog 48 #[.pointer (some ⟨b, 0, none⟩)] w fun e w' => ∃ v0_ : Value, e = .returned (v0_) ∧ (Kd.int .i64).R 3 w' w.heap.size (fun _ => True) v0_ r ∧ Below w.heap.size w w' := by
  have hu27 := Try.underlying27
  have HR0 := Aside0.mk hr0
  have HC0 := Aside0.mk hc0
  have HBX := Aside0.mk hbox
  clear hr0 hc0 hbox
  unfold impl_Graph_order.f at h
  by_cases c1 : l0.length ≤ 281474976710656
  rotate_left
  · rw [if_neg c1] at h; exact absurd h (by simp)
  rw [if_pos c1] at h
  obtain ⟨⟨o1, s1⟩, A1, H⟩ := Option.bind_eq_some_iff.mp h
  have A := Aside0.mk A1
  have H' := Aside0.mk H
  have HM := Aside0.mk c1
  clear h A1 H c1
  have hcz : (w.alloc (.cells #[.pointer (some ⟨b, 0, none⟩)] 76)).cell? ⟨b, 0, none⟩ = some (.slice A0 l0.length c0) := (blk_cell (blk_alloc HBX.out _) 0).trans rfl
  have hmk63 := fun W => run_make_row' (P := Try.prog) 63 4 (.bool false) 1 Try.underlying63 (by kernel_rfl) rfl .i64 .i64 l0.length (by have := HM.out; omega) (by have := HM.out; omega) W
  have hpb : (w.alloc (.cells #[.pointer (some ⟨b, 0, none⟩)] 76)).heap[w.heap.size]? = some (.cells #[.pointer (some ⟨b, 0, none⟩)] 76 (0, 0)) := heap_alloc_new w (.cells #[.pointer (some ⟨b, 0, none⟩)] 76)
  have hgs : ((w.alloc (.cells #[.pointer (some ⟨b, 0, none⟩)] 76)).alloc (.cells (madeCells #[.bool false] l0.length) 4)).heap[w.heap.size + 1]? = some (.cells (madeCells #[.bool false] l0.length) 4 (0, 0)) := by have h_ := heap_alloc_new (w.alloc (.cells #[.pointer (some ⟨b, 0, none⟩)] 76)) (.cells (madeCells #[.bool false] l0.length) 4); rwa [show (w.alloc (.cells #[.pointer (some ⟨b, 0, none⟩)] 76)).heap.size = w.heap.size + 1 by simp] at h_
  have hsb : ((((w.alloc (.cells #[.pointer (some ⟨b, 0, none⟩)] 76)).alloc (.cells (madeCells #[.bool false] l0.length) 4)).alloc (.cells #[] 3)).alloc (.cells #[.slice (some ⟨w.heap.size + 1, 0, none⟩) l0.length l0.length] 63)).heap[w.heap.size + 1 + 1 + 1]? = some (.cells #[.slice (some ⟨w.heap.size + 1, 0, none⟩) l0.length l0.length] 63 (0, 0)) := by have h_ := heap_alloc_new (((w.alloc (.cells #[.pointer (some ⟨b, 0, none⟩)] 76)).alloc (.cells (madeCells #[.bool false] l0.length) 4)).alloc (.cells #[] 3)) (.cells #[.slice (some ⟨w.heap.size + 1, 0, none⟩) l0.length l0.length] 63); rwa [show (((w.alloc (.cells #[.pointer (some ⟨b, 0, none⟩)] 76)).alloc (.cells (madeCells #[.bool false] l0.length) 4)).alloc (.cells #[] 3)).heap.size = w.heap.size + 1 + 1 + 1 by simp] at h_
  have hob : (((((w.alloc (.cells #[.pointer (some ⟨b, 0, none⟩)] 76)).alloc (.cells (madeCells #[.bool false] l0.length) 4)).alloc (.cells #[] 3)).alloc (.cells #[.slice (some ⟨w.heap.size + 1, 0, none⟩) l0.length l0.length] 63)).alloc (.cells #[.slice (some ⟨w.heap.size + 1 + 1, 0, none⟩) 0 0] 31)).heap[w.heap.size + 1 + 1 + 1 + 1]? = some (.cells #[.slice (some ⟨w.heap.size + 1 + 1, 0, none⟩) 0 0] 31 (0, 0)) := by have h_ := heap_alloc_new ((((w.alloc (.cells #[.pointer (some ⟨b, 0, none⟩)] 76)).alloc (.cells (madeCells #[.bool false] l0.length) 4)).alloc (.cells #[] 3)).alloc (.cells #[.slice (some ⟨w.heap.size + 1, 0, none⟩) l0.length l0.length] 63)) (.cells #[.slice (some ⟨w.heap.size + 1 + 1, 0, none⟩) 0 0] 31); rwa [show ((((w.alloc (.cells #[.pointer (some ⟨b, 0, none⟩)] 76)).alloc (.cells (madeCells #[.bool false] l0.length) 4)).alloc (.cells #[] 3)).alloc (.cells #[.slice (some ⟨w.heap.size + 1, 0, none⟩) l0.length l0.length] 63)).heap.size = w.heap.size + 1 + 1 + 1 + 1 by simp] at h_
  have hvb : ((((((w.alloc (.cells #[.pointer (some ⟨b, 0, none⟩)] 76)).alloc (.cells (madeCells #[.bool false] l0.length) 4)).alloc (.cells #[] 3)).alloc (.cells #[.slice (some ⟨w.heap.size + 1, 0, none⟩) l0.length l0.length] 63)).alloc (.cells #[.slice (some ⟨w.heap.size + 1 + 1, 0, none⟩) 0 0] 31)).alloc (.cells #[.func (.func 71) #[] #[.pointer (some ⟨w.heap.size + 1 + 1 + 1, 0, none⟩), .pointer (some ⟨w.heap.size, 0, none⟩), .pointer (some ⟨w.heap.size + 1 + 1 + 1 + 1 + 1, 0, none⟩), .pointer (some ⟨w.heap.size + 1 + 1 + 1 + 1, 0, none⟩)]] 77)).heap[w.heap.size + 1 + 1 + 1 + 1 + 1]? = some (.cells #[.func (.func 71) #[] #[.pointer (some ⟨w.heap.size + 1 + 1 + 1, 0, none⟩), .pointer (some ⟨w.heap.size, 0, none⟩), .pointer (some ⟨w.heap.size + 1 + 1 + 1 + 1 + 1, 0, none⟩), .pointer (some ⟨w.heap.size + 1 + 1 + 1 + 1, 0, none⟩)]] 77 (0, 0)) := by have h_ := heap_alloc_new (((((w.alloc (.cells #[.pointer (some ⟨b, 0, none⟩)] 76)).alloc (.cells (madeCells #[.bool false] l0.length) 4)).alloc (.cells #[] 3)).alloc (.cells #[.slice (some ⟨w.heap.size + 1, 0, none⟩) l0.length l0.length] 63)).alloc (.cells #[.slice (some ⟨w.heap.size + 1 + 1, 0, none⟩) 0 0] 31)) (.cells #[.func (.func 71) #[] #[.pointer (some ⟨w.heap.size + 1 + 1 + 1, 0, none⟩), .pointer (some ⟨w.heap.size, 0, none⟩), .pointer (some ⟨w.heap.size + 1 + 1 + 1 + 1 + 1, 0, none⟩), .pointer (some ⟨w.heap.size + 1 + 1 + 1 + 1, 0, none⟩)]] 77); rwa [show (((((w.alloc (.cells #[.pointer (some ⟨b, 0, none⟩)] 76)).alloc (.cells (madeCells #[.bool false] l0.length) 4)).alloc (.cells #[] 3)).alloc (.cells #[.slice (some ⟨w.heap.size + 1, 0, none⟩) l0.length l0.length] 63)).alloc (.cells #[.slice (some ⟨w.heap.size + 1 + 1, 0, none⟩) 0 0] 31)).heap.size = w.heap.size + 1 + 1 + 1 + 1 + 1 by simp] at h_
  have kr : (Kd.int .i64).R 3 ((((((w.alloc (.cells #[.pointer (some ⟨b, 0, none⟩)] 76)).alloc (.cells (madeCells #[.bool false] l0.length) 4)).alloc (.cells #[] 3)).alloc (.cells #[.slice (some ⟨w.heap.size + 1, 0, none⟩) l0.length l0.length] 63)).alloc (.cells #[.slice (some ⟨w.heap.size + 1 + 1, 0, none⟩) 0 0] 31)).alloc (.cells #[.func (.func 71) #[] #[.pointer (some ⟨w.heap.size + 1 + 1 + 1, 0, none⟩), .pointer (some ⟨w.heap.size, 0, none⟩), .pointer (some ⟨w.heap.size + 1 + 1 + 1 + 1 + 1, 0, none⟩), .pointer (some ⟨w.heap.size + 1 + 1 + 1 + 1, 0, none⟩)]] 77)) w.heap.size (fun _ => True) (.slice (some ⟨w.heap.size + 1 + 1, 0, none⟩) 0 0) ([] : List Int) := by
    have h_ := R_lit0 (enc := Value.int .i64) (h1 := fun _ => rfl) 3 ((w.alloc (.cells #[.pointer (some ⟨b, 0, none⟩)] 76)).alloc (.cells (madeCells #[.bool false] l0.length) 4))
    rw [show ((w.alloc (.cells #[.pointer (some ⟨b, 0, none⟩)] 76)).alloc (.cells (madeCells #[.bool false] l0.length) 4)).heap.size = w.heap.size + 1 + 1 by simp] at h_
    exact Kd.R_below (Kd.R_below (Kd.R_below (Kd.R_lower h_ (by omega)) (below_alloc (Below.refl _ _) _)) (below_alloc (Below.refl _ _) _)) (below_alloc (Below.refl _ _) _)
  have hst : VSt w ((((((w.alloc (.cells #[.pointer (some ⟨b, 0, none⟩)] 76)).alloc (.cells (madeCells #[.bool false] l0.length) 4)).alloc (.cells #[] 3)).alloc (.cells #[.slice (some ⟨w.heap.size + 1, 0, none⟩) l0.length l0.length] 63)).alloc (.cells #[.slice (some ⟨w.heap.size + 1 + 1, 0, none⟩) 0 0] 31)).alloc (.cells #[.func (.func 71) #[] #[.pointer (some ⟨w.heap.size + 1 + 1 + 1, 0, none⟩), .pointer (some ⟨w.heap.size, 0, none⟩), .pointer (some ⟨w.heap.size + 1 + 1 + 1 + 1 + 1, 0, none⟩), .pointer (some ⟨w.heap.size + 1 + 1 + 1 + 1, 0, none⟩)]] 77)) b A0 l0.length c0 (w.heap.size + 1 + 1 + 1) (w.heap.size + 1) w.heap.size (w.heap.size + 1 + 1 + 1 + 1 + 1) (w.heap.size + 1 + 1 + 1 + 1) (.slice (some ⟨w.heap.size + 1 + 1, 0, none⟩) 0 0) (List.replicate l0.length false) [] := by
    refine ⟨(by repeat (first | exact Below.refl _ _ | apply below_alloc)), (blk_alloc (blk_alloc (blk_alloc (blk_alloc (blk_alloc (blk_alloc HBX.out _) _) _) _) _) _), ?_, ?_, (blk_alloc (blk_alloc (blk_alloc (blk_alloc (blk_alloc hpb _) _) _) _) _), hvb, (blk_alloc hob _), kr, by omega, by omega⟩
    · rw [List.length_replicate]; exact (blk_alloc (blk_alloc hsb _) _)
    · rw [← made_bools]; exact (blk_alloc (blk_alloc (blk_alloc (blk_alloc hgs _) _) _) _)
  have hvl : ((((((w.alloc (.cells #[.pointer (some ⟨b, 0, none⟩)] 76)).alloc (.cells (madeCells #[.bool false] l0.length) 4)).alloc (.cells #[] 3)).alloc (.cells #[.slice (some ⟨w.heap.size + 1, 0, none⟩) l0.length l0.length] 63)).alloc (.cells #[.slice (some ⟨w.heap.size + 1 + 1, 0, none⟩) 0 0] 31)).alloc (.cells #[.func (.func 71) #[] #[.pointer (some ⟨w.heap.size + 1 + 1 + 1, 0, none⟩), .pointer (some ⟨w.heap.size, 0, none⟩), .pointer (some ⟨w.heap.size + 1 + 1 + 1 + 1 + 1, 0, none⟩), .pointer (some ⟨w.heap.size + 1 + 1 + 1 + 1, 0, none⟩)]] 77)).cell? ⟨w.heap.size + 1 + 1 + 1 + 1 + 1, 0, none⟩ = some (.func (.func 71) #[] #[.pointer (some ⟨w.heap.size + 1 + 1 + 1, 0, none⟩), .pointer (some ⟨w.heap.size, 0, none⟩), .pointer (some ⟨w.heap.size + 1 + 1 + 1 + 1 + 1, 0, none⟩), .pointer (some ⟨w.heap.size + 1 + 1 + 1 + 1, 0, none⟩)]) := (blk_cell hvb 0).trans rfl
  have HST := Aside0.mk hst
  clear hst kr hpb hgs hsb hob hvb
  go_enter Try.func48, Try.ntmps48
  go_wp2_with (first | (go_at_call 71; refine (impl_Graph_order_1.calls b A0 c0 l0 _ _ _ _ _ w HR0.out k 0 _ [] o1 s1 _ _ HST.out A.out).mono ?_; rintro e w4 ⟨rfl, vo, h4⟩; obtain ⟨Av, cv, ev⟩ := Kd.R_slice h4.orow; subst ev; have HS4 := Aside0.mk h4; have ho4 : w4.cell? ⟨w.heap.size + 1 + 1 + 1 + 1, 0, none⟩ = some (.slice Av o1.length cv) := (blk_cell h4.obox 0).trans rfl; clear h4 HST hvl) | (go_at_call 72; refine (slices_Reverse_int_int.calls k (fun k_ => some k_ = (.slice Av o1.length cv : Value).ownBlock) _ o1 r w _ HS4.out.below (Kd.R_tight rfl HS4.out.orow) H'.out).mono ?_; rintro e w5 ⟨rfl, hr5, hb5, hk5⟩; have ho5 : w5.cell? ⟨w.heap.size + 1 + 1 + 1 + 1, 0, none⟩ = some (.slice Av o1.length cv) := (blk_cell ((hk5.2 _ (blk_lt HS4.out.obox) (fun e_ => Kd.R_ne HS4.out.orow HS4.out.obox (by decide) e_)).trans HS4.out.obox) 0).trans rfl; have HR5 := Aside0.mk hr5; have HB5 := Aside0.mk hb5; clear hr5 hb5 hk5 ho4 HS4))
  go_ret
  exact ⟨_, rfl, Kd.R_mono HR5.out (fun _ _ => trivial), HB5.out⟩

/-! ### impl_OrderOf: function 17 (by hand: a variable whose row a pointer's method hands on) -/
def impl_OrderOf.f (k : Nat) (g : List (List Int)) : Option (List Int × Bool) := (impl_GoodGraph.f k g).bind fun b => (if b = true then ((impl_Graph_order.f k g).bind fun x => (some (x, true))) else (some ([], false)))
theorem impl_OrderOf.mono : ∀ a0 k, LeO (impl_OrderOf.f k a0) (impl_OrderOf.f (k + 1) a0) := by
  intro a0 k
  unfold impl_OrderOf.f
  repeat' first
      | (with_reducible exact impl_GoodGraph.mono _ _)
      | (with_reducible exact impl_Graph_order.mono _ _)
      | (with_reducible exact LeO.refl _)
      | (with_reducible exact LeO.none _)
      | (with_reducible refine LeO.ite ?_ ?_)
      | (with_reducible refine LeO.bind ?_ (fun _ => ?_))
set_option maxHeartbeats 8000000 in
set_option maxRecDepth 100000 in
theorem impl_OrderOf.calls (k : Nat) (A0_0 : Option Addr) (c0_0 : Nat) (l0_0 : List (List Int)) (r1 : List Int) (r2 : Bool) (w : World) (hr0_0 : Kd.C (Kd.slice 3 (Kd.int .i64)) w A0_0 l0_0.length l0_0) (hc0_0 : l0_0.length ≤ c0_0) (h : impl_OrderOf.f k l0_0 = some (r1, r2)) :
    Calls Try.prog 17 #[.agg #[.slice A0_0 l0_0.length c0_0]] w fun e w' => ∃ v0_ : Value, e = .returned (.tuple #[v0_, .bool r2]) ∧ (Kd.int .i64).R 3 w' w.heap.size (fun _ => True) v0_ r1 ∧ Below w.heap.size w w' := by
  have hu27 := Try.underlying27
  have HR0 := Aside0.mk hr0_0
  have HC0 := Aside0.mk hc0_0
  clear hr0_0 hc0_0
  unfold impl_OrderOf.f at h
  obtain ⟨b, A1, H⟩ := Option.bind_eq_some_iff.mp h
  have A := Aside0.mk A1
  have HBX := Aside0.mk (heap_alloc_new w (.cells #[.slice A0_0 l0_0.length c0_0] 27))
  have HB := Aside0.mk (below_alloc (Below.refl w.heap.size w) (.cells #[.slice A0_0 l0_0.length c0_0] 27))
  clear h A1
  cases b with
  | false =>
    rw [if_neg (by decide)] at H
    simp only [Option.some.injEq, Prod.mk.injEq] at H
    obtain ⟨rfl, rfl⟩ := H
    go_enter Try.func17, Try.ntmps17
    go_wp2_with (first | (go_at_call 14; (refine (impl_GoodGraph.calls k _ _ l0_0 false _ (Kd.C_below HR0.out HB.out) HC0.out A.out).mono ?_); rintro e w2 ⟨rfl, hb⟩; have HB2 := Aside0.mk (below_step HB.out hb); clear hb))
    go_ret2
    exact ⟨_, rfl, Kd.R_nil _ _ _ _ _, HB2.out⟩
  | true =>
    rw [if_pos rfl] at H
    obtain ⟨x, B1, H⟩ := Option.bind_eq_some_iff.mp H
    simp only [Option.some.injEq, Prod.mk.injEq] at H
    obtain ⟨rfl, rfl⟩ := H
    have B := Aside0.mk B1
    clear B1
    go_enter Try.func17, Try.ntmps17
    go_wp2_with (first | (go_at_call 14; (refine (impl_GoodGraph.calls k _ _ l0_0 true _ (Kd.C_below HR0.out HB.out) HC0.out A.out).mono ?_); rintro e w2 ⟨rfl, hb⟩; have HB2 := Aside0.mk (below_step HB.out hb); have HBX2 := Aside0.mk (blk_below HBX.out hb); clear hb) | (go_at_call 48; (refine (impl_Graph_order.calls k _ _ _ l0_0 x _ HBX2.out (Kd.C_below HR0.out HB2.out) HC0.out B.out).mono ?_); rintro e w3 ⟨v0, rfl, ho, hb⟩; have HO := Aside0.mk (Kd.R_lower ho HB2.out.size); have HB3 := Aside0.mk (below_step HB2.out hb); clear ho hb; obtain ⟨Av, cv, ev⟩ := Kd.R_slice HO.out; subst ev))
    go_ret2
    exact ⟨_, rfl, HO.out, HB3.out⟩

/-! ### slices_Index_int_int: function 64 -/
def slices_Index_int_int.l0 : Nat → List Int → Int → Int → Int → Option (Int)
  | 0, _, _, _, _ => none
  | k + 1, x0, x1, x7, x8 => if x8 < x7 then (if 0 ≤ x8 then (if x8 < (x0.length : Int) then (if x1 = (rd x0 x8) then (some x8) else (slices_Index_int_int.l0 k x0 x1 x7 (wrap64 (x8 + 1)))) else (none)) else (none)) else (some (-1))
def slices_Index_int_int.f (k : Nat) (l0 : List Int) (a1 : Int) : Option (Int) := slices_Index_int_int.l0 k l0 a1 (l0.length : Int) 0
theorem slices_Index_int_int.mono_l : ∀ k, (∀ y0 y1 y2 y3, LeO (slices_Index_int_int.l0 k y0 y1 y2 y3) (slices_Index_int_int.l0 (k + 1) y0 y1 y2 y3))
  | 0 => fun _ _ _ _ r h => by simp [slices_Index_int_int.l0] at h
  | k + 1 => by
    have ih0 := slices_Index_int_int.mono_l k
    · intro y0 y1 y2 y3
      unfold slices_Index_int_int.l0
      repeat' first
      | (with_reducible exact ih0 _ _ _ _)
      | (with_reducible exact LeO.refl _)
      | (with_reducible exact LeO.none _)
      | (with_reducible refine LeO.ite ?_ ?_)
      | (with_reducible refine LeO.bind ?_ (fun _ => ?_))
      | exact ih0 _ _ _ _
      | exact LeO.none _
      | refine LeO.ite ?_ ?_
      | refine LeO.bind ?_ (fun _ => ?_)
theorem slices_Index_int_int.mono : ∀ a0 a1 k, LeO (slices_Index_int_int.f k a0 a1) (slices_Index_int_int.f (k + 1) a0 a1) := by
  intro a0 a1 k
  have ih0 := slices_Index_int_int.mono_l k
  unfold slices_Index_int_int.f
  repeat' first
      | (with_reducible exact ih0 _ _ _ _)
      | (with_reducible exact LeO.refl _)
      | (with_reducible exact LeO.none _)
      | (with_reducible refine LeO.ite ?_ ?_)
      | (with_reducible refine LeO.bind ?_ (fun _ => ?_))
      | exact ih0 _ _ _ _
      | exact LeO.none _
      | refine LeO.ite ?_ ?_
      | refine LeO.bind ?_ (fun _ => ?_)
set_option maxHeartbeats 8000000 in
set_option maxRecDepth 100000 in
theorem slices_Index_int_int.calls (k : Nat) (A0 : Option Addr) (c0 : Nat) (l0 : List Int) (a1 : Int) (r : Int) (w : World) (hr0 : Kd.C (Kd.int .i64) w A0 l0.length l0) (hc0 : l0.length ≤ c0) (h : slices_Index_int_int.f k l0 a1 = some r) :
    Calls Try.prog 64 #[.slice A0 l0.length c0, .int .i64 a1] w fun e w' => e = .returned (.int .i64 r) ∧ Drawn0 w w' := by
  have HR0 := Aside0.mk hr0
  have HC0 := Aside0.mk hc0
  clear hr0 hc0
  have H : (slices_Index_int_int.l0 k l0 a1 (l0.length : Int) 0) = some r := h
  clear h
  have H' := Aside0.mk H
  clear H
  go_enter Try.func64, Try.ntmps64
  go_wp2
  go_loopg [8] k (fun kq v8 w' => ∃ (x8_1 : Int), v8 = .int .i64 x8_1 ∧ Aside0 (slices_Index_int_int.l0 kq l0 a1 (l0.length : Int) x8_1 = some r) ∧ Aside0 (kq ≤ k) ∧ Drawn0 w w')
  case atStart => exact ⟨(0), (by first | rfl | (simp; done) | (simp [*]; done)), H', ⟨Nat.le_refl _⟩, by repeat (first | exact Drawn0.refl _ | apply Drawn0.step)⟩
  case round =>
    clear H'
    try clear p2
    obtain ⟨x8_1, rfl, HA, HK1, ⟨m1, rfl⟩⟩ := hrel
    cases gk with
    | zero => exact absurd HA.out (by simp [slices_Index_int_int.l0])
    | succ k1 =>
      have H := HA.out
      clear HA
      simp only [slices_Index_int_int.l0] at H
      by_cases c3 : x8_1 < (l0.length : Int)
      · rw [if_pos c3] at H
        have c3b0 : decide (x8_1 < (l0.length : Int)) = true := decide_eq_true c3
        clear c3
        by_cases c4 : 0 ≤ x8_1
        · rw [if_pos c4] at H
          have c4b0 : decide (0 ≤ x8_1) = true := decide_eq_true c4
          clear c4
          by_cases c5 : x8_1 < (l0.length : Int)
          · rw [if_pos c5] at H
            have c5b0 : decide (x8_1 < (l0.length : Int)) = true := decide_eq_true c5
            clear c5
            by_cases c6 : a1 = (rd l0 x8_1)
            · rw [if_pos c6] at H
              have c6b0 : (a1 == (rd l0 x8_1)) = true := beq_iff_eq.mpr c6
              have c6b1 : (a1 != (rd l0 x8_1)) = false := bne_eq_false_iff_eq.mpr c6
              clear c6
              obtain rfl := Option.some.inj H
              have p141 : 0 ≤ (x8_1 : Int) := of_decide_eq_true (by first | (with_reducible assumption) | assumption)
              have q141 : x8_1 < (l0.length : Int) := of_decide_eq_true (by first | (with_reducible assumption) | assumption)
              obtain ⟨ad141, e141, hx141_0⟩ := Kd.at_int HR0.out x8_1 p141 q141
              cases e141
              replace p141 := eq_true p141
              replace q141 := eq_true q141
              go_wp2
              go_ret
              exact ⟨by first | rfl | (simp; done) | (simp [*]; done), by repeat (first | exact Drawn0.refl _ | apply Drawn0.step)⟩
            · rw [if_neg c6] at H
              have c6b0 : (a1 == (rd l0 x8_1)) = false := beq_eq_false_iff_ne.mpr c6
              have c6b1 : (a1 != (rd l0 x8_1)) = true := bne_iff_ne.mpr c6
              have H' := Aside0.mk H
              clear H
              have p141 : 0 ≤ (x8_1 : Int) := of_decide_eq_true (by first | (with_reducible assumption) | assumption)
              have q141 : x8_1 < (l0.length : Int) := of_decide_eq_true (by first | (with_reducible assumption) | assumption)
              obtain ⟨ad141, e141, hx141_0⟩ := Kd.at_int HR0.out x8_1 p141 q141
              cases e141
              replace p141 := eq_true p141
              replace q141 := eq_true q141
              go_wp2
              go_roundg k1
              case measure => have := HK1.out; omega
              case rel => exact ⟨(wrap64 (x8_1 + 1)), (by first | rfl | (simp; done) | (simp [*]; done)), H', ⟨by have := HK1.out; omega⟩, by repeat (first | exact Drawn0.refl _ | apply Drawn0.step)⟩
          · rw [if_neg c5] at H
            exact absurd H (by simp)
        · rw [if_neg c4] at H
          exact absurd H (by simp)
      · rw [if_neg c3] at H
        have c3b0 : decide (x8_1 < (l0.length : Int)) = false := decide_eq_false c3
        clear c3
        obtain rfl := Option.some.inj H
        go_wp2
        go_ret
        exact ⟨by first | rfl | (simp; done) | (simp [*]; done), by repeat (first | exact Drawn0.refl _ | apply Drawn0.step)⟩

/-! ### slices_Contains_int_int: function 61 -/
def slices_Contains_int_int.f (k : Nat) (l0 : List Int) (a1 : Int) : Option (Bool) := (slices_Index_int_int.f k l0 a1).bind fun t142 => (some (decide (t142 ≥ 0)))
theorem slices_Contains_int_int.mono : ∀ a0 a1 k, LeO (slices_Contains_int_int.f k a0 a1) (slices_Contains_int_int.f (k + 1) a0 a1) := by
  intro a0 a1 k
  unfold slices_Contains_int_int.f
  repeat' first
      | (with_reducible exact slices_Index_int_int.mono _ _ _)
      | (with_reducible exact LeO.refl _)
      | (with_reducible exact LeO.none _)
      | (with_reducible refine LeO.ite ?_ ?_)
      | (with_reducible refine LeO.bind ?_ (fun _ => ?_))
      | exact slices_Index_int_int.mono _ _ _
      | exact LeO.none _
      | refine LeO.ite ?_ ?_
      | refine LeO.bind ?_ (fun _ => ?_)
set_option maxHeartbeats 8000000 in
set_option maxRecDepth 100000 in
theorem slices_Contains_int_int.calls (k : Nat) (A0 : Option Addr) (c0 : Nat) (l0 : List Int) (a1 : Int) (r : Bool) (w : World) (hr0 : Kd.C (Kd.int .i64) w A0 l0.length l0) (hc0 : l0.length ≤ c0) (h : slices_Contains_int_int.f k l0 a1 = some r) :
    Calls Try.prog 61 #[.slice A0 l0.length c0, .int .i64 a1] w fun e w' => e = .returned (.bool r) ∧ Drawn0 w w' := by
  have HR0 := Aside0.mk hr0
  have HC0 := Aside0.mk hc0
  clear hr0 hc0
  have H : ((slices_Index_int_int.f k l0 a1).bind fun t142 => (some (decide (t142 ≥ 0)))) = some r := h
  clear h
  replace H := Option.bind_eq_some_iff.mp H
  obtain ⟨t142, A30, H⟩ := H
  replace H : (some (decide (t142 ≥ 0))) = some r := H
  have A3 := Aside0.mk A30
  clear A30
  obtain rfl := Option.some.inj H
  go_enter Try.func61, Try.ntmps61
  go_wp2_with (first | ((with_reducible refine gate_callee (f := 64) rfl ?_); refine goesL_ (some 7) rfl rfl Try.func64 (by kernel_rfl) rfl #[.slice A0 l0.length c0, .int .i64 a1] rfl (by (try simp only [List.map_toArray, List.map_cons, List.map_nil]); first | done | rfl | (simp only [List.length_drop, List.length_take]; rfl)) ?_; (with_reducible refine (slices_Index_int_int.calls k _ _ l0 a1 t142 _ ?side1 ?side2 A3.out).mono ?_); (case side1 => repeat (first | exact HR0.out | (with_reducible refine Kd.C_alloc ?_ _) | (with_reducible refine Kd.C_drewN ?_ _) | (with_reducible refine Kd.C_drew ?_))); (case side2 => exact HC0.out); rintro e w' ⟨rfl, ⟨nd, rfl⟩⟩; refine ⟨_, rfl, ?_⟩))
  go_ret
  exact ⟨by first | rfl | (simp; done) | (simp [*]; done), by repeat (first | exact Drawn0.refl _ | apply Drawn0.step)⟩

end Go.Proofs.Ytbagmhcdhemopaa.Q
