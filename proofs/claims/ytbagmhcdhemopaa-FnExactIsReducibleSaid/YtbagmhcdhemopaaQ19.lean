-- WRITTEN BY A PROGRAM OF THIS SESSION
import Derived.Test.YtbagmhcdhemopaaQ0
import Derived.Test.YtbagmhcdhemopaaQ18
namespace Go.Proofs.Ytbagmhcdhemopaa.Q
open Go.RowKit Go.Proofs.YtbagmhcdhemopaaW.PrintWords Go.Proofs.YtbagmhcdhemopaaW.PrintLast Go.Proofs.YtbagmhcdhemopaaW.PrintMore
attribute [local go_sem] max2_int min2_int max_two min_two max_three min_three max_four min_four   -- for this text's walks alone
set_option linter.unusedVariables false
set_option linter.unusedSimpArgs false

/-! ### impl_dominators: function 52 (by hand: rows inside a row beside rows of the same kind) -/
mutual
def impl_dominators.l0 : Nat → List (List Int) → List Bool → List (List Bool) → Int → Option (List (List Bool))
  | 0, _, _, _, _ => none
  | k + 1, g, a, x, i => if i < (g.length : Int) then (if 0 ≤ i then (impl_dominators.l0 k g a (x.set i.toNat (List.replicate g.length false)) (wrap64 (i + 1))) else none) else impl_dominators.l1 k g a x 0
def impl_dominators.l1 : Nat → List (List Int) → List Bool → List (List Bool) → Int → Option (List (List Bool))
  | 0, _, _, _, _ => none
  | k + 1, g, a, x, i => if i < (a.length : Int) then (if 0 ≤ i then (if rdOf false a i = true then ((impl_reach.f k g 0 [i]).bind fun l => (impl_dominators.l2 k g a l x i 0)) else (impl_dominators.l1 k g a x (wrap64 (i + 1)))) else none) else some x
def impl_dominators.l2 : Nat → List (List Int) → List Bool → List Bool → List (List Bool) → Int → Int → Option (List (List Bool))
  | 0, _, _, _, _, _, _ => none
  | k + 1, g, a, l, x, i, b => if b < (g.length : Int) then (if 0 ≤ b then (if b < (a.length : Int) then (if b < (l.length : Int) then (if i < ((x.getD b.toNat []).length : Int) then (impl_dominators.l2 k g a l (x.set b.toNat ((x.getD b.toNat []).set i.toNat (rdOf false a b && !rdOf false l b))) i (wrap64 (b + 1))) else none) else none) else none) else none) else impl_dominators.l1 k g a x (wrap64 (i + 1))
end
def impl_dominators.f (k : Nat) (g : List (List Int)) : Option (List (List Bool)) := if g.length ≤ 11728124029610 then ((impl_reach.f k g 0 []).bind fun a => (impl_dominators.l0 k g a (List.replicate g.length []) 0)) else none
theorem impl_dominators.mono_l : ∀ k, (∀ y0 y1 y2 y3, LeO (impl_dominators.l0 k y0 y1 y2 y3) (impl_dominators.l0 (k + 1) y0 y1 y2 y3)) ∧ (∀ y0 y1 y2 y3, LeO (impl_dominators.l1 k y0 y1 y2 y3) (impl_dominators.l1 (k + 1) y0 y1 y2 y3)) ∧ (∀ y0 y1 y2 y3 y4 y5, LeO (impl_dominators.l2 k y0 y1 y2 y3 y4 y5) (impl_dominators.l2 (k + 1) y0 y1 y2 y3 y4 y5))
  | 0 => ⟨fun _ _ _ _ r h => by simp [impl_dominators.l0] at h, fun _ _ _ _ r h => by simp [impl_dominators.l1] at h, fun _ _ _ _ _ _ r h => by simp [impl_dominators.l2] at h⟩
  | k + 1 => by
    obtain ⟨ih0, ih1, ih2⟩ := impl_dominators.mono_l k
    refine ⟨?_, ?_, ?_⟩
    · intro y0 y1 y2 y3
      unfold impl_dominators.l0
      repeat' first
      | (with_reducible exact ih0 _ _ _ _)
      | (with_reducible exact ih1 _ _ _ _)
      | (with_reducible exact ih2 _ _ _ _ _ _)
      | (with_reducible exact impl_reach.mono _ _ _ _)
      | (with_reducible exact LeO.refl _)
      | (with_reducible exact LeO.none _)
      | (with_reducible refine LeO.ite ?_ ?_)
      | (with_reducible refine LeO.bind ?_ (fun _ => ?_))
    · intro y0 y1 y2 y3
      unfold impl_dominators.l1
      repeat' first
      | (with_reducible exact ih0 _ _ _ _)
      | (with_reducible exact ih1 _ _ _ _)
      | (with_reducible exact ih2 _ _ _ _ _ _)
      | (with_reducible exact impl_reach.mono _ _ _ _)
      | (with_reducible exact LeO.refl _)
      | (with_reducible exact LeO.none _)
      | (with_reducible refine LeO.ite ?_ ?_)
      | (with_reducible refine LeO.bind ?_ (fun _ => ?_))
    · intro y0 y1 y2 y3 y4 y5
      unfold impl_dominators.l2
      repeat' first
      | (with_reducible exact ih0 _ _ _ _)
      | (with_reducible exact ih1 _ _ _ _)
      | (with_reducible exact ih2 _ _ _ _ _ _)
      | (with_reducible exact impl_reach.mono _ _ _ _)
      | (with_reducible exact LeO.refl _)
      | (with_reducible exact LeO.none _)
      | (with_reducible refine LeO.ite ?_ ?_)
      | (with_reducible refine LeO.bind ?_ (fun _ => ?_))
theorem impl_dominators.mono : ∀ a0 k, LeO (impl_dominators.f k a0) (impl_dominators.f (k + 1) a0) := by
  intro a0 k
  obtain ⟨ih0, ih1, ih2⟩ := impl_dominators.mono_l k
  unfold impl_dominators.f
  repeat' first
      | (with_reducible exact ih0 _ _ _ _)
      | (with_reducible exact ih1 _ _ _ _)
      | (with_reducible exact ih2 _ _ _ _ _ _)
      | (with_reducible exact impl_reach.mono _ _ _ _)
      | (with_reducible exact LeO.refl _)
      | (with_reducible exact LeO.none _)
      | (with_reducible refine LeO.ite ?_ ?_)
      | (with_reducible refine LeO.bind ?_ (fun _ => ?_))
set_option maxHeartbeats 8000000 in
set_option maxRecDepth 100000 in
theorem impl_dominators.calls (k : Nat) (A0 : Option Addr) (c0 : Nat) (l0 : List (List Int)) (r : List (List Bool)) (w : World) (hr0 : Kd.C (Kd.slice 3 (Kd.int .i64)) w A0 l0.length l0) (hc0 : l0.length ≤ c0) (h : impl_dominators.f k l0 = some r) :
    Calls Try.prog 52 #[.slice A0 l0.length c0] w fun e w' => ∃ v0_ : Value, e = .returned (v0_) ∧ Kd.S (Kd.slice 4 Kd.bool) 63 w' w.heap.size (fun _ => True) v0_ r ∧ Below w.heap.size w w' := by
  have HR0 := Aside0.mk hr0
  have HC0 := Aside0.mk hc0
  clear hr0 hc0
  unfold impl_dominators.f at h
  by_cases c1 : l0.length ≤ 11728124029610
  rotate_left
  · rw [if_neg c1] at h; exact absurd h (by simp)
  rw [if_pos c1] at h
  obtain ⟨a, A1, H⟩ := Option.bind_eq_some_iff.mp h
  have A := Aside0.mk A1
  have H' := Aside0.mk H
  clear h A1 H
  have c2 : decide (0 ≤ (l0.length : Int)) = true := decide_eq_true (by omega)
  have c3 : (0 ≤ (l0.length : Int)) = True := eq_true (by omega)
  obtain ⟨y, hy⟩ : ∃ y : List (List Bool), y = List.replicate (l0.length : Int).toNat [] := ⟨_, rfl⟩
  have HY := Aside0.mk hy
  rw [Int.toNat_natCast] at hy
  rw [← hy] at H'
  have HM := Aside0.mk c1
  clear c1 hy
  have hmk61 := fun W => run_make_row' (P := Try.prog) 61 63 (.slice none 0 0) 24 Try.underlying61 (by kernel_rfl) rfl .i64 .i64 l0.length (by have := HM.out; omega) (by have := HM.out; omega) W
  have hmk63 := fun W => run_make_row' (P := Try.prog) 63 4 (.bool false) 1 Try.underlying63 (by kernel_rfl) rfl .i64 .i64 l0.length (by have := HM.out; omega) (by have := HM.out; omega) W
  go_enter Try.func52, Try.ntmps52
  go_upto_region 1 with (fail)
  go_cut [3, 4] (fun v3 v4 wc => ∃ (go : Nat), v3 = .slice (some ⟨go, 0, none⟩) l0.length l0.length ∧ Aside0 (RInv Kd.bool 4 63 Kd.bool 4 w wc v3 v4 y a (fun k_ => some k_ = v4.ownBlock)))
  case first =>
    go_region_with (go_at_call 55; refine (impl_reach.calls k _ _ l0 0 none 0 [] a _ (Kd.C_below HR0.out (by first | exact below_drew (Below.refl _ _) | exact below_alloc (below_drew (Below.refl _ _)) _)) HC0.out (Kd.C_nil _ _) (Nat.le_refl _) A.out).mono ?_; rintro e w3 ⟨va, rfl, ho, hb⟩)
    · go_wp2
      go_meet
      exact ⟨_, rfl, ⟨by have e1 := HY.out; rw [Int.toNat_natCast] at e1; rw [e1]; exact RInv.first rfl (Below.refl _ _) (by have := HM.out; omega) (below_then (below_drew (Below.refl _ _)) (Nat.le_refl _) hb) ho⟩⟩
    · go_wp2
      go_meet
      exact ⟨_, rfl, ⟨by have e1 := HY.out; rw [Int.toNat_natCast] at e1; rw [e1]; exact RInv.second rfl (below_drew (Below.refl _ _)) (by have := HM.out; omega) hb ho⟩⟩
  case rest =>
    obtain ⟨go, rfl, HI⟩ := hcut
    obtain ⟨Aa, ca, ea⟩ := Kd.R_slice HI.out.row
    subst ea
    obtain ⟨F, HI, hF⟩ : ∃ F : Nat → Prop, Aside0 (RInv Kd.bool 4 63 Kd.bool 4 w wc (.slice (some ⟨go, 0, none⟩) l0.length l0.length) (.slice Aa a.length ca) y a F) ∧ Aside0 (∀ k_, some k_ = (.slice Aa a.length ca : Value).ownBlock → F k_) := ⟨_, HI, ⟨fun _ h => h⟩⟩
    have HF := hF
    clear hF
    clear HY hmk61
    go_wp2
    go_loopg [17] k (fun kq v17 w' => ∃ (x : List (List Bool)) (i : Int), v17 = .int .i64 i ∧ Aside0 (impl_dominators.l0 kq l0 a x i = some r) ∧ Aside0 (kq ≤ k) ∧ Aside0 (RInv Kd.bool 4 63 Kd.bool 4 w w' (.slice (some ⟨go, 0, none⟩) l0.length l0.length) (.slice Aa a.length ca) x a F))
    case atStart => exact ⟨y, 0, rfl, H', ⟨Nat.le_refl _⟩, HI⟩
    case round =>
      clear H' HI
      obtain ⟨x, i, rfl, HA, HK1, HI⟩ := hrel
      cases gk with
      | zero => exact absurd HA.out (by simp [impl_dominators.l0])
      | succ k1 =>
        have H := HA.out
        clear HA
        simp only [impl_dominators.l0] at H
        by_cases c4 : i < (l0.length : Int)
        · rw [if_pos c4] at H
          by_cases c5 : 0 ≤ i
          · rw [if_pos c5] at H
            have H' := Aside0.mk H
            obtain ⟨g', oki, ve, hg, hx0, hf0, _, _, _, _, _⟩ := S_row HI.out.out i c5 c4
            injection hg with hg
            injection hg with hg _ _
            subst hg
            have HI2 := Aside0.mk (HI.out.fill c5 c4 (below_alloc (Below.refl _ _) _) (R_made (β := Bool) (enc := Value.bool) (h1 := fun _ => rfl) false rfl 4 wr l0.length (by have := HM.out; omega)))
            have c4b : decide (i < (l0.length : Int)) = true := decide_eq_true c4
            have c5b : decide (0 ≤ i) = true := decide_eq_true c5
            have p4 := eq_true c4
            have p5 := eq_true c5
            have hlt := World.block_lt_of_cell? wr _ hx0
            have hx1 : (wr.alloc (.cells (madeCells #[.bool false] l0.length) 4)).cell? ⟨go, i.toNat, none⟩ = some ve := pw_cell_below (below_alloc (Below.refl _ _) _) hx0
            have hf1 : (wr.alloc (.cells (madeCells #[.bool false] l0.length) 4)).frozen? ⟨go, i.toNat, none⟩ = false := (frozen_below (below_alloc (Below.refl _ _) _) hlt).trans hf0
            clear H HI c4 c5 hlt hx0 hf0
            go_wp2
            go_roundg k1
            case measure => have := HK1.out; omega
            case rel => exact ⟨_, _, rfl, H', ⟨by have := HK1.out; omega⟩, HI2⟩
          · rw [if_neg c5] at H; exact absurd H (by simp)
        · rw [if_neg c4] at H
          have H' := Aside0.mk H
          have c4b : decide (i < (l0.length : Int)) = false := decide_eq_false c4
          have hra := Kd.R_reads' HI.out.row
          clear H c4 hmk63
          go_wp2
          go_loopg [29] k1 (fun kq v29 w' => ∃ (x : List (List Bool)) (i : Int), v29 = .int .i64 i ∧ Aside0 (impl_dominators.l1 kq l0 a x i = some r) ∧ Aside0 (kq ≤ k) ∧ Aside0 (RInv Kd.bool 4 63 Kd.bool 4 w w' (.slice (some ⟨go, 0, none⟩) l0.length l0.length) (.slice Aa a.length ca) x a F))
          case atStart => exact ⟨x, 0, rfl, H', ⟨by have := HK1.out; omega⟩, HI⟩
          case round =>
            clear H' HI hra HK1
            obtain ⟨x, i, rfl, HA, HK1, HI⟩ := hrel
            cases gk with
            | zero => exact absurd HA.out (by simp [impl_dominators.l1])
            | succ k2 =>
              have H := HA.out
              clear HA
              simp only [impl_dominators.l1] at H
              by_cases c4 : i < (a.length : Int)
              · rw [if_pos c4] at H
                by_cases c5 : 0 ≤ i
                · rw [if_pos c5] at H
                  have hra := Kd.R_reads' HI.out.row
                  obtain ⟨ad, e1, hx1⟩ := Kd.at_bool hra.2.2 i c5 c4
                  cases e1
                  have c4b : decide (i < (a.length : Int)) = true := decide_eq_true c4
                  have c5b : decide (0 ≤ i) = true := decide_eq_true c5
                  have p4 := eq_true c4
                  have p5 := eq_true c5
                  clear c4 c5 hra
                  by_cases c6 : rdOf false a i = true
                  · rw [if_pos c6] at H
                    obtain ⟨l, A1, H⟩ := Option.bind_eq_some_iff.mp H
                    have A7 := Aside0.mk A1
                    have H' := Aside0.mk H
                    rw [c6] at hx1
                    have HIA := Aside0.mk (HI.out.step (below_alloc (Below.refl _ _) (.cells #[.int .i64 i] 3)))
                    clear H A1 c6
                    go_wp2_with (first | (go_at_call 55; (refine (impl_reach.calls k2 _ _ l0 0 _ 1 [i] l _ (Kd.C_below HR0.out HIA.out.below) HC0.out (C_lit1 wr 3 i) (by simp) A7.out).mono ?_); rintro e w4 ⟨vl, rfl, ho, hb⟩; have HI2 := Aside0.mk (HIA.out.more hb ho); have HL := Aside0.mk (Kd.R_tight rfl (Kd.R_lower ho HIA.out.below.size)); clear ho hb HIA HI hx1))
                    obtain ⟨Al, cl, el⟩ := Kd.R_slice HL.out
                    subst el
                    go_loopg [42] k2 (fun kq v42 w' => ∃ (x : List (List Bool)) (b : Int), v42 = .int .i64 b ∧ Aside0 (impl_dominators.l2 kq l0 a l x i b = some r) ∧ Aside0 (kq ≤ k2) ∧ Aside0 (RInv Kd.bool 4 63 Kd.bool 4 w w' (.slice (some ⟨go, 0, none⟩) l0.length l0.length) (.slice (some ad) a.length ca) x a (fun k_ => F k_ ∨ some k_ = (.slice Al l.length cl : Value).ownBlock)) ∧ Aside0 (Kd.bool.R 4 w' w.heap.size (fun k_ => some k_ = (.slice Al l.length cl : Value).ownBlock) (.slice Al l.length cl) l))
                    case atStart => exact ⟨x, 0, rfl, H', ⟨Nat.le_refl _⟩, HI2, HL⟩
                    case round =>
                      clear H' HI2 HL
                      obtain ⟨x, b, rfl, HA, HK2, HI, HL⟩ := hrel
                      cases gk with
                      | zero => exact absurd HA.out (by simp [impl_dominators.l2])
                      | succ k3 =>
                        have H := HA.out
                        clear HA
                        simp only [impl_dominators.l2] at H
                        by_cases d1 : b < (l0.length : Int)
                        · rw [if_pos d1] at H
                          by_cases d2 : 0 ≤ b
                          · rw [if_pos d2] at H
                            by_cases d3 : b < (a.length : Int)
                            · rw [if_pos d3] at H
                              by_cases d4 : b < (l.length : Int)
                              · rw [if_pos d4] at H
                                by_cases d5 : i < ((x.getD b.toNat []).length : Int)
                                · rw [if_pos d5] at H
                                  obtain ⟨y2, hy2⟩ : ∃ y2, y2 = x.getD b.toNat [] := ⟨_, rfl⟩
                                  have d6 : 0 ≤ i := of_decide_eq_true c5b
                                  obtain ⟨g2, c2', hx2, hx3, hf3, hF2, hset⟩ := HI.out.cell false d2 d1 d6 d5
                                  rw [← hy2] at H d5 hx2 hx3 hset
                                  obtain ⟨u, hu⟩ : ∃ u, u = (rdOf false a b && !rdOf false l b) := ⟨_, rfl⟩
                                  rw [← hu] at H
                                  have HS := Aside0.mk (hset u)
                                  have HLs := Aside0.mk (R_same HL.out (F := fun k_ => F k_ ∨ some k_ = (.slice Al l.length cl : Value).ownBlock) (w' := wr.setCell ⟨g2, i.toNat, none⟩ (.bool u)) (fun _ e_ => .inr e_) (fun k_ h_ => Below.heap_setCell wr ⟨g2, i.toNat, none⟩ (.bool u) k_ (fun e_ => hF2 (by have e2_ : k_ = g2 := e_; exact e2_ ▸ h_))))
                                  have hra := Kd.R_reads' HI.out.row
                                  obtain ⟨ad1, e1, hxa⟩ := Kd.at_bool hra.2.2 b d2 d3
                                  injection e1 with e1
                                  subst e1
                                  have hrl := Kd.R_reads' HL.out
                                  obtain ⟨ad2, e2, hxl⟩ := Kd.at_bool hrl.2.2 b d2 d4
                                  cases e2
                                  have H' := Aside0.mk H
                                  have HU := Aside0.mk hu
                                  have q1 : decide (b < (l0.length : Int)) = true := decide_eq_true d1
                                  have q2 : decide (0 ≤ b) = true := decide_eq_true d2
                                  have p1 := eq_true d1
                                  have p2 := eq_true d2
                                  have p3 := eq_true d3
                                  have p4' := eq_true d4
                                  have p5' := eq_true d5
                                  have p6 := eq_true d6
                                  clear H hra hrl HI HL hset hF2 hy2 hu d1 d2 d3 d4 d5 d6
                                  cases hab : rdOf false a b with
                                  | true =>
                                    rw [hab] at hxa
                                    have hu2 : u = !rdOf false l b := by rw [HU.out, hab]; rfl
                                    subst hu2
                                    clear HU hab
                                    go_wp2
                                    go_still_tail 17, (by kernel_rfl)
                                    change wpList _ _ _ _ _ (World.drew wr)
                                    go_wp2
                                    go_roundg k3
                                    case measure => have := HK2.out; omega
                                    case rel => exact ⟨_, _, rfl, H', ⟨by have := HK2.out; omega⟩, ⟨HS.out.drew⟩, ⟨Kd.R_drew HLs.out⟩⟩
                                  | false =>
                                    rw [hab] at hxa
                                    have hu2 : u = false := by rw [HU.out, hab]; rfl
                                    subst hu2
                                    clear HU hab
                                    go_wp2
                                    go_still_tail 17, (by kernel_rfl)
                                    change wpList _ _ _ _ _ (World.drew wr)
                                    go_wp2
                                    go_roundg k3
                                    case measure => have := HK2.out; omega
                                    case rel => exact ⟨_, _, rfl, H', ⟨by have := HK2.out; omega⟩, ⟨HS.out.drew⟩, ⟨Kd.R_drew HLs.out⟩⟩
                                · rw [if_neg d5] at H; exact absurd H (by simp)
                              · rw [if_neg d4] at H; exact absurd H (by simp)
                            · rw [if_neg d3] at H; exact absurd H (by simp)
                          · rw [if_neg d2] at H; exact absurd H (by simp)
                        · rw [if_neg d1] at H
                          have H' := Aside0.mk H
                          have q1 : decide (b < (l0.length : Int)) = false := decide_eq_false d1
                          clear H d1
                          go_wp2
                          go_roundg k3
                          case measure => have := HK2.out; have := HK1.out; omega
                          case rel => exact ⟨x, _, rfl, H', ⟨by have := HK2.out; have := HK1.out; omega⟩, ⟨HI.out.less HF.out⟩⟩
                  · rw [if_neg c6] at H
                    have H' := Aside0.mk H
                    have c6b : rdOf false a i = false := by simpa using c6
                    rw [c6b] at hx1
                    clear H c6 c6b
                    go_wp2
                    go_roundg k2
                    case measure => have := HK1.out; omega
                    case rel => exact ⟨x, _, rfl, H', ⟨by have := HK1.out; omega⟩, HI⟩
                · rw [if_neg c5] at H; exact absurd H (by simp)
              · rw [if_neg c4] at H
                obtain rfl := Option.some.inj H
                have c4b : decide (i < (a.length : Int)) = false := decide_eq_false c4
                clear c4
                go_wp2
                go_ret
                exact ⟨_, rfl, Kd.S_mono HI.out.out (fun _ _ => trivial), HI.out.below⟩

end Go.Proofs.Ytbagmhcdhemopaa.Q
