-- WRITTEN BY A PROGRAM OF THIS SESSION
import Derived.Test.YtbagmhcdhemopaaQ0
import Derived.Test.YtbagmhcdhemopaaQ1
import Derived.Test.YtbagmhcdhemopaaQ2
import Derived.Test.YtbagmhcdhemopaaQ4
import Derived.Test.YtbagmhcdhemopaaQ5
import Derived.Test.YtbagmhcdhemopaaQ6
namespace Go.Proofs.Ytbagmhcdhemopaa.Q
open Go.RowKit Go.Proofs.YtbagmhcdhemopaaW.PrintWords Go.Proofs.YtbagmhcdhemopaaW.PrintLast Go.Proofs.YtbagmhcdhemopaaW.PrintMore
attribute [local go_sem] max2_int min2_int max_two min_two max_three min_three max_four min_four   -- for this text's walks alone
set_option linter.unusedVariables false
set_option linter.unusedSimpArgs false

/-! ### spec_l7Dominators: function 50 (by hand: an element's row is handed to what writes it) -/
mutual
def spec_l7Dominators.l0 : Nat → List (List Int) → List Int → List (List Int) → Int → Option (List (List Int))
  | 0, _, _, _, _ => none
  | k + 1, g, rs, x, d => if d < (g.length : Int) then ((spec_l7Without.f k g d).bind fun l => (spec_l7Dominators.l1 k g rs l x d 0)) else some x
def spec_l7Dominators.l1 : Nat → List (List Int) → List Int → List Int → List (List Int) → Int → Int → Option (List (List Int))
  | 0, _, _, _, _, _, _ => none
  | k + 1, g, rs, l, x, d, i => if i < (rs.length : Int) then (if 0 ≤ i then ((spec_l1Has.f k rs d).bind fun b => (if b = true then ((spec_l1Has.f k l (rd rs i)).bind fun c => (if c = true then (spec_l7Dominators.l1 k g rs l x d (wrap64 (i + 1))) else (if 0 ≤ rd rs i then (if rd rs i < (x.length : Int) then ((spec_l1Put.f k (x.getD (rd rs i).toNat []) d).bind fun y => (spec_l7Dominators.l1 k g rs l (x.set (rd rs i).toNat y) d (wrap64 (i + 1)))) else none) else none))) else (spec_l7Dominators.l1 k g rs l x d (wrap64 (i + 1))))) else none) else spec_l7Dominators.l0 k g rs x (wrap64 (d + 1))
end
def spec_l7Dominators.f (k : Nat) (g : List (List Int)) : Option (List (List Int)) := if g.length ≤ 11728124029610 then ((spec_l7Without.f k g (-1)).bind fun rs => (spec_l7Dominators.l0 k g rs (List.replicate g.length []) 0)) else none
theorem spec_l7Dominators.mono_l : ∀ k, (∀ y0 y1 y2 y3, LeO (spec_l7Dominators.l0 k y0 y1 y2 y3) (spec_l7Dominators.l0 (k + 1) y0 y1 y2 y3)) ∧ (∀ y0 y1 y2 y3 y4 y5, LeO (spec_l7Dominators.l1 k y0 y1 y2 y3 y4 y5) (spec_l7Dominators.l1 (k + 1) y0 y1 y2 y3 y4 y5))
  | 0 => ⟨fun _ _ _ _ r h => by simp [spec_l7Dominators.l0] at h, fun _ _ _ _ _ _ r h => by simp [spec_l7Dominators.l1] at h⟩
  | k + 1 => by
    obtain ⟨ih0, ih1⟩ := spec_l7Dominators.mono_l k
    refine ⟨?_, ?_⟩
    · intro y0 y1 y2 y3
      unfold spec_l7Dominators.l0
      repeat' first
      | (with_reducible exact ih0 _ _ _ _)
      | (with_reducible exact ih1 _ _ _ _ _ _)
      | (with_reducible exact spec_l7Without.mono _ _ _)
      | (with_reducible exact spec_l1Has.mono _ _ _)
      | (with_reducible exact spec_l1Put.mono _ _ _)
      | (with_reducible exact LeO.refl _)
      | (with_reducible exact LeO.none _)
      | (with_reducible refine LeO.ite ?_ ?_)
      | (with_reducible refine LeO.bind ?_ (fun _ => ?_))
    · intro y0 y1 y2 y3 y4 y5
      unfold spec_l7Dominators.l1
      repeat' first
      | (with_reducible exact ih0 _ _ _ _)
      | (with_reducible exact ih1 _ _ _ _ _ _)
      | (with_reducible exact spec_l7Without.mono _ _ _)
      | (with_reducible exact spec_l1Has.mono _ _ _)
      | (with_reducible exact spec_l1Put.mono _ _ _)
      | (with_reducible exact LeO.refl _)
      | (with_reducible exact LeO.none _)
      | (with_reducible refine LeO.ite ?_ ?_)
      | (with_reducible refine LeO.bind ?_ (fun _ => ?_))
theorem spec_l7Dominators.mono : ∀ a0 k, LeO (spec_l7Dominators.f k a0) (spec_l7Dominators.f (k + 1) a0) := by
  intro a0 k
  obtain ⟨ih0, ih1⟩ := spec_l7Dominators.mono_l k
  unfold spec_l7Dominators.f
  repeat' first
      | (with_reducible exact ih0 _ _ _ _)
      | (with_reducible exact ih1 _ _ _ _ _ _)
      | (with_reducible exact spec_l7Without.mono _ _ _)
      | (with_reducible exact spec_l1Has.mono _ _ _)
      | (with_reducible exact spec_l1Put.mono _ _ _)
      | (with_reducible exact LeO.refl _)
      | (with_reducible exact LeO.none _)
      | (with_reducible refine LeO.ite ?_ ?_)
      | (with_reducible refine LeO.bind ?_ (fun _ => ?_))
/-- What holds between the rounds: the variable g, out, reach. -/
structure L7Inv (w W : World) (gb : Nat) (A0 : Option Addr) (n c : Nat) (vo vr : Value) (x : List (List Int)) (rs : List Int) (F : Nat → Prop) : Prop where
  box : W.heap[gb]? = some (.cells #[.slice A0 n c] 27 (0, 0))
  below : Below w.heap.size w W
  out : Kd.S (Kd.slice 3 (Kd.int .i64)) 31 W w.heap.size (fun k => ¬ F k) vo x
  row : (Kd.int .i64).R 3 W w.heap.size (fun k => some k = vr.ownBlock) vr rs
  fbox : F gb
  frow : ∀ k, some k = vr.ownBlock → F k
  flt : ∀ k, F k → k < W.heap.size
theorem L7Inv.step {w W W' : World} {gb : Nat} {A0 : Option Addr} {n c : Nat} {vo vr : Value} {x : List (List Int)} {rs : List Int} {F : Nat → Prop} (h : L7Inv w W gb A0 n c vo vr x rs F) (hb : Below W.heap.size W W') : L7Inv w W' gb A0 n c vo vr x rs F :=
  ⟨blk_below h.box hb, below_step h.below hb, Kd.S_below h.out hb, Kd.R_below h.row hb, h.fbox, h.frow, fun k hk => Nat.lt_of_lt_of_le (h.flt k hk) hb.size⟩
theorem L7Inv.drewN {w W : World} {gb : Nat} {A0 : Option Addr} {n c : Nat} {vo vr : Value} {x : List (List Int)} {rs : List Int} {F : Nat → Prop} (h : L7Inv w W gb A0 n c vo vr x rs F) (m : Nat) : L7Inv w (W.drewN m) gb A0 n c vo vr x rs F := h.step (pw_below_drewN (Below.refl _ _) m)
/-- A list left is made: out is apart from it, too. -/
theorem L7Inv.more {w W W' : World} {gb : Nat} {A0 : Option Addr} {n c : Nat} {vo vr vl : Value} {x : List (List Int)} {rs ls : List Int} {F : Nat → Prop} (h : L7Inv w W gb A0 n c vo vr x rs F) (hb : Below W.heap.size W W') (hl : (Kd.int .i64).R 3 W' W.heap.size (fun _ => True) vl ls) :
    L7Inv w W' gb A0 n c vo vr x rs (fun k => F k ∨ some k = vl.ownBlock) := by
  have h2 := h.step hb
  refine ⟨h2.box, h2.below, ?_, h2.row, .inl h2.fbox, fun k hk => .inl (h2.frow k hk), fun k hk => hk.elim (h2.flt k) (fun e => Kd.R_lt hl k e.symm)⟩
  exact Kd.S_mono (Kd.S_below (Kd.S_bound h.out) hb) (fun k hk he => he.elim hk.1 (fun e => by have := Kd.R_base hl k e.symm; have := hk.2.2.1; omega))
theorem L7Inv.less {w W : World} {gb : Nat} {A0 : Option Addr} {n c : Nat} {vo vr : Value} {x : List (List Int)} {rs : List Int} {F F' : Nat → Prop} (h : L7Inv w W gb A0 n c vo vr x rs (fun k => F k ∨ F' k)) (hb : F gb) (hr : ∀ k, some k = vr.ownBlock → F k) : L7Inv w W gb A0 n c vo vr x rs F :=
  ⟨h.box, h.below, Kd.S_mono h.out (fun k hk hf => hk (.inl hf)), h.row, hb, hr, fun k hk => h.flt k (.inl hk)⟩
/-- An element's row was handed over and stored back. -/
theorem L7Inv.put {w W W4 : World} {gb g nn cap : Nat} {A0 : Option Addr} {n c : Nat} {vr ve v0 : Value} {x : List (List Int)} {y : List Int} {i : Int} {rs : List Int} {F oki : Nat → Prop} (h : L7Inv w W gb A0 n c (.slice (some ⟨g, 0, none⟩) nn cap) vr x rs F)
    (hH : Kd.H (Kd.slice 3 (Kd.int .i64)) 31 W w.heap.size (fun k => ¬ F k) (.slice (some ⟨g, 0, none⟩) nn cap) x i oki [ve]) (h0 : 0 ≤ i) (h1 : i < nn) (hg : ¬ F g) (hgb : w.heap.size ≤ g)
    (hk : Kept W W4 oki) (hb : Below w.heap.size w W4) (hr : (Kd.int .i64).R 3 W4 w.heap.size (fun k => oki k ∨ W.heap.size ≤ k) v0 y) : L7Inv w (W4.setCell ⟨g, i.toNat, none⟩ v0) gb A0 n c (.slice (some ⟨g, 0, none⟩) nn cap) vr (x.set i.toNat y) rs F ∧ ∀ k, F k → (W4.setCell ⟨g, i.toNat, none⟩ v0).heap[k]? = W.heap[k]? := by
  obtain ⟨h2, h3⟩ := S_upd hH h0 h1 hg h.flt hk hr
  exact ⟨⟨(h3 gb h.fbox).trans h.box, hb.setCell hgb _, h2, R_same h.row h.frow h3, h.fbox, h.frow, fun k hf => Nat.lt_of_lt_of_le (h.flt k hf) (Nat.le_trans hk.1 (by simp [World.setCell]))⟩, h3⟩
set_option maxHeartbeats 8000000 in
set_option maxRecDepth 100000 in
theorem spec_l7Dominators.calls (k : Nat) (A0_0 : Option Addr) (c0_0 : Nat) (l0_0 : List (List Int)) (r : List (List Int)) (w : World) (hr0_0 : Kd.C (Kd.slice 3 (Kd.int .i64)) w A0_0 l0_0.length l0_0) (hc0_0 : l0_0.length ≤ c0_0) (h : spec_l7Dominators.f k l0_0 = some r) :
    Calls Try.prog 50 #[.agg #[.slice A0_0 l0_0.length c0_0]] w fun e w' => ∃ v0_ : Value, e = .returned (v0_) ∧ Kd.S (Kd.slice 3 (Kd.int .i64)) 31 w' w.heap.size (fun _ => True) v0_ r ∧ Below w.heap.size w w' := by
  have hu27 := Try.underlying27
  have HR0 := Aside0.mk hr0_0
  have HC0 := Aside0.mk hc0_0
  clear hr0_0 hc0_0
  unfold spec_l7Dominators.f at h
  by_cases c1 : l0_0.length ≤ 11728124029610
  rotate_left
  · rw [if_neg c1] at h; exact absurd h (by simp)
  rw [if_pos c1] at h
  obtain ⟨rs, A1, H⟩ := Option.bind_eq_some_iff.mp h
  have A := Aside0.mk A1
  have H' := Aside0.mk H
  clear h A1 H
  have c2 : decide (0 ≤ (l0_0.length : Int)) = true := decide_eq_true (by omega)
  have c3 : (0 ≤ (l0_0.length : Int)) = True := eq_true (by omega)
  obtain ⟨y, hy⟩ : ∃ y : List (List Int), y = List.replicate (l0_0.length : Int).toNat [] := ⟨_, rfl⟩
  have HY := Aside0.mk hy
  rw [Int.toNat_natCast] at hy
  rw [← hy] at H'
  have HM := Aside0.mk c1
  clear c1 hy
  go_enter Try.func50, Try.ntmps50
  go_wp2_with (first | ((with_reducible refine gate_dst (N := 1) rfl ?_); refine box_event ?hg (N := 1) ?hd (cs := #[.slice A0_0 l0_0.length c0_0]) (t := 27) ?hr ?_; (case hd => rfl); (case hg => rfl); (case hr => first | (go_simp; done) | (go_simp; rfl)); intro gb hg w1 hbox hb; have BK := Aside0.mk hbox; have GB := Aside0.mk hg; have HB := Aside0.mk hb; clear hbox hb hg; have hcz1 : w1.cell? ⟨gb, 0, none⟩ = some (.slice A0_0 l0_0.length c0_0) := (blk_cell BK.out 0).trans rfl; have hfz1 := blk_frozen BK.out 0) | ((with_reducible refine gate_dst (N := 12) rfl ?_); refine Kd.S_make (Kd.slice 3 (Kd.int .i64)) _ 31 rfl (N := 12) rfl 22 _ _ rfl (l0_0.length : Int) rfl rfl Try.underlying22 (.slice none 0 0) 24 (by kernel_rfl) rfl (by decide) (by omega) [] (ok := fun _ => True) (okp := fun _ => True) ⟨_, rfl, Kd.R_nil _ _ _ _ _⟩ (fun _ hk => hk) trivial (by omega) (by have := HM.out; rw [Int.toNat_natCast]; omega) (Below.refl _ _) (Nat.le_refl _) ?_; intro vo w2 ho5 hb hg_ hnew_; clear hg_ hnew_; rw [← HY.out] at ho5; have HO := Aside0.mk ho5; have BK2 := Aside0.mk (blk_below BK.out hb); have HB2 := Aside0.mk (below_step HB.out hb); have HG := Aside0.mk (blk_lt BK.out); clear hb ho5 BK HB; have hcz2 : w2.cell? ⟨gb, 0, none⟩ = some (.slice A0_0 l0_0.length c0_0) := (blk_cell BK2.out 0).trans rfl; have hfz2 := blk_frozen BK2.out 0))
  refine (spec_l7Without.calls k _ _ l0_0 (-1) rs _ (Kd.C_below HR0.out HB2.out) HC0.out A.out).mono ?_
  rintro e w3 ⟨vr, rfl, ho0, hb⟩
  have HI := Aside0.mk (show L7Inv w w3 gb A0_0 l0_0.length c0_0 vo vr y rs (fun k => k = gb ∨ some k = vr.ownBlock) from ⟨blk_below BK2.out hb, below_step HB2.out hb, Kd.S_lower (Kd.S_mono (Kd.S_below (Kd.S_bound HO.out) hb) (fun k hk he => he.elim (fun e => by have := HG.out; have := hk.2.1; omega) (fun e => by have := Kd.R_base ho0 k e.symm; have := hk.2.2.1; omega))) (by have := GB.out; have := HG.out; omega), Kd.R_tight rfl (Kd.R_lower ho0 HB2.out.size), .inl rfl, fun k e => .inr e, fun k hk => hk.elim (fun e => by have := HG.out; have := blk_lt (blk_below BK2.out hb); omega) (fun e => Kd.R_lt ho0 k e.symm)⟩)
  clear hb ho0 BK2 HB2 HO HG GB hcz2 hfz2 hcz1 hfz1
  obtain ⟨Ar, cr, er⟩ := Kd.R_slice HI.out.row
  subst er
  obtain ⟨Ao, co, eo⟩ := Kd.S_slice HI.out.out
  subst eo
  have hcz3 : w3.cell? ⟨gb, 0, none⟩ = some (.slice A0_0 l0_0.length c0_0) := (blk_cell HI.out.box 0).trans rfl
  have hfz3 := blk_frozen HI.out.box 0
  go_wp2
  clear hcz3 hfz3
  obtain ⟨F, HI⟩ : ∃ F, Aside0 (L7Inv w w3 gb A0_0 l0_0.length c0_0 (.slice Ao y.length co) (.slice Ar rs.length cr) y rs F) := ⟨_, HI⟩
  go_loopg [18] k (fun kq v18 w' => ∃ (x : List (List Int)) (d : Int), v18 = .int .i64 d ∧ Aside0 (spec_l7Dominators.l0 kq l0_0 rs x d = some r) ∧ Aside0 (kq ≤ k) ∧ Aside0 (L7Inv w w' gb A0_0 l0_0.length c0_0 (.slice Ao y.length co) (.slice Ar rs.length cr) x rs F))
  case atStart => exact ⟨y, 0, rfl, H', ⟨Nat.le_refl _⟩, HI⟩
  case round =>
    clear H' HI HY
    obtain ⟨x, d, rfl, HA, HK1, HI⟩ := hrel
    cases gk with
    | zero => exact absurd HA.out (by simp [spec_l7Dominators.l0])
    | succ k1 =>
      have H := HA.out
      clear HA
      simp only [spec_l7Dominators.l0] at H
      by_cases c3 : d < (l0_0.length : Int)
      · rw [if_pos c3] at H
        obtain ⟨ls, A1, H⟩ := Option.bind_eq_some_iff.mp H
        have A4 := Aside0.mk A1
        have H' := Aside0.mk H
        have c3b0 : decide (d < (l0_0.length : Int)) = true := decide_eq_true c3
        have hcz4 : wr.cell? ⟨gb, 0, none⟩ = some (.slice A0_0 l0_0.length c0_0) := (blk_cell HI.out.box 0).trans rfl
        have hfz4 := blk_frozen HI.out.box 0
        clear A1 H c3
        go_wp2_with (first | (go_at_call 73; (with_reducible refine (spec_l7Without.calls k1 _ _ l0_0 d ls _ (Kd.C_below HR0.out HI.out.below) HC0.out A4.out).mono ?_); rintro e w4 ⟨vl, rfl, ho0, hb⟩; have HI2 := Aside0.mk (HI.out.more hb ho0); have HL := Aside0.mk (Kd.R_tight rfl (Kd.R_lower ho0 HI.out.below.size)); have HFB := Aside0.mk HI.out.fbox; have HFR := Aside0.mk HI.out.frow; clear hb ho0 HI hcz4 hfz4 A4))
        obtain ⟨Al, cl, el⟩ := Kd.R_slice HL.out
        subst el
        go_loopg [26] k1 (fun kq v26 w' => ∃ (x : List (List Int)) (j : Int), v26 = .int .i64 j ∧ Aside0 (spec_l7Dominators.l1 kq l0_0 rs ls x d j = some r) ∧ Aside0 (kq ≤ k1) ∧ Aside0 (L7Inv w w' gb A0_0 l0_0.length c0_0 (.slice Ao y.length co) (.slice Ar rs.length cr) x rs (fun k_ => F k_ ∨ some k_ = (.slice Al ls.length cl : Value).ownBlock)) ∧ Aside0 ((Kd.int .i64).R 3 w' w.heap.size (fun k_ => some k_ = (.slice Al ls.length cl : Value).ownBlock) (.slice Al ls.length cl) ls))
        case atStart => exact ⟨x, 0, rfl, H', ⟨Nat.le_refl _⟩, HI2, HL⟩
        case round =>
          clear H' HI2 HL
          obtain ⟨x, j, rfl, HA, HK2, HI, HL⟩ := hrel
          cases gk with
          | zero => exact absurd HA.out (by simp [spec_l7Dominators.l1])
          | succ k2 =>
            have H := HA.out
            clear HA
            simp only [spec_l7Dominators.l1] at H
            by_cases c5 : j < (rs.length : Int)
            · rw [if_pos c5] at H
              by_cases c6 : 0 ≤ j
              · rw [if_pos c6] at H
                obtain ⟨b, A1, H⟩ := Option.bind_eq_some_iff.mp H
                have A5 := Aside0.mk A1
                clear A1
                have hrr := Kd.R_reads' HI.out.row
                obtain ⟨ad, e1, hx1⟩ := Kd.at_int hrr.2.2 j c6 c5
                cases e1
                have HRS := Aside0.mk hrr.2.2
                have HRC := Aside0.mk hrr.2.1
                have c5b0 : decide (j < (rs.length : Int)) = true := decide_eq_true c5
                have c6b0 : decide (0 ≤ j) = true := decide_eq_true c6
                have p5 := eq_true c5
                have p6 := eq_true c6
                clear hrr c5 c6
                cases b with
                | false =>
                  rw [if_neg (by decide)] at H
                  have H' := Aside0.mk H
                  clear H
                  go_wp2_with (first | (go_at_call 59; (with_reducible refine (spec_l1Has.calls k2 _ _ rs d false _ HRS.out HRC.out A5.out).mono ?_); rintro e w5 ⟨rfl, ⟨nd, rfl⟩⟩))
                  go_roundg k2
                  case measure => have := HK2.out; omega
                  case rel => exact ⟨x, _, rfl, H', ⟨by have := HK2.out; omega⟩, ⟨HI.out.drewN _⟩, ⟨Kd.R_drewN HL.out _⟩⟩
                | true =>
                  rw [if_pos rfl] at H
                  obtain ⟨c, A1, H⟩ := Option.bind_eq_some_iff.mp H
                  have A6 := Aside0.mk A1
                  clear A1
                  have hrl := Kd.R_reads' HL.out
                  have HLS := Aside0.mk hrl.2.2
                  have HLC := Aside0.mk hrl.2.1
                  clear hrl
                  cases c with
                  | true =>
                    rw [if_pos rfl] at H
                    have H' := Aside0.mk H
                    clear H
                    go_wp2_with (first | (go_at_call 59; (with_reducible refine (spec_l1Has.calls k2 _ _ rs d true _ HRS.out HRC.out A5.out).mono ?_); rintro e w5 ⟨rfl, ⟨nd, rfl⟩⟩) | (go_at_call 59; (with_reducible refine (spec_l1Has.calls k2 _ _ ls (rd rs j) true _ (Kd.C_drewN HLS.out _) HLC.out A6.out).mono ?_); rintro e w6 ⟨rfl, ⟨nd2, rfl⟩⟩))
                    go_roundg k2
                    case measure => have := HK2.out; omega
                    case rel => exact ⟨x, _, rfl, H', ⟨by have := HK2.out; omega⟩, ⟨HI.out.drewN _⟩, ⟨Kd.R_drewN HL.out _⟩⟩
                  | false =>
                    rw [if_neg (by decide)] at H
                    by_cases c7 : 0 ≤ rd rs j
                    · rw [if_pos c7] at H
                      by_cases c8 : rd rs j < (x.length : Int)
                      · rw [if_pos c8] at H
                        obtain ⟨z, A1, H⟩ := Option.bind_eq_some_iff.mp H
                        have A7 := Aside0.mk A1
                        have H' := Aside0.mk H
                        have hlen := (Kd.S_reads' HI.out.out).1
                        obtain ⟨g, oki, ve, rfl, hx2, hf2, hR, hoki, hPg, hbg, hH⟩ := S_row HI.out.out (rd rs j) c7 (by omega)
                        have HH := Aside0.mk hH
                        have HR := Aside0.mk hR
                        have HKI := Aside0.mk hoki
                        have HPG := Aside0.mk hPg
                        have HBG := Aside0.mk hbg
                        have c7b : decide (0 ≤ rd rs j) = true := decide_eq_true c7
                        have c8b : decide (rd rs j < (y.length : Int)) = true := decide_eq_true (by omega)
                        have p7 := eq_true c7
                        have p8 : (rd rs j < (y.length : Int)) = True := eq_true (by omega)
                        have HQ := Aside0.mk (show rd rs j < (y.length : Int) by omega)
                        have HQ0 := Aside0.mk c7
                        clear A1 H hH hR hoki hPg hbg hlen c7 c8
                        go_wp2_with (first | (go_at_call 59; (with_reducible refine (spec_l1Has.calls k2 _ _ rs d true _ HRS.out HRC.out A5.out).mono ?_); rintro e w5 ⟨rfl, ⟨nd, rfl⟩⟩) | (go_at_call 59; (with_reducible refine (spec_l1Has.calls k2 _ _ ls (rd rs j) false _ (Kd.C_drewN HLS.out _) HLC.out A6.out).mono ?_); rintro e w6 ⟨rfl, ⟨nd2, rfl⟩⟩) | (go_at_call 74; (with_reducible refine (spec_l1Put.calls k2 oki ve (x.getD (rd rs j).toNat []) d z w _ (HI.out.drewN _).below (Kd.R_drewN HR.out _) A7.out).mono ?_); rintro e w7 ⟨v0, rfl, hr0, hb, hkp⟩; obtain ⟨A0v, c0v, e0v⟩ := Kd.R_slice hr0; subst e0v; have hput := (HI.out.drewN _).put (Kd.H_drewN HH.out _) HQ0.out HQ.out HPG.out HBG.out hkp hb hr0; have hx7 : w7.cell? ⟨g, (rd rs j).toNat, none⟩ = some ve := cell_kept (W := wr.drewN _) hx2 hkp (fun h_ => (HKI.out g h_).2 rfl); have hf7 : w7.frozen? ⟨g, (rd rs j).toNat, none⟩ = false := (frozen_kept hkp (fun h_ => (HKI.out g h_).2 rfl) (World.block_lt_of_cell? (wr.drewN _) _ hx2)).trans hf2; have HI7 := Aside0.mk hput.1; have HL7 := Aside0.mk (R_same (Kd.R_drewN HL.out _) (fun _ e_ => .inr e_) hput.2); clear hput hr0 hb hkp HR HH HKI HPG HBG HI HL HLS HLC HRS HRC hx2 hf2 hx1))
                        go_roundg k2
                        case measure => have := HK2.out; omega
                        case rel => exact ⟨_, _, rfl, H', ⟨by have := HK2.out; omega⟩, HI7, HL7⟩
                      · rw [if_neg c8] at H; exact absurd H (by simp)
                    · rw [if_neg c7] at H; exact absurd H (by simp)
              · rw [if_neg c6] at H; exact absurd H (by simp)
            · rw [if_neg c5] at H
              have H' := Aside0.mk H
              have c5b0 : decide (j < (rs.length : Int)) = false := decide_eq_false c5
              clear H c5
              go_wp2
              go_roundg k2
              case measure => have := HK2.out; have := HK1.out; omega
              case rel => exact ⟨x, _, rfl, H', ⟨by have := HK2.out; have := HK1.out; omega⟩, ⟨HI.out.less HFB.out HFR.out⟩⟩
      · rw [if_neg c3] at H
        obtain rfl := Option.some.inj H
        have c3b0 : decide (d < (l0_0.length : Int)) = false := decide_eq_false c3
        clear c3
        go_wp2
        go_ret
        exact ⟨_, rfl, Kd.S_mono HI.out.out (fun _ _ => trivial), HI.out.below⟩

/-! ### spec_DominatorsIn: function 24 -/
def spec_DominatorsIn.f (k : Nat) (l0_0 : List (List Int)) : Option ((List (List Int)) × Bool) := (spec_GoodGraph.f k l0_0).bind fun t219 => (if t219 = true then ((spec_l7Dominators.f k l0_0).bind fun t220 => (some (t220, true))) else (some (([] : List (List Int)), false)))
theorem spec_DominatorsIn.mono : ∀ a0 k, LeO (spec_DominatorsIn.f k a0) (spec_DominatorsIn.f (k + 1) a0) := by
  intro a0 k
  unfold spec_DominatorsIn.f
  repeat' first
      | (with_reducible exact spec_GoodGraph.mono _ _)
      | (with_reducible exact spec_l7Dominators.mono _ _)
      | (with_reducible exact LeO.refl _)
      | (with_reducible exact LeO.none _)
      | (with_reducible refine LeO.ite ?_ ?_)
      | (with_reducible refine LeO.bind ?_ (fun _ => ?_))
      | exact spec_GoodGraph.mono _ _
      | exact spec_l7Dominators.mono _ _
      | exact LeO.none _
      | refine LeO.ite ?_ ?_
      | refine LeO.bind ?_ (fun _ => ?_)
set_option maxHeartbeats 8000000 in
set_option maxRecDepth 100000 in
theorem spec_DominatorsIn.calls (k : Nat) (A0_0 : Option Addr) (c0_0 : Nat) (l0_0 : List (List Int)) (r1 : List (List Int)) (r2 : Bool) (w : World) (hr0_0 : Kd.C (Kd.slice 3 (Kd.int .i64)) w A0_0 l0_0.length l0_0) (hc0_0 : l0_0.length ≤ c0_0) (h : spec_DominatorsIn.f k l0_0 = some (r1, r2)) :
    Calls Try.prog 24 #[.agg #[.slice A0_0 l0_0.length c0_0]] w fun e w' => ∃ v0_ : Value, e = .returned (.tuple #[v0_, .bool r2]) ∧ Kd.S (Kd.slice 3 (Kd.int .i64)) 31 w' w.heap.size (fun _ => True) v0_ r1 ∧ Below w.heap.size w w' := by
  have hu27 := Try.underlying27
  have HR0_0 := Aside0.mk hr0_0
  have HC0_0 := Aside0.mk hc0_0
  clear hr0_0 hc0_0
  have HB := Aside0.mk (Below.refl w.heap.size w)
  have H : ((spec_GoodGraph.f k l0_0).bind fun t219 => (if t219 = true then ((spec_l7Dominators.f k l0_0).bind fun t220 => (some (t220, true))) else (some (([] : List (List Int)), false)))) = some (r1, r2) := h
  clear h
  replace H := Option.bind_eq_some_iff.mp H
  obtain ⟨t219, A20, H⟩ := H
  replace H : (if t219 = true then ((spec_l7Dominators.f k l0_0).bind fun t220 => (some (t220, true))) else (some (([] : List (List Int)), false))) = some (r1, r2) := H
  have A2 := Aside0.mk A20
  clear A20
  by_cases c3 : t219 = true
  · subst c3
    have H1 : ((spec_l7Dominators.f k l0_0).bind fun t220 => (some (t220, true))) = some (r1, r2) := by rw [if_pos rfl] at H; exact H
    clear H
    have H := H1
    clear H1
    replace H := Option.bind_eq_some_iff.mp H
    obtain ⟨t220, A40, H⟩ := H
    replace H : (some (t220, true)) = some (r1, r2) := H
    have A4 := Aside0.mk A40
    clear A40
    simp only [Option.some.injEq, Prod.mk.injEq] at H
    obtain ⟨rfl, rfl⟩ := H
    go_enter Try.func24, Try.ntmps24
    go_wp2_with (first | ((with_reducible refine gate_dst (N := 1) rfl ?_); refine box_event ?hg (N := 1) ?hd (cs := #[.slice A0_0 l0_0.length c0_0]) (t := 27) ?hr ?_; (case hd => rfl); (case hg => rfl); (case hr => first | (go_simp; done) | (go_simp; rfl)); intro gb218 hg w5 hbox hb; have n0_ := Aside0.mk (below_step (by repeat (first | (with_reducible first | exact HB.out | apply below_alloc | apply pw_below_drewN | apply below_drew1) | exact HB.out)) hb); have n1_ := Aside0.mk (hbox); have n2_ := Aside0.mk ((by rw [hg]; exact (below_size (by repeat (first | (with_reducible first | exact HB.out | apply below_alloc | apply pw_below_drewN | apply below_drew1) | exact HB.out))) : w.heap.size ≤ gb218)); have n3_ := Aside0.mk ((by rw [hg]; exact (below_size (by repeat (first | (with_reducible first | exact HB.out | apply below_alloc | apply pw_below_drewN | apply below_drew1) | exact HB.out))) : w.heap.size ≤ gb218)); clear HB; have HB := n0_; have BK218 := n1_; have GW218 := n2_; have GE218 := n3_; clear n0_ n1_ n2_ n3_; clear hb hbox hg; have hcz6_0 : w5.cell? ⟨gb218, 0, none⟩ = some (.slice A0_0 l0_0.length c0_0) := (blk_cell BK218.out 0).trans rfl; have hfz6_0 := blk_frozen BK218.out 0) | ((with_reducible refine gate_callee (f := 12) rfl ?_); refine goesL_ (some 5) rfl rfl Try.func12 (by kernel_rfl) rfl #[.agg #[.slice A0_0 l0_0.length c0_0]] rfl (by (try simp only [List.map_toArray, List.map_cons, List.map_nil]); first | done | rfl | (simp only [List.length_drop, List.length_take]; rfl)) ?_; (with_reducible refine (spec_GoodGraph.calls k _ _ l0_0 true _ ?side1 ?side2 A2.out).mono ?_); (case side1 => repeat (first | exact (Kd.C_below HR0_0.out HB.out) | (with_reducible refine Kd.C_alloc ?_ _) | (with_reducible refine Kd.C_drewN ?_ _) | (with_reducible refine Kd.C_drew ?_))); (case side2 => exact HC0_0.out); rintro e w7 ⟨rfl, hb⟩; refine ⟨_, rfl, ?_⟩; have n0_ := Aside0.mk (blk_below (g := gb218) (o := .cells #[.slice A0_0 l0_0.length c0_0] 27 (0, 0)) (by (with_reducible repeat (first | refine blk_drewN ?_ _ | refine blk_drew ?_ | refine blk_alloc ?_ _)); exact BK218.out) hb); have n1_ := Aside0.mk (below_step (by repeat (first | (with_reducible first | exact HB.out | apply below_alloc | apply pw_below_drewN | apply below_drew1 | refine below_set ?_ GE218.out) | exact HB.out)) hb); clear BK218; clear HB; have BK218 := n0_; have HB := n1_; clear n0_ n1_; (try clear hb); (try clear hb2); (try clear hk); (try clear hi); have hcz8_0 : w7.cell? ⟨gb218, 0, none⟩ = some (.slice A0_0 l0_0.length c0_0) := (blk_cell BK218.out 0).trans rfl; have hfz8_0 := blk_frozen BK218.out 0) | ((with_reducible refine gate_callee (f := 50) rfl ?_); refine goesL_ (some 8) rfl rfl Try.func50 (by kernel_rfl) rfl #[.agg #[.slice A0_0 l0_0.length c0_0]] rfl (by (try simp only [List.map_toArray, List.map_cons, List.map_nil]); first | done | rfl | (simp only [List.length_drop, List.length_take]; rfl)) ?_; (with_reducible refine (spec_l7Dominators.calls k _ _ l0_0 t220 _ ?side1 ?side2 A4.out).mono ?_); (case side1 => repeat (first | exact (Kd.C_below HR0_0.out HB.out) | (with_reducible refine Kd.C_alloc ?_ _) | (with_reducible refine Kd.C_drewN ?_ _) | (with_reducible refine Kd.C_drew ?_))); (case side2 => exact HC0_0.out); rintro e w9 ⟨v221, rfl, ho0, hb⟩; refine ⟨_, rfl, ?_⟩; have n0_ := Aside0.mk (Kd.S_lower ho0 (below_size (by repeat (first | (with_reducible first | exact HB.out | apply below_alloc | apply pw_below_drewN | apply below_drew1 | refine below_set ?_ GE218.out) | exact HB.out)))); have n1_ := Aside0.mk (blk_below (g := gb218) (o := .cells #[.slice A0_0 l0_0.length c0_0] 27 (0, 0)) (by (with_reducible repeat (first | refine blk_drewN ?_ _ | refine blk_drew ?_ | refine blk_alloc ?_ _)); exact BK218.out) hb); have n2_ := Aside0.mk (below_step (by repeat (first | (with_reducible first | exact HB.out | apply below_alloc | apply pw_below_drewN | apply below_drew1 | refine below_set ?_ GE218.out) | exact HB.out)) hb); clear BK218; clear HB; have HO222 := n0_; have BK218 := n1_; have HB := n2_; clear n0_ n1_ n2_; (try clear hb); (try clear hb2); (try clear hk); (try clear hi); (try clear ho0)))
    go_ret2
    exact ⟨_, by first | rfl | (simp [errW_none, errW_some] <;> rfl) | (simp [*, errW_none, errW_some] <;> rfl), by (with_reducible repeat (first | apply Kd.S_alloc | apply Kd.S_drewN | apply Kd.S_drew)); exact HO222.out, by repeat (first | (with_reducible first | exact HB.out | apply below_alloc | apply pw_below_drewN | apply below_drew1 | refine below_set ?_ GE218.out) | exact HB.out)⟩
  · replace c3 := Bool.eq_false_iff.mpr c3
    subst c3
    have H1 : (some (([] : List (List Int)), false)) = some (r1, r2) := by rw [if_neg (show ¬ (false = true) by decide)] at H; exact H
    clear H
    have H := H1
    clear H1
    simp only [Option.some.injEq, Prod.mk.injEq] at H
    obtain ⟨rfl, rfl⟩ := H
    go_enter Try.func24, Try.ntmps24
    go_wp2_with (first | ((with_reducible refine gate_dst (N := 1) rfl ?_); refine box_event ?hg (N := 1) ?hd (cs := #[.slice A0_0 l0_0.length c0_0]) (t := 27) ?hr ?_; (case hd => rfl); (case hg => rfl); (case hr => first | (go_simp; done) | (go_simp; rfl)); intro gb218 hg w10 hbox hb; have n0_ := Aside0.mk (below_step (by repeat (first | (with_reducible first | exact HB.out | apply below_alloc | apply pw_below_drewN | apply below_drew1) | exact HB.out)) hb); have n1_ := Aside0.mk (hbox); have n2_ := Aside0.mk ((by rw [hg]; exact (below_size (by repeat (first | (with_reducible first | exact HB.out | apply below_alloc | apply pw_below_drewN | apply below_drew1) | exact HB.out))) : w.heap.size ≤ gb218)); have n3_ := Aside0.mk ((by rw [hg]; exact (below_size (by repeat (first | (with_reducible first | exact HB.out | apply below_alloc | apply pw_below_drewN | apply below_drew1) | exact HB.out))) : w.heap.size ≤ gb218)); clear HB; have HB := n0_; have BK218 := n1_; have GW218 := n2_; have GE218 := n3_; clear n0_ n1_ n2_ n3_; clear hb hbox hg; have hcz11_0 : w10.cell? ⟨gb218, 0, none⟩ = some (.slice A0_0 l0_0.length c0_0) := (blk_cell BK218.out 0).trans rfl; have hfz11_0 := blk_frozen BK218.out 0) | ((with_reducible refine gate_callee (f := 12) rfl ?_); refine goesL_ (some 5) rfl rfl Try.func12 (by kernel_rfl) rfl #[.agg #[.slice A0_0 l0_0.length c0_0]] rfl (by (try simp only [List.map_toArray, List.map_cons, List.map_nil]); first | done | rfl | (simp only [List.length_drop, List.length_take]; rfl)) ?_; (with_reducible refine (spec_GoodGraph.calls k _ _ l0_0 false _ ?side1 ?side2 A2.out).mono ?_); (case side1 => repeat (first | exact (Kd.C_below HR0_0.out HB.out) | (with_reducible refine Kd.C_alloc ?_ _) | (with_reducible refine Kd.C_drewN ?_ _) | (with_reducible refine Kd.C_drew ?_))); (case side2 => exact HC0_0.out); rintro e w12 ⟨rfl, hb⟩; refine ⟨_, rfl, ?_⟩; have n0_ := Aside0.mk (blk_below (g := gb218) (o := .cells #[.slice A0_0 l0_0.length c0_0] 27 (0, 0)) (by (with_reducible repeat (first | refine blk_drewN ?_ _ | refine blk_drew ?_ | refine blk_alloc ?_ _)); exact BK218.out) hb); have n1_ := Aside0.mk (below_step (by repeat (first | (with_reducible first | exact HB.out | apply below_alloc | apply pw_below_drewN | apply below_drew1 | refine below_set ?_ GE218.out) | exact HB.out)) hb); clear BK218; clear HB; have BK218 := n0_; have HB := n1_; clear n0_ n1_; (try clear hb); (try clear hb2); (try clear hk); (try clear hi)))
    go_ret2
    exact ⟨_, by first | rfl | (simp [errW_none, errW_some] <;> rfl) | (simp [*, errW_none, errW_some] <;> rfl), by first | exact Kd.S_nil _ _ _ _ _ | exact Kd.N_nil _ _ _ _ _ | exact Kd.V_nil _ _ _ _ _ | exact Kd.Q_nil _ _ _ _ _ | exact Kd.R_nil _ _ _ _ _, by repeat (first | (with_reducible first | exact HB.out | apply below_alloc | apply pw_below_drewN | apply below_drew1 | refine below_set ?_ GE218.out) | exact HB.out)⟩

/-! ### impl_DominatorsIn: function 25 -/
def impl_DominatorsIn.l0 : Nat → List (List Int) → List (List Bool) → Int → Int → Option ((List (List Int)) × Bool)
  | 0, _, _, _, _ => none
  | k + 1, x4, x16, x17, x18 => if x18 < x17 then (if 0 ≤ x18 then (if x18 < (x16.length : Int) then ((impl_listOf.f k (rd_L5 x16 x18)).bind fun t232 => (if x18 < (x4.length : Int) then (impl_DominatorsIn.l0 k (x4.set (x18 : Int).toNat t232) x16 x17 (wrap64 (x18 + 1))) else (none))) else (none)) else (none)) else (some (x4, true))
def impl_DominatorsIn.f (k : Nat) (l0_0 : List (List Int)) : Option ((List (List Int)) × Bool) := (impl_GoodGraph.f k l0_0).bind fun t224 => (if t224 = true then (if 0 ≤ (l0_0.length : Int) then (if ((l0_0.length : Int) : Int).toNat ≤ 11728124029610 then ((impl_dominators.f k l0_0).bind fun t228 => (impl_DominatorsIn.l0 k (List.replicate ((l0_0.length : Int) : Int).toNat []) t228 (t228.length : Int) 0)) else (none)) else (none)) else (some (([] : List (List Int)), false)))
theorem impl_DominatorsIn.mono_l : ∀ k, (∀ y0 y1 y2 y3, LeO (impl_DominatorsIn.l0 k y0 y1 y2 y3) (impl_DominatorsIn.l0 (k + 1) y0 y1 y2 y3))
  | 0 => fun _ _ _ _ r h => by simp [impl_DominatorsIn.l0] at h
  | k + 1 => by
    have ih0 := impl_DominatorsIn.mono_l k
    · intro y0 y1 y2 y3
      unfold impl_DominatorsIn.l0
      repeat' first
      | (with_reducible exact ih0 _ _ _ _)
      | (with_reducible exact impl_GoodGraph.mono _ _)
      | (with_reducible exact impl_dominators.mono _ _)
      | (with_reducible exact impl_listOf.mono _ _)
      | (with_reducible exact LeO.refl _)
      | (with_reducible exact LeO.none _)
      | (with_reducible refine LeO.ite ?_ ?_)
      | (with_reducible refine LeO.bind ?_ (fun _ => ?_))
      | exact ih0 _ _ _ _
      | exact impl_GoodGraph.mono _ _
      | exact impl_dominators.mono _ _
      | exact impl_listOf.mono _ _
      | exact LeO.none _
      | refine LeO.ite ?_ ?_
      | refine LeO.bind ?_ (fun _ => ?_)
theorem impl_DominatorsIn.mono : ∀ a0 k, LeO (impl_DominatorsIn.f k a0) (impl_DominatorsIn.f (k + 1) a0) := by
  intro a0 k
  have ih0 := impl_DominatorsIn.mono_l k
  unfold impl_DominatorsIn.f
  repeat' first
      | (with_reducible exact ih0 _ _ _ _)
      | (with_reducible exact impl_GoodGraph.mono _ _)
      | (with_reducible exact impl_dominators.mono _ _)
      | (with_reducible exact impl_listOf.mono _ _)
      | (with_reducible exact LeO.refl _)
      | (with_reducible exact LeO.none _)
      | (with_reducible refine LeO.ite ?_ ?_)
      | (with_reducible refine LeO.bind ?_ (fun _ => ?_))
      | exact ih0 _ _ _ _
      | exact impl_GoodGraph.mono _ _
      | exact impl_dominators.mono _ _
      | exact impl_listOf.mono _ _
      | exact LeO.none _
      | refine LeO.ite ?_ ?_
      | refine LeO.bind ?_ (fun _ => ?_)
set_option maxHeartbeats 8000000 in
set_option maxRecDepth 100000 in
theorem impl_DominatorsIn.calls (k : Nat) (A0_0 : Option Addr) (c0_0 : Nat) (l0_0 : List (List Int)) (r1 : List (List Int)) (r2 : Bool) (w : World) (hr0_0 : Kd.C (Kd.slice 3 (Kd.int .i64)) w A0_0 l0_0.length l0_0) (hc0_0 : l0_0.length ≤ c0_0) (h : impl_DominatorsIn.f k l0_0 = some (r1, r2)) :
    Calls Try.prog 25 #[.agg #[.slice A0_0 l0_0.length c0_0]] w fun e w' => ∃ v0_ : Value, e = .returned (.tuple #[v0_, .bool r2]) ∧ Kd.S (Kd.slice 3 (Kd.int .i64)) 31 w' w.heap.size (fun _ => True) v0_ r1 ∧ Below w.heap.size w w' := by
  have hu27 := Try.underlying27
  have HR0_0 := Aside0.mk hr0_0
  have HC0_0 := Aside0.mk hc0_0
  clear hr0_0 hc0_0
  have HB := Aside0.mk (Below.refl w.heap.size w)
  have H : ((impl_GoodGraph.f k l0_0).bind fun t224 => (if t224 = true then (if 0 ≤ (l0_0.length : Int) then (if ((l0_0.length : Int) : Int).toNat ≤ 11728124029610 then ((impl_dominators.f k l0_0).bind fun t228 => (impl_DominatorsIn.l0 k (List.replicate ((l0_0.length : Int) : Int).toNat []) t228 (t228.length : Int) 0)) else (none)) else (none)) else (some (([] : List (List Int)), false)))) = some (r1, r2) := h
  clear h
  replace H := Option.bind_eq_some_iff.mp H
  obtain ⟨t224, A20, H⟩ := H
  replace H : (if t224 = true then (if 0 ≤ (l0_0.length : Int) then (if ((l0_0.length : Int) : Int).toNat ≤ 11728124029610 then ((impl_dominators.f k l0_0).bind fun t228 => (impl_DominatorsIn.l0 k (List.replicate ((l0_0.length : Int) : Int).toNat []) t228 (t228.length : Int) 0)) else (none)) else (none)) else (some (([] : List (List Int)), false))) = some (r1, r2) := H
  have A2 := Aside0.mk A20
  clear A20
  by_cases c3 : t224 = true
  · subst c3
    have H1 : (if 0 ≤ (l0_0.length : Int) then (if ((l0_0.length : Int) : Int).toNat ≤ 11728124029610 then ((impl_dominators.f k l0_0).bind fun t228 => (impl_DominatorsIn.l0 k (List.replicate ((l0_0.length : Int) : Int).toNat []) t228 (t228.length : Int) 0)) else (none)) else (none)) = some (r1, r2) := by rw [if_pos rfl] at H; exact H
    clear H
    have H := H1
    clear H1
    by_cases c4 : 0 ≤ (l0_0.length : Int)
    · rw [if_pos c4] at H
      have c4b0 := eq_true c4
      have c4b1 : decide (0 ≤ (l0_0.length : Int)) = true := decide_eq_true c4
      clear c4
      by_cases c5 : ((l0_0.length : Int) : Int).toNat ≤ 11728124029610
      · rw [if_pos c5] at H
        have c5b0 := eq_true c5
        have c5b1 : decide (((l0_0.length : Int) : Int).toNat ≤ 11728124029610) = true := decide_eq_true c5
        clear c5
        obtain ⟨y225, hy225⟩ : ∃ y_ : List (List Int), y_ = (List.replicate ((l0_0.length : Int) : Int).toNat []) := ⟨_, rfl⟩
        replace H : ((impl_dominators.f k l0_0).bind fun t228 => (impl_DominatorsIn.l0 k y225 t228 (t228.length : Int) 0)) = some (r1, r2) := by first | (rw [hy225]; with_reducible exact H) | (have H2_ := (Option.bind_some _ _).symm.trans H; rw [hy225]; with_reducible exact H2_) | (have H2_ := (Option.bind_some _ _).symm.trans H; with_reducible exact H2_) | with_reducible exact H | (rw [hy225]; exact H) | exact H
        have Ny225 := Aside0.mk hy225
        clear hy225
        replace H := Option.bind_eq_some_iff.mp H
        obtain ⟨t228, A60, H⟩ := H
        replace H : (impl_DominatorsIn.l0 k y225 t228 (t228.length : Int) 0) = some (r1, r2) := H
        have A6 := Aside0.mk A60
        clear A60
        have H' := Aside0.mk H
        clear H
        go_enter Try.func25, Try.ntmps25
        go_wp2_with (first | ((with_reducible refine gate_dst (N := 1) rfl ?_); refine box_event ?hg (N := 1) ?hd (cs := #[.slice A0_0 l0_0.length c0_0]) (t := 27) ?hr ?_; (case hd => rfl); (case hg => rfl); (case hr => first | (go_simp; done) | (go_simp; rfl)); intro gb223 hg w7 hbox hb; have n0_ := Aside0.mk (below_step (by repeat (first | (with_reducible first | exact HB.out | apply below_alloc | apply pw_below_drewN | apply below_drew1) | exact HB.out)) hb); have n1_ := Aside0.mk (hbox); have n2_ := Aside0.mk ((by rw [hg]; exact (below_size (by repeat (first | (with_reducible first | exact HB.out | apply below_alloc | apply pw_below_drewN | apply below_drew1) | exact HB.out))) : w.heap.size ≤ gb223)); have n3_ := Aside0.mk ((by rw [hg]; exact (below_size (by repeat (first | (with_reducible first | exact HB.out | apply below_alloc | apply pw_below_drewN | apply below_drew1) | exact HB.out))) : w.heap.size ≤ gb223)); clear HB; have HB := n0_; have BK223 := n1_; have GW223 := n2_; have GE223 := n3_; clear n0_ n1_ n2_ n3_; clear hb hbox hg; have hcz8_0 : w7.cell? ⟨gb223, 0, none⟩ = some (.slice A0_0 l0_0.length c0_0) := (blk_cell BK223.out 0).trans rfl; have hfz8_0 := blk_frozen BK223.out 0) | ((with_reducible refine gate_callee (f := 14) rfl ?_); refine goesL_ (some 8) rfl rfl Try.func14 (by kernel_rfl) rfl #[.agg #[.slice A0_0 l0_0.length c0_0]] rfl (by (try simp only [List.map_toArray, List.map_cons, List.map_nil]); first | done | rfl | (simp only [List.length_drop, List.length_take]; rfl)) ?_; (with_reducible refine (impl_GoodGraph.calls k _ _ l0_0 true _ ?side1 ?side2 A2.out).mono ?_); (case side1 => repeat (first | exact (Kd.C_below HR0_0.out HB.out) | (with_reducible refine Kd.C_alloc ?_ _) | (with_reducible refine Kd.C_drewN ?_ _) | (with_reducible refine Kd.C_drew ?_))); (case side2 => exact HC0_0.out); rintro e w9 ⟨rfl, hb⟩; refine ⟨_, rfl, ?_⟩; have n0_ := Aside0.mk (blk_below (g := gb223) (o := .cells #[.slice A0_0 l0_0.length c0_0] 27 (0, 0)) (by (with_reducible repeat (first | refine blk_drewN ?_ _ | refine blk_drew ?_ | refine blk_alloc ?_ _)); exact BK223.out) hb); have n1_ := Aside0.mk (below_step (by repeat (first | (with_reducible first | exact HB.out | apply below_alloc | apply pw_below_drewN | apply below_drew1 | refine below_set ?_ GE223.out) | exact HB.out)) hb); clear BK223; clear HB; have BK223 := n0_; have HB := n1_; clear n0_ n1_; (try clear hb); (try clear hb2); (try clear hk); (try clear hi); have hcz10_0 : w9.cell? ⟨gb223, 0, none⟩ = some (.slice A0_0 l0_0.length c0_0) := (blk_cell BK223.out 0).trans rfl; have hfz10_0 := blk_frozen BK223.out 0) | ((with_reducible refine gate_dst (N := 13) rfl ?_); refine Kd.S_make (Kd.slice 3 (Kd.int .i64)) _ 31 rfl (N := 13) rfl 22 _ _ rfl (l0_0.length : Int) rfl rfl Try.underlying22 (.slice none 0 0) 24 info31 rfl (by decide) (by omega) [] (ok := fun _ => True) (okp := fun _ => True) ⟨_, rfl, Kd.R_nil _ _ _ _ _⟩ (fun _ hk => hk) trivial (of_decide_eq_true (by first | (with_reducible assumption) | assumption)) (Nat.le_trans (Nat.mul_le_mul_right _ (of_decide_eq_true (by first | (with_reducible assumption) | assumption) : (l0_0.length : Int).toNat ≤ 11728124029610)) (by omega)) (Below.refl _ _) (Nat.le_refl _) ?_; intro v226 w11 ho12 hb hg_ hnew_; clear hg_ hnew_; (first | rw [← Ny225.out] at ho12 | (simp only [Int.reduceToNat] at ho12; rw [← Ny225.out] at ho12)); have n0_ := Aside0.mk (Kd.S_lower ho12 (below_size (by repeat (first | (with_reducible first | exact HB.out | apply below_alloc | apply pw_below_drewN | apply below_drew1 | refine below_set ?_ GE223.out) | exact HB.out)))); have n1_ := Aside0.mk (blk_below (g := gb223) (o := .cells #[.slice A0_0 l0_0.length c0_0] 27 (0, 0)) (by (with_reducible repeat (first | refine blk_drewN ?_ _ | refine blk_drew ?_ | refine blk_alloc ?_ _)); exact BK223.out) hb); have n2_ := Aside0.mk (below_step (by repeat (first | (with_reducible first | exact HB.out | apply below_alloc | apply pw_below_drewN | apply below_drew1 | refine below_set ?_ GE223.out) | exact HB.out)) hb); clear BK223; clear HB; have HO227 := n0_; have BK223 := n1_; have HB := n2_; clear n0_ n1_ n2_; clear hb ho12; have hcz13_0 : w11.cell? ⟨gb223, 0, none⟩ = some (.slice A0_0 l0_0.length c0_0) := (blk_cell BK223.out 0).trans rfl; have hfz13_0 := blk_frozen BK223.out 0) | ((with_reducible refine gate_callee (f := 52) rfl ?_); refine goesL_ (some 16) rfl rfl Try.func52 (by kernel_rfl) rfl #[.slice A0_0 l0_0.length c0_0] rfl (by (try simp only [List.map_toArray, List.map_cons, List.map_nil]); first | done | rfl | (simp only [List.length_drop, List.length_take]; rfl)) ?_; (with_reducible refine (impl_dominators.calls k _ _ l0_0 t228 _ ?side1 ?side2 A6.out).mono ?_); (case side1 => repeat (first | exact (Kd.C_below HR0_0.out HB.out) | (with_reducible refine Kd.C_alloc ?_ _) | (with_reducible refine Kd.C_drewN ?_ _) | (with_reducible refine Kd.C_drew ?_))); (case side2 => exact HC0_0.out); rintro e w14 ⟨v229, rfl, ho0, hb⟩; refine ⟨_, rfl, ?_⟩; have n0_ := Aside0.mk (Kd.S_below (by (with_reducible repeat (first | apply Kd.S_alloc | apply Kd.S_drewN | apply Kd.S_drew)); exact HO227.out) hb); have n1_ := Aside0.mk (Kd.S_lower ho0 (below_size (by repeat (first | (with_reducible first | exact HB.out | apply below_alloc | apply pw_below_drewN | apply below_drew1 | refine below_set ?_ GE223.out) | exact HB.out)))); have n2_ := Aside0.mk (blk_below (g := gb223) (o := .cells #[.slice A0_0 l0_0.length c0_0] 27 (0, 0)) (by (with_reducible repeat (first | refine blk_drewN ?_ _ | refine blk_drew ?_ | refine blk_alloc ?_ _)); exact BK223.out) hb); have n3_ := Aside0.mk (below_step (by repeat (first | (with_reducible first | exact HB.out | apply below_alloc | apply pw_below_drewN | apply below_drew1 | refine below_set ?_ GE223.out) | exact HB.out)) hb); clear HO227; clear BK223; clear HB; have HO227 := n0_; have HO230 := n1_; have BK223 := n2_; have HB := n3_; clear n0_ n1_ n2_ n3_; (try clear hb); (try clear hb2); (try clear hk); (try clear hi); (try clear ho0); obtain ⟨Ao15, co15, eo15⟩ := Kd.S_slice HO230.out; subst eo15))
        go_loopg [18] k (fun kq v18 w' => ∃ (x4_1 : List (List Int)) (x18_1 : Int), v18 = .int .i64 x18_1 ∧ Aside0 (impl_DominatorsIn.l0 kq x4_1 t228 (t228.length : Int) x18_1 = some (r1, r2)) ∧ Aside0 (kq ≤ k) ∧ Aside0 (Kd.S (Kd.slice 3 (Kd.int .i64)) 31 w' w.heap.size (fun _ => True) v226 x4_1) ∧ Aside0 (Kd.S (Kd.slice 4 Kd.bool) 63 w' w.heap.size (fun _ => True) (.slice Ao15 t228.length co15) t228) ∧ Aside0 (w'.heap[gb223]? = some (.cells #[(.slice A0_0 l0_0.length c0_0)] 27 (0, 0))) ∧ Aside0 (Below w.heap.size w w'))
        case atStart => exact ⟨(y225), (0), (by first | rfl | (simp; done) | (simp [*]; done)), H', ⟨Nat.le_refl _⟩, ⟨by (with_reducible repeat (first | apply Kd.S_alloc | apply Kd.S_drewN | apply Kd.S_drew)); exact HO227.out⟩, ⟨by (with_reducible repeat (first | apply Kd.S_alloc | apply Kd.S_drewN | apply Kd.S_drew)); exact HO230.out⟩, ⟨by (with_reducible repeat (first | refine blk_drewN ?_ _ | refine blk_drew ?_ | refine blk_alloc ?_ _)); exact BK223.out⟩, ⟨by repeat (first | (with_reducible first | exact HB.out | apply below_alloc | apply pw_below_drewN | apply below_drew1 | refine below_set ?_ GE223.out) | exact HB.out)⟩⟩
        case round =>
          clear H'
          try clear c1
          try clear c2
          try clear p2
          try clear c3
          try clear c4
          try clear c4b0
          try clear c4b1
          try clear c5
          try clear c5b0
          try clear c5b1
          try clear c14
          try clear hcz10_0
          try clear hcz13_0
          try clear hcz8_0
          try clear hfz10_0
          try clear hfz13_0
          try clear hfz8_0
          obtain ⟨x4_1, x18_1, rfl, HA, HK1, HO_4, HO_16, BK223, HB⟩ := hrel
          cases gk with
          | zero => exact absurd HA.out (by simp [impl_DominatorsIn.l0])
          | succ k1 =>
            have H := HA.out
            clear HA
            simp only [impl_DominatorsIn.l0] at H
            by_cases c16 : x18_1 < (t228.length : Int)
            · rw [if_pos c16] at H
              have c16b0 : decide (x18_1 < (t228.length : Int)) = true := decide_eq_true c16
              clear c16
              by_cases c17 : 0 ≤ x18_1
              · rw [if_pos c17] at H
                have c17b0 : decide (0 ≤ x18_1) = true := decide_eq_true c17
                clear c17
                by_cases c18 : x18_1 < (t228.length : Int)
                · rw [if_pos c18] at H
                  have c18b0 : decide (x18_1 < (t228.length : Int)) = true := decide_eq_true c18
                  clear c18
                  replace H := Option.bind_eq_some_iff.mp H
                  obtain ⟨t232, A190, H⟩ := H
                  replace H : (if x18_1 < (x4_1.length : Int) then (impl_DominatorsIn.l0 k1 (x4_1.set (x18_1 : Int).toNat t232) t228 (t228.length : Int) (wrap64 (x18_1 + 1))) else (none)) = some (r1, r2) := H
                  have A19 := Aside0.mk A190
                  clear A190
                  by_cases c20 : x18_1 < (x4_1.length : Int)
                  · rw [if_pos c20] at H
                    have c20b0 : decide (x18_1 < (x4_1.length : Int)) = true := decide_eq_true c20
                    clear c20
                    obtain ⟨y235, hy235⟩ : ∃ y_ : List (List Int), y_ = (x4_1.set (x18_1 : Int).toNat t232) := ⟨_, rfl⟩
                    replace H : (impl_DominatorsIn.l0 k1 y235 t228 (t228.length : Int) (wrap64 (x18_1 + 1))) = some (r1, r2) := by first | (rw [hy235]; with_reducible exact H) | (have H2_ := (Option.bind_some _ _).symm.trans H; rw [hy235]; with_reducible exact H2_) | (have H2_ := (Option.bind_some _ _).symm.trans H; with_reducible exact H2_) | with_reducible exact H | (rw [hy235]; exact H) | exact H
                    have Ny235 := Aside0.mk hy235
                    clear hy235
                    have H' := Aside0.mk H
                    clear H
                    have p231 : 0 ≤ (x18_1 : Int) := of_decide_eq_true (by first | (with_reducible assumption) | assumption)
                    have q231 : x18_1 < (t228.length : Int) := of_decide_eq_true (by first | (with_reducible assumption) | assumption)
                    obtain ⟨ad231, A231_0, c231_0, e231, hx231_0, hl231_0, hi231_0⟩ := at_L5 (Kd.S_reads' HO_16.out).2.2 x18_1 p231 q231
                    cases e231
                    obtain ⟨ce231, hce231, hMe231, hcc231⟩ := Kd.S_get HO_16.out [] x18_1 p231 (by first | exact q231 | exact of_decide_eq_true (by first | (with_reducible assumption) | assumption) | (have e_ := (Kd.S_reads' HO_16.out).1; omega))
                    obtain ⟨ve231_0, rfl, ge231_0⟩ := hMe231
                    have hv231_0 := hcc231 0 _ rfl
                    rw [Nat.add_zero, show ((Kd.slice 4 Kd.bool)).sz = 1 from rfl, Nat.mul_one] at hv231_0
                    replace hv231_0 := Option.some.inj (hv231_0.symm.trans hx231_0)
                    rw [hv231_0] at ge231_0
                    have HL231_0 := Aside0.mk (show Kd.R Kd.bool 4 _ _ _ _ (rd_L5 t228 x18_1) from ge231_0)
                    clear hv231_0 ge231_0
                    clear hcc231 hce231
                    have HR231_0 := Aside0.mk hi231_0
                    have HC231_0 := Aside0.mk hl231_0
                    clear hi231_0 hl231_0
                    replace p231 := eq_true p231
                    replace q231 := eq_true q231
                    go_wp2_with (first | ((with_reducible refine gate_callee (f := 53) rfl ?_); refine goesL_ (some 26) rfl rfl Try.func53 (by kernel_rfl) rfl #[.slice A231_0 (rd_L5 t228 x18_1).length c231_0] rfl (by (try simp only [List.map_toArray, List.map_cons, List.map_nil]); first | done | rfl | (simp only [List.length_drop, List.length_take]; rfl)) ?_; (with_reducible refine (impl_listOf.calls k1 _ _ (rd_L5 t228 x18_1) t232 _ ?side1 ?side2 A19.out).mono ?_); (case side1 => repeat (first | exact (by repeat (first | (with_reducible exact HR231_0.out) | (with_reducible refine Kd.C_alloc ?_ _) | (with_reducible refine Kd.C_drewN ?_ _) | (with_reducible refine Kd.C_drew ?_) | exact HR231_0.out)) | (with_reducible refine Kd.C_alloc ?_ _) | (with_reducible refine Kd.C_drewN ?_ _) | (with_reducible refine Kd.C_drew ?_))); (case side2 => exact HC231_0.out); rintro e w22 ⟨v233, rfl, ho0, hb⟩; refine ⟨_, rfl, ?_⟩; have n0_ := Aside0.mk (Kd.S_elder' (by (with_reducible repeat (first | apply Kd.S_alloc | apply Kd.S_drewN | apply Kd.S_drew)); exact HO_4.out) (Kd.R_base ho0) hb); have n1_ := Aside0.mk (Kd.S_below (by (with_reducible repeat (first | apply Kd.S_alloc | apply Kd.S_drewN | apply Kd.S_drew)); exact HO_16.out) hb); have n2_ := Aside0.mk (Kd.R_below (by (with_reducible repeat (first | apply Kd.R_alloc | apply Kd.R_drewN | apply Kd.R_drew)); exact HL231_0.out) hb); have n3_ := Aside0.mk (Kd.R_lower ho0 (below_size (by repeat (first | (with_reducible first | exact HB.out | apply below_alloc | apply pw_below_drewN | apply below_drew1 | refine below_set ?_ GE223.out) | exact HB.out)))); have n4_ := Aside0.mk (blk_below (g := gb223) (o := .cells #[.slice A0_0 l0_0.length c0_0] 27 (0, 0)) (by (with_reducible repeat (first | refine blk_drewN ?_ _ | refine blk_drew ?_ | refine blk_alloc ?_ _)); exact BK223.out) hb); have n5_ := Aside0.mk (Kd.C_below (by repeat (first | (with_reducible exact HR231_0.out) | (with_reducible refine Kd.C_alloc ?_ _) | (with_reducible refine Kd.C_drewN ?_ _) | (with_reducible refine Kd.C_drew ?_) | exact HR231_0.out)) hb); have n6_ := Aside0.mk (below_step (by repeat (first | (with_reducible first | exact HB.out | apply below_alloc | apply pw_below_drewN | apply below_drew1 | refine below_set ?_ GE223.out) | exact HB.out)) hb); clear HO_4; clear HO_16; clear HL231_0; clear BK223; clear HR231_0; clear HB; have HO_4 := n0_; have HO_16 := n1_; have HL231_0 := n2_; have HO234 := n3_; have BK223 := n4_; have HR231_0 := n5_; have HB := n6_; clear n0_ n1_ n2_ n3_ n4_ n5_ n6_; (try clear hb); (try clear hb2); (try clear hk); (try clear hi); (try clear ho0); have p21 : 0 ≤ (x18_1 : Int) := of_decide_eq_true (by first | (with_reducible assumption) | assumption); have q21 : (x18_1 : Int) < ((x4_1.length : Int) : Int) := of_decide_eq_true (by first | (with_reducible assumption) | assumption); obtain ⟨go21, co21, eo21, gb21, gl21, cl21, HG21⟩ := Kd.S_form HO_4.out (by omega); (first | cases eo21 | (injection eo21 with ea_ en_ ec_; (first | subst ea_ | (injection ea_ with ea_; subst ea_)); subst ec_; clear en_)); have GB21 := Aside0.mk gb21; have GG21 := Aside0.mk HG21; clear gb21 gl21 HG21; obtain ⟨_, ce21, hcl21, hM21, hcc21, hfr21, _, _⟩ := Kd.S_elem HO_4.out [] (x18_1 : Int) p21 q21; obtain ⟨ve21_0, rfl, ge21_0⟩ := hM21; have hx21_0 := hcc21 0 _ rfl; have hf21_0 := hfr21 0; (try simp only [show ((Kd.slice 3 (Kd.int .i64))).sz = 1 from rfl, Nat.mul_one, Nat.add_zero] at hx21_0); (try simp only [show ((Kd.slice 3 (Kd.int .i64))).sz = 1 from rfl, Nat.mul_one, Nat.add_zero] at hf21_0); clear hcl21 hcc21 hfr21; (try clear hM21); replace p21 := eq_true p21; replace q21 := eq_true q21; obtain ⟨Ao23, co23, eo23⟩ := Kd.R_slice HO234.out; subst eo23; have n_ := Aside0.mk (Kd.S_mono (ok' := (fun k_ => some k_ ≠ (.slice Ao23 t232.length co23 : Value).ownBlock)) HO_4.out (fun k_ hk => hk.2)); clear HO_4; have HO_4 := n_; clear n_; have HX24 := Aside0.mk (show Kd.S (Kd.slice 3 (Kd.int .i64)) 31 w22 w.heap.size (fun k_ => ((fun _ => True)) k_ ∧ ¬ ((fun k_ => some k_ = (.slice Ao23 t232.length co23 : Value).ownBlock)) k_) (.slice (some ⟨go21, 0, none⟩) x4_1.length co21) x4_1 from (by (with_reducible repeat (first | apply Kd.S_alloc | apply Kd.S_drewN | apply Kd.S_drew)); exact Kd.S_mono HO_4.out (fun k_ hk => ⟨trivial, fun e_ => hk e_⟩))); obtain ⟨oki24, ce24, hcl24, hM24, hcc24, hfr24, hoki24, hH24⟩ := Kd.S_elem HX24.out [] (x18_1 : Int) (of_decide_eq_true (by first | (with_reducible assumption) | assumption)) (by have h_ : (x18_1 : Int) < ((x4_1.length : Int) : Int) := of_decide_eq_true (by first | (with_reducible assumption) | assumption); first | exact h_ | (have e_ := (Kd.S_reads' HO_4.out).1; omega) | simpa using h_); obtain ⟨ve24_0, rfl, ge24_0⟩ := hM24; have HP24 := Kd.S_seg hH24 (of_decide_eq_true (by first | (with_reducible assumption) | assumption)) (by have h_ : (x18_1 : Int) < ((x4_1.length : Int) : Int) := of_decide_eq_true (by first | (with_reducible assumption) | assumption); first | exact h_ | (have e_ := (Kd.S_reads' HO_4.out).1; omega) | simpa using h_) (seg := [.slice Ao23 t232.length co23]) (j := 0) (show 1 ≤ 1 from by decide) (x' := t232) (Kd.M_row (Kd.R_mono (Kd.R_tight rfl (Kd.R_mono (ok' := fun k_ => ((fun _ => True)) k_ ∧ k_ ≠ go21) (Kd.R_apart' (HO234.out) (Kd.S_typed HO_4.out) (by decide)) (fun k_ hk => ⟨trivial, fun e_ => (hk.2) (by rw [e_]; rfl)⟩))) (fun _ h_ => Or.inr (h_)))) (fun _ hk => hk) (fun k_ hk_ => ((Kd.R_mono (ok' := fun k_ => ((fun _ => True)) k_ ∧ k_ ≠ go21) (Kd.R_apart' (HO234.out) (Kd.S_typed HO_4.out) (by decide)) (fun k_ hk => ⟨trivial, fun e_ => (hk.2) (by rw [e_]; rfl)⟩))).1 k_ hk_.symm); have hx24_0 := hcc24 0 _ rfl; (try simp only [show ((Kd.slice 3 (Kd.int .i64))).sz = 1 from rfl, Nat.mul_one, Nat.add_zero] at hx24_0); have hf24_0 := hfr24 0; (try simp only [show ((Kd.slice 3 (Kd.int .i64))).sz = 1 from rfl, Nat.mul_one, Nat.add_zero] at hf24_0); clear hcl24 hcc24 hfr24; (try clear hM24); clear hoki24 hH24; (try simp only [show ((Kd.slice 3 (Kd.int .i64))).sz = 1 from rfl, Nat.mul_one, Nat.add_zero] at HP24)) | ((with_reducible refine gate_store (t := 31) (p := 27) rfl ?_); refine store_event (t := 31) (p := 27) (v := ?vo_w25) (w1 := (w22.setCell ⟨go21, (x18_1 : Int).toNat, none⟩ (.slice Ao23 t232.length co23))) ?hg ?ho ?hn ?hr ?_; (case ho => rfl); (case hg => rfl); (case hn => rfl); (case hr => first | (go_simp; done) | (go_simp; rfl)); intro w25 hw; have hg : w22.grownBy w25 (some go21) := (by rw [hw]; exact HP24.2); have hp_ : Kd.S (Kd.slice 3 (Kd.int .i64)) 31 w25 w.heap.size (fun _ => True) (.slice (some ⟨go21, 0, none⟩) x4_1.length co21) y235 := (by rw [hw, Ny235.out]; exact HP24.1); clear HP24; have n0_ := Aside0.mk (hp_); have n1_ := Aside0.mk (Kd.S_over' (v := (.slice (some ⟨go21, 0, none⟩) x4_1.length co21)) (by (with_reducible repeat (first | apply Kd.S_alloc | apply Kd.S_drewN | apply Kd.S_drew)); exact HO_16.out) (Kd.S_typed HO_4.out) (by decide) hg); have n2_ := Aside0.mk (blk_grown (g := gb223) (o := .cells #[.slice A0_0 l0_0.length c0_0] 27 (0, 0)) (by (with_reducible repeat (first | refine blk_drewN ?_ _ | refine blk_drew ?_ | refine blk_alloc ?_ _)); exact BK223.out) hg (Kd.S_ne HO_4.out BK223.out (by decide))); have n3_ := Aside0.mk (Kd.R_over' (v := (.slice (some ⟨go21, 0, none⟩) x4_1.length co21)) (by (with_reducible repeat (first | apply Kd.R_alloc | apply Kd.R_drewN | apply Kd.R_drew)); exact HL231_0.out) (Kd.S_typed HO_4.out) (by decide) hg); have n4_ := Aside0.mk ((by rw [hw]; exact below_set (HB.out) GB21.out : Below w.heap.size w w25)); clear HO_4; clear HO_16; clear BK223; clear HL231_0; clear HB; clear HO234; have HO_4 := n0_; have HO_16 := n1_; have BK223 := n2_; have HL231_0 := n3_; have HB := n4_; clear n0_ n1_ n2_ n3_ n4_; clear hg hw hp_))
                    go_roundg k1
                    case measure => have := HK1.out; omega
                    case rel => exact ⟨(y235), (wrap64 (x18_1 + 1)), (by first | rfl | (simp; done) | (simp [*]; done)), H', ⟨by have := HK1.out; omega⟩, ⟨by (with_reducible repeat (first | apply Kd.S_alloc | apply Kd.S_drewN | apply Kd.S_drew)); exact HO_4.out⟩, ⟨by (with_reducible repeat (first | apply Kd.S_alloc | apply Kd.S_drewN | apply Kd.S_drew)); exact HO_16.out⟩, ⟨by (with_reducible repeat (first | refine blk_drewN ?_ _ | refine blk_drew ?_ | refine blk_alloc ?_ _)); exact BK223.out⟩, ⟨by repeat (first | (with_reducible first | exact HB.out | apply below_alloc | apply pw_below_drewN | apply below_drew1 | refine below_set ?_ GE223.out) | exact HB.out)⟩⟩
                  · rw [if_neg c20] at H
                    exact absurd H (by simp)
                · rw [if_neg c18] at H
                  exact absurd H (by simp)
              · rw [if_neg c17] at H
                exact absurd H (by simp)
            · rw [if_neg c16] at H
              have c16b0 : decide (x18_1 < (t228.length : Int)) = false := decide_eq_false c16
              clear c16
              simp only [Option.some.injEq, Prod.mk.injEq] at H
              obtain ⟨rfl, rfl⟩ := H
              go_wp2
              go_ret2
              exact ⟨_, by first | rfl | (simp [errW_none, errW_some] <;> rfl) | (simp [*, errW_none, errW_some] <;> rfl), by (with_reducible repeat (first | apply Kd.S_alloc | apply Kd.S_drewN | apply Kd.S_drew)); exact HO_4.out, by repeat (first | (with_reducible first | exact HB.out | apply below_alloc | apply pw_below_drewN | apply below_drew1 | refine below_set ?_ GE223.out) | exact HB.out)⟩
      · rw [if_neg c5] at H
        exact absurd H (by simp)
    · rw [if_neg c4] at H
      exact absurd H (by simp)
  · replace c3 := Bool.eq_false_iff.mpr c3
    subst c3
    have H1 : (some (([] : List (List Int)), false)) = some (r1, r2) := by rw [if_neg (show ¬ (false = true) by decide)] at H; exact H
    clear H
    have H := H1
    clear H1
    simp only [Option.some.injEq, Prod.mk.injEq] at H
    obtain ⟨rfl, rfl⟩ := H
    go_enter Try.func25, Try.ntmps25
    go_wp2_with (first | ((with_reducible refine gate_dst (N := 1) rfl ?_); refine box_event ?hg (N := 1) ?hd (cs := #[.slice A0_0 l0_0.length c0_0]) (t := 27) ?hr ?_; (case hd => rfl); (case hg => rfl); (case hr => first | (go_simp; done) | (go_simp; rfl)); intro gb223 hg w26 hbox hb; have n0_ := Aside0.mk (below_step (by repeat (first | (with_reducible first | exact HB.out | apply below_alloc | apply pw_below_drewN | apply below_drew1) | exact HB.out)) hb); have n1_ := Aside0.mk (hbox); have n2_ := Aside0.mk ((by rw [hg]; exact (below_size (by repeat (first | (with_reducible first | exact HB.out | apply below_alloc | apply pw_below_drewN | apply below_drew1) | exact HB.out))) : w.heap.size ≤ gb223)); have n3_ := Aside0.mk ((by rw [hg]; exact (below_size (by repeat (first | (with_reducible first | exact HB.out | apply below_alloc | apply pw_below_drewN | apply below_drew1) | exact HB.out))) : w.heap.size ≤ gb223)); clear HB; have HB := n0_; have BK223 := n1_; have GW223 := n2_; have GE223 := n3_; clear n0_ n1_ n2_ n3_; clear hb hbox hg; have hcz27_0 : w26.cell? ⟨gb223, 0, none⟩ = some (.slice A0_0 l0_0.length c0_0) := (blk_cell BK223.out 0).trans rfl; have hfz27_0 := blk_frozen BK223.out 0) | ((with_reducible refine gate_callee (f := 14) rfl ?_); refine goesL_ (some 8) rfl rfl Try.func14 (by kernel_rfl) rfl #[.agg #[.slice A0_0 l0_0.length c0_0]] rfl (by (try simp only [List.map_toArray, List.map_cons, List.map_nil]); first | done | rfl | (simp only [List.length_drop, List.length_take]; rfl)) ?_; (with_reducible refine (impl_GoodGraph.calls k _ _ l0_0 false _ ?side1 ?side2 A2.out).mono ?_); (case side1 => repeat (first | exact (Kd.C_below HR0_0.out HB.out) | (with_reducible refine Kd.C_alloc ?_ _) | (with_reducible refine Kd.C_drewN ?_ _) | (with_reducible refine Kd.C_drew ?_))); (case side2 => exact HC0_0.out); rintro e w28 ⟨rfl, hb⟩; refine ⟨_, rfl, ?_⟩; have n0_ := Aside0.mk (blk_below (g := gb223) (o := .cells #[.slice A0_0 l0_0.length c0_0] 27 (0, 0)) (by (with_reducible repeat (first | refine blk_drewN ?_ _ | refine blk_drew ?_ | refine blk_alloc ?_ _)); exact BK223.out) hb); have n1_ := Aside0.mk (below_step (by repeat (first | (with_reducible first | exact HB.out | apply below_alloc | apply pw_below_drewN | apply below_drew1 | refine below_set ?_ GE223.out) | exact HB.out)) hb); clear BK223; clear HB; have BK223 := n0_; have HB := n1_; clear n0_ n1_; (try clear hb); (try clear hb2); (try clear hk); (try clear hi)))
    go_ret2
    exact ⟨_, by first | rfl | (simp [errW_none, errW_some] <;> rfl) | (simp [*, errW_none, errW_some] <;> rfl), by first | exact Kd.S_nil _ _ _ _ _ | exact Kd.N_nil _ _ _ _ _ | exact Kd.V_nil _ _ _ _ _ | exact Kd.Q_nil _ _ _ _ _ | exact Kd.R_nil _ _ _ _ _, by repeat (first | (with_reducible first | exact HB.out | apply below_alloc | apply pw_below_drewN | apply below_drew1 | refine below_set ?_ GE223.out) | exact HB.out)⟩

/-! ### spec_l7Back: function 57 -/
mutual
def spec_l7Back.l0 : Nat → List (List Int) → List (List Int) → List (List Int) → Int → Int → Option ((List (List Int)))
  | 0, _, _, _, _, _ => none
  | k + 1, x1, x5, x11, x12, x13 => if x13 < x12 then (if 0 ≤ x13 then (if x13 < (x11.length : Int) then (spec_l7Back.l1 k x1 x5 x13 x11 x12 x13 (rd_L1 x11 x13) ((rd_L1 x11 x13).length : Int) 0) else (none)) else (none)) else (some x5)
def spec_l7Back.l1 : Nat → List (List Int) → List (List Int) → Int → List (List Int) → Int → Int → List Int → Int → Int → Option ((List (List Int)))
  | 0, _, _, _, _, _, _, _, _, _ => none
  | k + 1, x1, x5, x6, x11, x12, x13, x18, x19, x20 => if x20 < x19 then (if 0 ≤ x20 then (if x20 < (x18.length : Int) then (if 0 ≤ x6 then (if x6 < (x1.length : Int) then ((spec_l1Has.f k (rd_L1 x1 x6) (rd x18 x20)).bind fun t240 => (if t240 = true then (if x5.length < 5864062014805 then (spec_l7Back.l1 k x1 (x5 ++ [(([x6, rd x18 x20] : List Int))]) x6 x11 x12 x13 x18 x19 (wrap64 (x20 + 1))) else (none)) else (spec_l7Back.l1 k x1 x5 x6 x11 x12 x13 x18 x19 (wrap64 (x20 + 1))))) else (none)) else (none)) else (none)) else (none)) else (spec_l7Back.l0 k x1 x5 x11 x12 (wrap64 (x13 + 1)))
end
def spec_l7Back.f (k : Nat) (l0_0 : List (List Int)) (l1 : List (List Int)) : Option ((List (List Int))) := spec_l7Back.l0 k l1 ([] : List (List Int)) l0_0 (l0_0.length : Int) 0
theorem spec_l7Back.mono_l : ∀ k, (∀ y0 y1 y2 y3 y4, LeO (spec_l7Back.l0 k y0 y1 y2 y3 y4) (spec_l7Back.l0 (k + 1) y0 y1 y2 y3 y4)) ∧ (∀ y0 y1 y2 y3 y4 y5 y6 y7 y8, LeO (spec_l7Back.l1 k y0 y1 y2 y3 y4 y5 y6 y7 y8) (spec_l7Back.l1 (k + 1) y0 y1 y2 y3 y4 y5 y6 y7 y8))
  | 0 => ⟨fun _ _ _ _ _ r h => by simp [spec_l7Back.l0] at h, fun _ _ _ _ _ _ _ _ _ r h => by simp [spec_l7Back.l1] at h⟩
  | k + 1 => by
    obtain ⟨ih0, ih1⟩ := spec_l7Back.mono_l k
    refine ⟨?_, ?_⟩
    · intro y0 y1 y2 y3 y4
      unfold spec_l7Back.l0
      repeat' first
      | (with_reducible exact ih0 _ _ _ _ _)
      | (with_reducible exact ih1 _ _ _ _ _ _ _ _ _)
      | (with_reducible exact spec_l1Has.mono _ _ _)
      | (with_reducible exact LeO.refl _)
      | (with_reducible exact LeO.none _)
      | (with_reducible refine LeO.ite ?_ ?_)
      | (with_reducible refine LeO.bind ?_ (fun _ => ?_))
      | exact ih0 _ _ _ _ _
      | exact ih1 _ _ _ _ _ _ _ _ _
      | exact spec_l1Has.mono _ _ _
      | exact LeO.none _
      | refine LeO.ite ?_ ?_
      | refine LeO.bind ?_ (fun _ => ?_)
    · intro y0 y1 y2 y3 y4 y5 y6 y7 y8
      unfold spec_l7Back.l1
      repeat' first
      | (with_reducible exact ih0 _ _ _ _ _)
      | (with_reducible exact ih1 _ _ _ _ _ _ _ _ _)
      | (with_reducible exact spec_l1Has.mono _ _ _)
      | (with_reducible exact LeO.refl _)
      | (with_reducible exact LeO.none _)
      | (with_reducible refine LeO.ite ?_ ?_)
      | (with_reducible refine LeO.bind ?_ (fun _ => ?_))
      | exact ih0 _ _ _ _ _
      | exact ih1 _ _ _ _ _ _ _ _ _
      | exact spec_l1Has.mono _ _ _
      | exact LeO.none _
      | refine LeO.ite ?_ ?_
      | refine LeO.bind ?_ (fun _ => ?_)
theorem spec_l7Back.mono : ∀ a0 a1 k, LeO (spec_l7Back.f k a0 a1) (spec_l7Back.f (k + 1) a0 a1) := by
  intro a0 a1 k
  obtain ⟨ih0, ih1⟩ := spec_l7Back.mono_l k
  unfold spec_l7Back.f
  repeat' first
      | (with_reducible exact ih0 _ _ _ _ _)
      | (with_reducible exact ih1 _ _ _ _ _ _ _ _ _)
      | (with_reducible exact spec_l1Has.mono _ _ _)
      | (with_reducible exact LeO.refl _)
      | (with_reducible exact LeO.none _)
      | (with_reducible refine LeO.ite ?_ ?_)
      | (with_reducible refine LeO.bind ?_ (fun _ => ?_))
      | exact ih0 _ _ _ _ _
      | exact ih1 _ _ _ _ _ _ _ _ _
      | exact spec_l1Has.mono _ _ _
      | exact LeO.none _
      | refine LeO.ite ?_ ?_
      | refine LeO.bind ?_ (fun _ => ?_)
set_option maxHeartbeats 8000000 in
set_option maxRecDepth 100000 in
theorem spec_l7Back.calls (k : Nat) (A0_0 : Option Addr) (c0_0 : Nat) (l0_0 : List (List Int)) (A1 : Option Addr) (c1 : Nat) (l1 : List (List Int)) (r : List (List Int)) (w : World) (hr0_0 : Kd.C (Kd.slice 3 (Kd.int .i64)) w A0_0 l0_0.length l0_0) (hc0_0 : l0_0.length ≤ c0_0) (hr1 : Kd.C (Kd.slice 3 (Kd.int .i64)) w A1 l1.length l1) (hc1 : l1.length ≤ c1) (h : spec_l7Back.f k l0_0 l1 = some r) :
    Calls Try.prog 57 #[.agg #[.slice A0_0 l0_0.length c0_0], .slice A1 l1.length c1] w fun e w' => ∃ v0_ : Value, e = .returned (v0_) ∧ Kd.S (Kd.slice 3 (Kd.int .i64)) 31 w' w.heap.size (fun _ => True) v0_ r ∧ Below w.heap.size w w' := by
  have hu27 := Try.underlying27
  have HR0_0 := Aside0.mk hr0_0
  have HC0_0 := Aside0.mk hc0_0
  clear hr0_0 hc0_0
  have HR1 := Aside0.mk hr1
  have HC1 := Aside0.mk hc1
  clear hr1 hc1
  have HB := Aside0.mk (Below.refl w.heap.size w)
  have H : (spec_l7Back.l0 k l1 ([] : List (List Int)) l0_0 (l0_0.length : Int) 0) = some r := h
  clear h
  have H' := Aside0.mk H
  clear H
  go_enter Try.func57, Try.ntmps57
  go_wp2_with (first | ((with_reducible refine gate_dst (N := 2) rfl ?_); refine box_event ?hg (N := 2) ?hd (cs := #[.slice A0_0 l0_0.length c0_0]) (t := 27) ?hr ?_; (case hd => rfl); (case hg => rfl); (case hr => first | (go_simp; done) | (go_simp; rfl)); intro gb236 hg w3 hbox hb; have n0_ := Aside0.mk (below_step (by repeat (first | (with_reducible first | exact HB.out | apply below_alloc | apply pw_below_drewN | apply below_drew1) | exact HB.out)) hb); have n1_ := Aside0.mk (hbox); have n2_ := Aside0.mk ((by rw [hg]; exact (below_size (by repeat (first | (with_reducible first | exact HB.out | apply below_alloc | apply pw_below_drewN | apply below_drew1) | exact HB.out))) : w.heap.size ≤ gb236)); have n3_ := Aside0.mk ((by rw [hg]; exact (below_size (by repeat (first | (with_reducible first | exact HB.out | apply below_alloc | apply pw_below_drewN | apply below_drew1) | exact HB.out))) : w.heap.size ≤ gb236)); clear HB; have HB := n0_; have BK236 := n1_; have GW236 := n2_; have GE236 := n3_; clear n0_ n1_ n2_ n3_; clear hb hbox hg; have hcz4_0 : w3.cell? ⟨gb236, 0, none⟩ = some (.slice A0_0 l0_0.length c0_0) := (blk_cell BK236.out 0).trans rfl; have hfz4_0 := blk_frozen BK236.out 0))
  go_loopg [5, 13] k (fun kq v5 v13 w' => ∃ (x5_1 : List (List Int)) (x13_1 : Int), v13 = .int .i64 x13_1 ∧ Aside0 (spec_l7Back.l0 kq l1 x5_1 l0_0 (l0_0.length : Int) x13_1 = some r) ∧ Aside0 (kq ≤ k) ∧ Aside0 (Kd.S (Kd.slice 3 (Kd.int .i64)) 31 w' w.heap.size (fun _ => True) v5 x5_1) ∧ Aside0 (w'.heap[gb236]? = some (.cells #[(.slice A0_0 l0_0.length c0_0)] 27 (0, 0))) ∧ Aside0 (Below w.heap.size w w'))
  case atStart => exact ⟨(([] : List (List Int))), (0), (by first | rfl | (simp; done) | (simp [*]; done)), H', ⟨Nat.le_refl _⟩, ⟨by first | exact Kd.S_nil _ _ _ _ _ | exact Kd.N_nil _ _ _ _ _ | exact Kd.V_nil _ _ _ _ _ | exact Kd.Q_nil _ _ _ _ _ | exact Kd.R_nil _ _ _ _ _⟩, ⟨by (with_reducible repeat (first | refine blk_drewN ?_ _ | refine blk_drew ?_ | refine blk_alloc ?_ _)); exact BK236.out⟩, ⟨by repeat (first | (with_reducible first | exact HB.out | apply below_alloc | apply pw_below_drewN | apply below_drew1 | refine below_set ?_ GE236.out) | exact HB.out)⟩⟩
  case round =>
    clear H'
    try clear c1
    try clear p2
    try clear hcz4_0
    try clear hfz4_0
    obtain ⟨x5_1, x13_1, rfl, HA, HK1, HO_5, BK236, HB⟩ := hrel
    cases gk with
    | zero => exact absurd HA.out (by simp [spec_l7Back.l0])
    | succ k1 =>
      have H := HA.out
      clear HA
      simp only [spec_l7Back.l0] at H
      by_cases c5 : x13_1 < (l0_0.length : Int)
      · rw [if_pos c5] at H
        have c5b0 : decide (x13_1 < (l0_0.length : Int)) = true := decide_eq_true c5
        clear c5
        by_cases c6 : 0 ≤ x13_1
        · rw [if_pos c6] at H
          have c6b0 : decide (0 ≤ x13_1) = true := decide_eq_true c6
          clear c6
          by_cases c7 : x13_1 < (l0_0.length : Int)
          · rw [if_pos c7] at H
            have c7b0 : decide (x13_1 < (l0_0.length : Int)) = true := decide_eq_true c7
            clear c7
            have H' := Aside0.mk H
            clear H
            have p237 : 0 ≤ (x13_1 : Int) := of_decide_eq_true (by first | (with_reducible assumption) | assumption)
            have q237 : x13_1 < (l0_0.length : Int) := of_decide_eq_true (by first | (with_reducible assumption) | assumption)
            obtain ⟨ad237, A237_0, c237_0, e237, hx237_0, hl237_0, hi237_0⟩ := at_L1 HR0_0.out x13_1 p237 q237
            cases e237
            replace hx237_0 := (HB.out.cell (World.block_lt_of_cell? w _ hx237_0)).trans hx237_0
            have HR237_0 := Aside0.mk hi237_0
            have HC237_0 := Aside0.mk hl237_0
            clear hi237_0 hl237_0
            replace p237 := eq_true p237
            replace q237 := eq_true q237
            go_wp2
            go_loopg [5, 20] k1 (fun kq v5 v20 w' => ∃ (x5_2 : List (List Int)) (x20_2 : Int), v20 = .int .i64 x20_2 ∧ Aside0 (spec_l7Back.l1 kq l1 x5_2 x13_1 l0_0 (l0_0.length : Int) x13_1 (rd_L1 l0_0 x13_1) ((rd_L1 l0_0 x13_1).length : Int) x20_2 = some r) ∧ Aside0 (kq ≤ k1) ∧ Aside0 (Kd.S (Kd.slice 3 (Kd.int .i64)) 31 w' w.heap.size (fun _ => True) v5 x5_2) ∧ Aside0 (w'.heap[gb236]? = some (.cells #[(.slice (some ad237) l0_0.length c0_0)] 27 (0, 0))) ∧ Aside0 (Below w.heap.size w w'))
            case atStart => exact ⟨(x5_1), (0), (by first | rfl | (simp; done) | (simp [*]; done)), H', ⟨Nat.le_refl _⟩, ⟨by (with_reducible repeat (first | apply Kd.S_alloc | apply Kd.S_drewN | apply Kd.S_drew)); exact HO_5.out⟩, ⟨by (with_reducible repeat (first | refine blk_drewN ?_ _ | refine blk_drew ?_ | refine blk_alloc ?_ _)); exact BK236.out⟩, ⟨by repeat (first | (with_reducible first | exact HB.out | apply below_alloc | apply pw_below_drewN | apply below_drew1 | refine below_set ?_ GE236.out) | exact HB.out)⟩⟩
            case round =>
              clear H'
              try clear c1
              try clear c2
              try clear p2
              try clear q2
              try clear hx2
              try clear c5
              try clear c5b0
              try clear c6
              try clear c6b0
              try clear c7
              try clear c7b0
              try clear hcz4_0
              try clear hfz4_0
              try clear hx237_0
              try clear p2
              try clear p237
              try clear q237
              obtain ⟨x5_2, x20_2, rfl, HA, HK2, HO_5, BK236, HB⟩ := hrel
              cases gk with
              | zero => exact absurd HA.out (by simp [spec_l7Back.l1])
              | succ k2 =>
                have H := HA.out
                clear HA
                simp only [spec_l7Back.l1] at H
                by_cases c8 : x20_2 < ((rd_L1 l0_0 x13_1).length : Int)
                · rw [if_pos c8] at H
                  have c8b0 : decide (x20_2 < ((rd_L1 l0_0 x13_1).length : Int)) = true := decide_eq_true c8
                  clear c8
                  by_cases c9 : 0 ≤ x20_2
                  · rw [if_pos c9] at H
                    have c9b0 : decide (0 ≤ x20_2) = true := decide_eq_true c9
                    clear c9
                    by_cases c10 : x20_2 < ((rd_L1 l0_0 x13_1).length : Int)
                    · rw [if_pos c10] at H
                      have c10b0 : decide (x20_2 < ((rd_L1 l0_0 x13_1).length : Int)) = true := decide_eq_true c10
                      clear c10
                      by_cases c11 : 0 ≤ x13_1
                      · rw [if_pos c11] at H
                        have c11b0 : decide (0 ≤ x13_1) = true := decide_eq_true c11
                        clear c11
                        by_cases c12 : x13_1 < (l1.length : Int)
                        · rw [if_pos c12] at H
                          have c12b0 : decide (x13_1 < (l1.length : Int)) = true := decide_eq_true c12
                          clear c12
                          replace H := Option.bind_eq_some_iff.mp H
                          obtain ⟨t240, A130, H⟩ := H
                          replace H : (if t240 = true then (if x5_2.length < 5864062014805 then (spec_l7Back.l1 k2 l1 (x5_2 ++ [(([x13_1, rd (rd_L1 l0_0 x13_1) x20_2] : List Int))]) x13_1 l0_0 (l0_0.length : Int) x13_1 (rd_L1 l0_0 x13_1) ((rd_L1 l0_0 x13_1).length : Int) (wrap64 (x20_2 + 1))) else (none)) else (spec_l7Back.l1 k2 l1 x5_2 x13_1 l0_0 (l0_0.length : Int) x13_1 (rd_L1 l0_0 x13_1) ((rd_L1 l0_0 x13_1).length : Int) (wrap64 (x20_2 + 1)))) = some r := H
                          have A13 := Aside0.mk A130
                          clear A130
                          by_cases c14 : t240 = true
                          · subst c14
                            have H1 : (if x5_2.length < 5864062014805 then (spec_l7Back.l1 k2 l1 (x5_2 ++ [(([x13_1, rd (rd_L1 l0_0 x13_1) x20_2] : List Int))]) x13_1 l0_0 (l0_0.length : Int) x13_1 (rd_L1 l0_0 x13_1) ((rd_L1 l0_0 x13_1).length : Int) (wrap64 (x20_2 + 1))) else (none)) = some r := by rw [if_pos rfl] at H; exact H
                            clear H
                            have H := H1
                            clear H1
                            obtain ⟨y241, hy241⟩ : ∃ y_ : List Int, y_ = (([x13_1, rd (rd_L1 l0_0 x13_1) x20_2] : List Int)) := ⟨_, rfl⟩
                            replace H : (if x5_2.length < 5864062014805 then (spec_l7Back.l1 k2 l1 (x5_2 ++ [y241]) x13_1 l0_0 (l0_0.length : Int) x13_1 (rd_L1 l0_0 x13_1) ((rd_L1 l0_0 x13_1).length : Int) (wrap64 (x20_2 + 1))) else (none)) = some r := by first | (rw [hy241]; with_reducible exact H) | (have H2_ := (Option.bind_some _ _).symm.trans H; rw [hy241]; with_reducible exact H2_) | (have H2_ := (Option.bind_some _ _).symm.trans H; with_reducible exact H2_) | with_reducible exact H | (rw [hy241]; exact H) | exact H
                            have Ny241 := Aside0.mk hy241
                            clear hy241
                            by_cases c15 : x5_2.length < 5864062014805
                            · rw [if_pos c15] at H
                              have LMc15 := Aside0.mk c15
                              clear c15
                              obtain ⟨y244, hy244⟩ : ∃ y_ : List (List Int), y_ = (x5_2 ++ [y241]) := ⟨_, rfl⟩
                              replace H : (spec_l7Back.l1 k2 l1 y244 x13_1 l0_0 (l0_0.length : Int) x13_1 (rd_L1 l0_0 x13_1) ((rd_L1 l0_0 x13_1).length : Int) (wrap64 (x20_2 + 1))) = some r := by first | (rw [hy244]; with_reducible exact H) | (have H2_ := (Option.bind_some _ _).symm.trans H; rw [hy244]; with_reducible exact H2_) | (have H2_ := (Option.bind_some _ _).symm.trans H; with_reducible exact H2_) | with_reducible exact H | (rw [hy244]; exact H) | exact H
                              have Ny244 := Aside0.mk hy244
                              clear hy244
                              have H' := Aside0.mk H
                              clear H
                              have p238 : 0 ≤ (x20_2 : Int) := of_decide_eq_true (by first | (with_reducible assumption) | assumption)
                              have q238 : x20_2 < ((rd_L1 l0_0 x13_1).length : Int) := of_decide_eq_true (by first | (with_reducible assumption) | assumption)
                              obtain ⟨ad238, e238, hx238_0⟩ := Kd.at_int HR237_0.out x20_2 p238 q238
                              cases e238
                              replace hx238_0 := (HB.out.cell (World.block_lt_of_cell? w _ hx238_0)).trans hx238_0
                              replace p238 := eq_true p238
                              replace q238 := eq_true q238
                              have p239 : 0 ≤ (x13_1 : Int) := of_decide_eq_true (by first | (with_reducible assumption) | assumption)
                              have q239 : x13_1 < (l1.length : Int) := of_decide_eq_true (by first | (with_reducible assumption) | assumption)
                              obtain ⟨ad239, A239_0, c239_0, e239, hx239_0, hl239_0, hi239_0⟩ := at_L1 HR1.out x13_1 p239 q239
                              cases e239
                              replace hx239_0 := (HB.out.cell (World.block_lt_of_cell? w _ hx239_0)).trans hx239_0
                              have HR239_0 := Aside0.mk hi239_0
                              have HC239_0 := Aside0.mk hl239_0
                              clear hi239_0 hl239_0
                              replace p239 := eq_true p239
                              replace q239 := eq_true q239
                              go_wp2_with (first | ((with_reducible refine gate_callee (f := 59) rfl ?_); refine goesL_ (some 29) rfl rfl Try.func59 (by kernel_rfl) rfl #[.slice A239_0 (rd_L1 l1 x13_1).length c239_0, .int .i64 (rd (rd_L1 l0_0 x13_1) x20_2)] rfl (by (try simp only [List.map_toArray, List.map_cons, List.map_nil]); first | done | rfl | (simp only [List.length_drop, List.length_take]; rfl)) ?_; (with_reducible refine (spec_l1Has.calls k2 _ _ (rd_L1 l1 x13_1) (rd (rd_L1 l0_0 x13_1) x20_2) true _ ?side1 ?side2 A13.out).mono ?_); (case side1 => repeat (first | exact (Kd.C_below HR239_0.out HB.out) | (with_reducible refine Kd.C_alloc ?_ _) | (with_reducible refine Kd.C_drewN ?_ _) | (with_reducible refine Kd.C_drew ?_))); (case side2 => exact HC239_0.out); rintro e w' ⟨rfl, ⟨nd, rfl⟩⟩; refine ⟨_, rfl, ?_⟩) | ((with_reducible refine gate_dst (N := 33) rfl ?_); refine Kd.R_lit (Kd.int .i64) _ 3 ?hg (N := 33) ?hd (xs := ([x13_1, rd (rd_L1 l0_0 x13_1) x20_2] : List Int)) (inner := [.int .i64 x13_1, .int .i64 (rd (rd_L1 l0_0 x13_1) x20_2)]) (ok := fun _ => True) (okp := fun _ => True) ?hr ?hp (fun _ hk => hk) trivial (Below.refl _ _) (Nat.le_refl _) (by simp) ?_; (case hd => rfl); (case hg => rfl); (case hr => first | (go_simp; done) | (go_simp; rfl)); (case hp => exact (Reps.one (show Kd.M (Kd.int .i64) _ _ _ x13_1 [.int .i64 x13_1] from rfl) (Reps.one (show Kd.M (Kd.int .i64) _ _ _ (rd (rd_L1 l0_0 x13_1) x20_2) [.int .i64 (rd (rd_L1 l0_0 x13_1) x20_2)] from rfl) (Reps.none _ _)))); intro v242 w16 ho17 hb hg_ hnew_; clear hg_ hnew_; (first | rw [← Ny241.out] at ho17 | (simp only [Int.reduceToNat] at ho17; rw [← Ny241.out] at ho17)); have n0_ := Aside0.mk (Kd.S_elder' (by (with_reducible repeat (first | apply Kd.S_alloc | apply Kd.S_drewN | apply Kd.S_drew)); exact HO_5.out) (Kd.R_base ho17) hb); have n1_ := Aside0.mk (Kd.R_lower ho17 (below_size (by repeat (first | (with_reducible first | exact HB.out | apply below_alloc | apply pw_below_drewN | apply below_drew1 | refine below_set ?_ GE236.out) | exact HB.out)))); have n2_ := Aside0.mk (blk_below (g := gb236) (o := .cells #[.slice (some ad237) l0_0.length c0_0] 27 (0, 0)) (by (with_reducible repeat (first | refine blk_drewN ?_ _ | refine blk_drew ?_ | refine blk_alloc ?_ _)); exact BK236.out) hb); have n3_ := Aside0.mk (below_step (by repeat (first | (with_reducible first | exact HB.out | apply below_alloc | apply pw_below_drewN | apply below_drew1 | refine below_set ?_ GE236.out) | exact HB.out)) hb); clear HO_5; clear BK236; clear HB; have HO_5 := n0_; have HO243 := n1_; have BK236 := n2_; have HB := n3_; clear n0_ n1_ n2_ n3_; clear hb ho17; obtain ⟨Ao19, co19, eo19⟩ := Kd.R_slice HO243.out; subst eo19) | ((with_reducible refine gate_builtin (b := .append) (xs := #[.tmp 30, .tmp 34]) rfl ?_); at_builtin; refine Kd.S_append (Kd.slice 3 (Kd.int .i64)) (w0 := w) w.heap.size rfl (.tmp 30) (.tmp 34) 22 31 (.slice none 0 0) 24 rfl Try.underlying22 info31 rfl (by decide) (by omega) u5 x5_2 y241 [.slice Ao19 y241.length co19] (fun _ => True) (fun k_ => some k_ = (.slice Ao19 y241.length co19 : Value).ownBlock) rfl rfl ?aP (fun k_ hk_ => ((Kd.R_mono (ok' := fun k_ => ((fun _ => True)) k_ ∧ some k_ ≠ (u5 : Value).ownBlock) (Kd.R_apart' (HO243.out) (Kd.S_typed HO_5.out) (by decide)) (fun k_ hk => ⟨trivial, hk.2⟩))).1 k_ hk_.symm) ?aF ?aO ?aB ?aS ?aL ?_; (case aP => exact Kd.M_row (Kd.R_mono (Kd.R_tight rfl (Kd.R_mono (ok' := fun k_ => ((fun _ => True)) k_ ∧ some k_ ≠ (u5 : Value).ownBlock) (Kd.R_apart' (HO243.out) (Kd.S_typed HO_5.out) (by decide)) (fun k_ hk => ⟨trivial, hk.2⟩))) (fun _ h_ => h_))); (case aB => exact (by repeat (first | (with_reducible first | exact HB.out | apply below_alloc | apply pw_below_drewN | apply below_drew1 | refine below_set ?_ GE236.out) | exact HB.out))); (case aF => exact (fun _ _ => trivial)); (case aO => exact (by (with_reducible repeat (first | apply Kd.S_alloc | apply Kd.S_drewN | apply Kd.S_drew)); exact Kd.S_mono HO_5.out (fun k_ hk => ⟨trivial, fun e_ => hk.2 e_⟩))); (case aS => exact (below_size (by repeat (first | (with_reducible first | exact HB.out | apply below_alloc | apply pw_below_drewN | apply below_drew1 | refine below_set ?_ GE236.out) | exact HB.out)))); (case aL => have := LMc15.out; omega); intro v245 w18 ho hb hg hat; rw [← Ny244.out] at ho; have n0_ := Aside0.mk (blk_grown (g := gb236) (o := .cells #[.slice (some ad237) l0_0.length c0_0] 27 (0, 0)) (by (with_reducible repeat (first | refine blk_drewN ?_ _ | refine blk_drew ?_ | refine blk_alloc ?_ _)); exact BK236.out) hg (Kd.S_ne HO_5.out BK236.out (by decide))); have n1_ := Aside0.mk (hb); have n2_ := Aside0.mk (ho); clear BK236; clear HB; clear HO_5; clear HO243; have BK236 := n0_; have HB := n1_; have HO246 := n2_; clear n0_ n1_ n2_; clear ho hb hg hat))
                              go_roundg k2
                              case measure => have := HK1.out; have := HK2.out; omega
                              case rel => exact ⟨(y244), (wrap64 (x20_2 + 1)), (by first | rfl | (simp; done) | (simp [*]; done)), H', ⟨by have := HK1.out; have := HK2.out; omega⟩, ⟨by (with_reducible repeat (first | apply Kd.S_alloc | apply Kd.S_drewN | apply Kd.S_drew)); exact HO246.out⟩, ⟨by (with_reducible repeat (first | refine blk_drewN ?_ _ | refine blk_drew ?_ | refine blk_alloc ?_ _)); exact BK236.out⟩, ⟨by repeat (first | (with_reducible first | exact HB.out | apply below_alloc | apply pw_below_drewN | apply below_drew1 | refine below_set ?_ GE236.out) | exact HB.out)⟩⟩
                            · rw [if_neg c15] at H
                              exact absurd H (by simp)
                          · replace c14 := Bool.eq_false_iff.mpr c14
                            subst c14
                            have H1 : (spec_l7Back.l1 k2 l1 x5_2 x13_1 l0_0 (l0_0.length : Int) x13_1 (rd_L1 l0_0 x13_1) ((rd_L1 l0_0 x13_1).length : Int) (wrap64 (x20_2 + 1))) = some r := by rw [if_neg (show ¬ (false = true) by decide)] at H; exact H
                            clear H
                            have H := H1
                            clear H1
                            have H' := Aside0.mk H
                            clear H
                            have p238 : 0 ≤ (x20_2 : Int) := of_decide_eq_true (by first | (with_reducible assumption) | assumption)
                            have q238 : x20_2 < ((rd_L1 l0_0 x13_1).length : Int) := of_decide_eq_true (by first | (with_reducible assumption) | assumption)
                            obtain ⟨ad238, e238, hx238_0⟩ := Kd.at_int HR237_0.out x20_2 p238 q238
                            cases e238
                            replace hx238_0 := (HB.out.cell (World.block_lt_of_cell? w _ hx238_0)).trans hx238_0
                            replace p238 := eq_true p238
                            replace q238 := eq_true q238
                            have p239 : 0 ≤ (x13_1 : Int) := of_decide_eq_true (by first | (with_reducible assumption) | assumption)
                            have q239 : x13_1 < (l1.length : Int) := of_decide_eq_true (by first | (with_reducible assumption) | assumption)
                            obtain ⟨ad239, A239_0, c239_0, e239, hx239_0, hl239_0, hi239_0⟩ := at_L1 HR1.out x13_1 p239 q239
                            cases e239
                            replace hx239_0 := (HB.out.cell (World.block_lt_of_cell? w _ hx239_0)).trans hx239_0
                            have HR239_0 := Aside0.mk hi239_0
                            have HC239_0 := Aside0.mk hl239_0
                            clear hi239_0 hl239_0
                            replace p239 := eq_true p239
                            replace q239 := eq_true q239
                            go_wp2_with (first | ((with_reducible refine gate_callee (f := 59) rfl ?_); refine goesL_ (some 29) rfl rfl Try.func59 (by kernel_rfl) rfl #[.slice A239_0 (rd_L1 l1 x13_1).length c239_0, .int .i64 (rd (rd_L1 l0_0 x13_1) x20_2)] rfl (by (try simp only [List.map_toArray, List.map_cons, List.map_nil]); first | done | rfl | (simp only [List.length_drop, List.length_take]; rfl)) ?_; (with_reducible refine (spec_l1Has.calls k2 _ _ (rd_L1 l1 x13_1) (rd (rd_L1 l0_0 x13_1) x20_2) false _ ?side1 ?side2 A13.out).mono ?_); (case side1 => repeat (first | exact (Kd.C_below HR239_0.out HB.out) | (with_reducible refine Kd.C_alloc ?_ _) | (with_reducible refine Kd.C_drewN ?_ _) | (with_reducible refine Kd.C_drew ?_))); (case side2 => exact HC239_0.out); rintro e w' ⟨rfl, ⟨nd, rfl⟩⟩; refine ⟨_, rfl, ?_⟩))
                            go_roundg k2
                            case measure => have := HK1.out; have := HK2.out; omega
                            case rel => exact ⟨(x5_2), (wrap64 (x20_2 + 1)), (by first | rfl | (simp; done) | (simp [*]; done)), H', ⟨by have := HK1.out; have := HK2.out; omega⟩, ⟨by (with_reducible repeat (first | apply Kd.S_alloc | apply Kd.S_drewN | apply Kd.S_drew)); exact HO_5.out⟩, ⟨by (with_reducible repeat (first | refine blk_drewN ?_ _ | refine blk_drew ?_ | refine blk_alloc ?_ _)); exact BK236.out⟩, ⟨by repeat (first | (with_reducible first | exact HB.out | apply below_alloc | apply pw_below_drewN | apply below_drew1 | refine below_set ?_ GE236.out) | exact HB.out)⟩⟩
                        · rw [if_neg c12] at H
                          exact absurd H (by simp)
                      · rw [if_neg c11] at H
                        exact absurd H (by simp)
                    · rw [if_neg c10] at H
                      exact absurd H (by simp)
                  · rw [if_neg c9] at H
                    exact absurd H (by simp)
                · rw [if_neg c8] at H
                  have c8b0 : decide (x20_2 < ((rd_L1 l0_0 x13_1).length : Int)) = false := decide_eq_false c8
                  clear c8
                  have H' := Aside0.mk H
                  clear H
                  go_wp2
                  go_roundg k2
                  case measure => have := HK1.out; have := HK2.out; omega
                  case rel => exact ⟨(x5_2), (wrap64 (x13_1 + 1)), (by first | rfl | (simp; done) | (simp [*]; done)), H', ⟨by have := HK1.out; have := HK2.out; omega⟩, ⟨by (with_reducible repeat (first | apply Kd.S_alloc | apply Kd.S_drewN | apply Kd.S_drew)); exact HO_5.out⟩, ⟨by (with_reducible repeat (first | refine blk_drewN ?_ _ | refine blk_drew ?_ | refine blk_alloc ?_ _)); exact BK236.out⟩, ⟨by repeat (first | (with_reducible first | exact HB.out | apply below_alloc | apply pw_below_drewN | apply below_drew1 | refine below_set ?_ GE236.out) | exact HB.out)⟩⟩
          · rw [if_neg c7] at H
            exact absurd H (by simp)
        · rw [if_neg c6] at H
          exact absurd H (by simp)
      · rw [if_neg c5] at H
        have c5b0 : decide (x13_1 < (l0_0.length : Int)) = false := decide_eq_false c5
        clear c5
        obtain rfl := Option.some.inj H
        go_wp2
        go_ret
        exact ⟨_, by first | rfl | (simp [errW_none, errW_some] <;> rfl) | (simp [*, errW_none, errW_some] <;> rfl), by (with_reducible repeat (first | apply Kd.S_alloc | apply Kd.S_drewN | apply Kd.S_drew)); exact HO_5.out, by repeat (first | (with_reducible first | exact HB.out | apply below_alloc | apply pw_below_drewN | apply below_drew1 | refine below_set ?_ GE236.out) | exact HB.out)⟩

end Go.Proofs.Ytbagmhcdhemopaa.Q
