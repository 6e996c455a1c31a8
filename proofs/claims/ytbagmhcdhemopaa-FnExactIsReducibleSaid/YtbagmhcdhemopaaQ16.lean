-- WRITTEN BY A PROGRAM OF THIS SESSION
import Derived.Test.YtbagmhcdhemopaaQ0
import Derived.Test.YtbagmhcdhemopaaQ12
import Derived.Test.YtbagmhcdhemopaaQ13
import Derived.Test.YtbagmhcdhemopaaQ15
namespace Go.Proofs.Ytbagmhcdhemopaa.Q
open Go.RowKit Go.Proofs.YtbagmhcdhemopaaW.PrintWords Go.Proofs.YtbagmhcdhemopaaW.PrintLast Go.Proofs.YtbagmhcdhemopaaW.PrintMore
attribute [local go_sem] max2_int min2_int max_two min_two max_three min_three max_four min_four   -- for this text's walks alone
set_option linter.unusedVariables false
set_option linter.unusedSimpArgs false

/-! ### spec_l7Dominators: function 50 (by hand: an element's row is handed to what writes it) -/
mutual
def spec_l7Dominators.l0 : Nat → List (List Int) → List Int → List (List Int) → Int → Option (List (List Int))
  | 0, _, _, _, _ => none
  | k + 1, g, rs, x, d => if d < (g.length : Int) then ((spec_l7Without.f k g d).bind fun l => (spec_l7Dominators.l1 k g rs l x d 0)) else some x
def spec_l7Dominators.l1 : Nat → List (List Int) → List Int → List Int → List (List Int) → Int → Int → Option (List (List Int))
  | 0, _, _, _, _, _, _ => none
  | k + 1, g, rs, l, x, d, i => if i < (rs.length : Int) then (if 0 ≤ i then ((spec_l1Has.f k rs d).bind fun b => (if b = true then ((spec_l1Has.f k l (rd rs i)).bind fun c => (if c = true then (spec_l7Dominators.l1 k g rs l x d (wrap64 (i + 1))) else (if 0 ≤ rd rs i then (if rd rs i < (x.length : Int) then ((spec_l1Put.f k (x.getD (rd rs i).toNat []) d).bind fun y => (spec_l7Dominators.l1 k g rs l (x.set (rd rs i).toNat y) d (wrap64 (i + 1)))) else none) else none))) else (spec_l7Dominators.l1 k g rs l x d (wrap64 (i + 1))))) else none) else spec_l7Dominators.l0 k g rs x (wrap64 (d + 1))
end
def spec_l7Dominators.f (k : Nat) (g : List (List Int)) : Option (List (List Int)) := if g.length ≤ 11728124029610 then ((spec_l7Without.f k g (-1)).bind fun rs => (spec_l7Dominators.l0 k g rs (List.replicate g.length []) 0)) else none
theorem spec_l7Dominators.mono_l : ∀ k, (∀ y0 y1 y2 y3, LeO (spec_l7Dominators.l0 k y0 y1 y2 y3) (spec_l7Dominators.l0 (k + 1) y0 y1 y2 y3)) ∧ (∀ y0 y1 y2 y3 y4 y5, LeO (spec_l7Dominators.l1 k y0 y1 y2 y3 y4 y5) (spec_l7Dominators.l1 (k + 1) y0 y1 y2 y3 y4 y5))
  | 0 => ⟨fun _ _ _ _ r h => by simp [spec_l7Dominators.l0] at h, fun _ _ _ _ _ _ r h => by simp [spec_l7Dominators.l1] at h⟩
  | k + 1 => by
    obtain ⟨ih0, ih1⟩ := spec_l7Dominators.mono_l k
    refine ⟨?_, ?_⟩
    · intro y0 y1 y2 y3
      unfold spec_l7Dominators.l0
      repeat' first
      | (with_reducible exact ih0 _ _ _ _)
      | (with_reducible exact ih1 _ _ _ _ _ _)
      | (with_reducible exact spec_l7Without.mono _ _ _)
      | (with_reducible exact spec_l1Has.mono _ _ _)
      | (with_reducible exact spec_l1Put.mono _ _ _)
      | (with_reducible exact LeO.refl _)
      | (with_reducible exact LeO.none _)
      | (with_reducible refine LeO.ite ?_ ?_)
      | (with_reducible refine LeO.bind ?_ (fun _ => ?_))
    · intro y0 y1 y2 y3 y4 y5
      unfold spec_l7Dominators.l1
      repeat' first
      | (with_reducible exact ih0 _ _ _ _)
      | (with_reducible exact ih1 _ _ _ _ _ _)
      | (with_reducible exact spec_l7Without.mono _ _ _)
      | (with_reducible exact spec_l1Has.mono _ _ _)
      | (with_reducible exact spec_l1Put.mono _ _ _)
      | (with_reducible exact LeO.refl _)
      | (with_reducible exact LeO.none _)
      | (with_reducible refine LeO.ite ?_ ?_)
      | (with_reducible refine LeO.bind ?_ (fun _ => ?_))
theorem spec_l7Dominators.mono : ∀ a0 k, LeO (spec_l7Dominators.f k a0) (spec_l7Dominators.f (k + 1) a0) := by
  intro a0 k
  obtain ⟨ih0, ih1⟩ := spec_l7Dominators.mono_l k
  unfold spec_l7Dominators.f
  repeat' first
      | (with_reducible exact ih0 _ _ _ _)
      | (with_reducible exact ih1 _ _ _ _ _ _)
      | (with_reducible exact spec_l7Without.mono _ _ _)
      | (with_reducible exact spec_l1Has.mono _ _ _)
      | (with_reducible exact spec_l1Put.mono _ _ _)
      | (with_reducible exact LeO.refl _)
      | (with_reducible exact LeO.none _)
      | (with_reducible refine LeO.ite ?_ ?_)
      | (with_reducible refine LeO.bind ?_ (fun _ => ?_))
/-- What holds between the rounds: the variable g, out, reach. -/
structure L7Inv (w W : World) (gb : Nat) (A0 : Option Addr) (n c : Nat) (vo vr : Value) (x : List (List Int)) (rs : List Int) (F : Nat → Prop) : Prop where
  box : W.heap[gb]? = some (.cells #[.slice A0 n c] 27 (0, 0))
  below : Below w.heap.size w W
  out : Kd.S (Kd.slice 3 (Kd.int .i64)) 31 W w.heap.size (fun k => ¬ F k) vo x
  row : (Kd.int .i64).R 3 W w.heap.size (fun k => some k = vr.ownBlock) vr rs
  fbox : F gb
  frow : ∀ k, some k = vr.ownBlock → F k
  flt : ∀ k, F k → k < W.heap.size
theorem L7Inv.step {w W W' : World} {gb : Nat} {A0 : Option Addr} {n c : Nat} {vo vr : Value} {x : List (List Int)} {rs : List Int} {F : Nat → Prop} (h : L7Inv w W gb A0 n c vo vr x rs F) (hb : Below W.heap.size W W') : L7Inv w W' gb A0 n c vo vr x rs F :=
  ⟨blk_below h.box hb, below_step h.below hb, Kd.S_below h.out hb, Kd.R_below h.row hb, h.fbox, h.frow, fun k hk => Nat.lt_of_lt_of_le (h.flt k hk) hb.size⟩
theorem L7Inv.drewN {w W : World} {gb : Nat} {A0 : Option Addr} {n c : Nat} {vo vr : Value} {x : List (List Int)} {rs : List Int} {F : Nat → Prop} (h : L7Inv w W gb A0 n c vo vr x rs F) (m : Nat) : L7Inv w (W.drewN m) gb A0 n c vo vr x rs F := h.step (pw_below_drewN (Below.refl _ _) m)
/-- A list left is made: out is apart from it, too. -/
theorem L7Inv.more {w W W' : World} {gb : Nat} {A0 : Option Addr} {n c : Nat} {vo vr vl : Value} {x : List (List Int)} {rs ls : List Int} {F : Nat → Prop} (h : L7Inv w W gb A0 n c vo vr x rs F) (hb : Below W.heap.size W W') (hl : (Kd.int .i64).R 3 W' W.heap.size (fun _ => True) vl ls) :
    L7Inv w W' gb A0 n c vo vr x rs (fun k => F k ∨ some k = vl.ownBlock) := by
  have h2 := h.step hb
  refine ⟨h2.box, h2.below, ?_, h2.row, .inl h2.fbox, fun k hk => .inl (h2.frow k hk), fun k hk => hk.elim (h2.flt k) (fun e => Kd.R_lt hl k e.symm)⟩
  exact Kd.S_mono (Kd.S_below (Kd.S_bound h.out) hb) (fun k hk he => he.elim hk.1 (fun e => by have := Kd.R_base hl k e.symm; have := hk.2.2.1; omega))
theorem L7Inv.less {w W : World} {gb : Nat} {A0 : Option Addr} {n c : Nat} {vo vr : Value} {x : List (List Int)} {rs : List Int} {F F' : Nat → Prop} (h : L7Inv w W gb A0 n c vo vr x rs (fun k => F k ∨ F' k)) (hb : F gb) (hr : ∀ k, some k = vr.ownBlock → F k) : L7Inv w W gb A0 n c vo vr x rs F :=
  ⟨h.box, h.below, Kd.S_mono h.out (fun k hk hf => hk (.inl hf)), h.row, hb, hr, fun k hk => h.flt k (.inl hk)⟩
/-- An element's row was handed over and stored back. -/
theorem L7Inv.put {w W W4 : World} {gb g nn cap : Nat} {A0 : Option Addr} {n c : Nat} {vr ve v0 : Value} {x : List (List Int)} {y : List Int} {i : Int} {rs : List Int} {F oki : Nat → Prop} (h : L7Inv w W gb A0 n c (.slice (some ⟨g, 0, none⟩) nn cap) vr x rs F)
    (hH : Kd.H (Kd.slice 3 (Kd.int .i64)) 31 W w.heap.size (fun k => ¬ F k) (.slice (some ⟨g, 0, none⟩) nn cap) x i oki [ve]) (h0 : 0 ≤ i) (h1 : i < nn) (hg : ¬ F g) (hgb : w.heap.size ≤ g)
    (hk : Kept W W4 oki) (hb : Below w.heap.size w W4) (hr : (Kd.int .i64).R 3 W4 w.heap.size (fun k => oki k ∨ W.heap.size ≤ k) v0 y) : L7Inv w (W4.setCell ⟨g, i.toNat, none⟩ v0) gb A0 n c (.slice (some ⟨g, 0, none⟩) nn cap) vr (x.set i.toNat y) rs F ∧ ∀ k, F k → (W4.setCell ⟨g, i.toNat, none⟩ v0).heap[k]? = W.heap[k]? := by
  obtain ⟨h2, h3⟩ := S_upd hH h0 h1 hg h.flt hk hr
  exact ⟨⟨(h3 gb h.fbox).trans h.box, hb.setCell hgb _, h2, R_same h.row h.frow h3, h.fbox, h.frow, fun k hf => Nat.lt_of_lt_of_le (h.flt k hf) (Nat.le_trans hk.1 (by simp [World.setCell]))⟩, h3⟩
set_option maxHeartbeats 8000000 in
set_option maxRecDepth 100000 in
theorem spec_l7Dominators.calls (k : Nat) (A0_0 : Option Addr) (c0_0 : Nat) (l0_0 : List (List Int)) (r : List (List Int)) (w : World) (hr0_0 : Kd.C (Kd.slice 3 (Kd.int .i64)) w A0_0 l0_0.length l0_0) (hc0_0 : l0_0.length ≤ c0_0) (h : spec_l7Dominators.f k l0_0 = some r) :
    Calls Try.prog 50 #[.agg #[.slice A0_0 l0_0.length c0_0]] w fun e w' => ∃ v0_ : Value, e = .returned (v0_) ∧ Kd.S (Kd.slice 3 (Kd.int .i64)) 31 w' w.heap.size (fun _ => True) v0_ r ∧ Below w.heap.size w w' := by
  have hu27 := Try.underlying27
  have HR0 := Aside0.mk hr0_0
  have HC0 := Aside0.mk hc0_0
  clear hr0_0 hc0_0
  unfold spec_l7Dominators.f at h
  by_cases c1 : l0_0.length ≤ 11728124029610
  rotate_left
  · rw [if_neg c1] at h; exact absurd h (by simp)
  rw [if_pos c1] at h
  obtain ⟨rs, A1, H⟩ := Option.bind_eq_some_iff.mp h
  have A := Aside0.mk A1
  have H' := Aside0.mk H
  clear h A1 H
  have c2 : decide (0 ≤ (l0_0.length : Int)) = true := decide_eq_true (by omega)
  have c3 : (0 ≤ (l0_0.length : Int)) = True := eq_true (by omega)
  obtain ⟨y, hy⟩ : ∃ y : List (List Int), y = List.replicate (l0_0.length : Int).toNat [] := ⟨_, rfl⟩
  have HY := Aside0.mk hy
  rw [Int.toNat_natCast] at hy
  rw [← hy] at H'
  have HM := Aside0.mk c1
  clear c1 hy
  go_enter Try.func50, Try.ntmps50
  go_wp2_with (first | ((with_reducible refine gate_dst (N := 1) rfl ?_); refine box_event ?hg (N := 1) ?hd (cs := #[.slice A0_0 l0_0.length c0_0]) (t := 27) ?hr ?_; (case hd => rfl); (case hg => rfl); (case hr => first | (go_simp; done) | (go_simp; rfl)); intro gb hg w1 hbox hb; have BK := Aside0.mk hbox; have GB := Aside0.mk hg; have HB := Aside0.mk hb; clear hbox hb hg; have hcz1 : w1.cell? ⟨gb, 0, none⟩ = some (.slice A0_0 l0_0.length c0_0) := (blk_cell BK.out 0).trans rfl; have hfz1 := blk_frozen BK.out 0) | ((with_reducible refine gate_dst (N := 12) rfl ?_); refine Kd.S_make (Kd.slice 3 (Kd.int .i64)) _ 31 rfl (N := 12) rfl 22 _ _ rfl (l0_0.length : Int) rfl rfl Try.underlying22 (.slice none 0 0) 24 (by kernel_rfl) rfl (by decide) (by omega) [] (ok := fun _ => True) (okp := fun _ => True) ⟨_, rfl, Kd.R_nil _ _ _ _ _⟩ (fun _ hk => hk) trivial (by omega) (by have := HM.out; rw [Int.toNat_natCast]; omega) (Below.refl _ _) (Nat.le_refl _) ?_; intro vo w2 ho5 hb hg_ hnew_; clear hg_ hnew_; rw [← HY.out] at ho5; have HO := Aside0.mk ho5; have BK2 := Aside0.mk (blk_below BK.out hb); have HB2 := Aside0.mk (below_step HB.out hb); have HG := Aside0.mk (blk_lt BK.out); clear hb ho5 BK HB; have hcz2 : w2.cell? ⟨gb, 0, none⟩ = some (.slice A0_0 l0_0.length c0_0) := (blk_cell BK2.out 0).trans rfl; have hfz2 := blk_frozen BK2.out 0))
  refine (spec_l7Without.calls k _ _ l0_0 (-1) rs _ (Kd.C_below HR0.out HB2.out) HC0.out A.out).mono ?_
  rintro e w3 ⟨vr, rfl, ho0, hb⟩
  have HI := Aside0.mk (show L7Inv w w3 gb A0_0 l0_0.length c0_0 vo vr y rs (fun k => k = gb ∨ some k = vr.ownBlock) from ⟨blk_below BK2.out hb, below_step HB2.out hb, Kd.S_lower (Kd.S_mono (Kd.S_below (Kd.S_bound HO.out) hb) (fun k hk he => he.elim (fun e => by have := HG.out; have := hk.2.1; omega) (fun e => by have := Kd.R_base ho0 k e.symm; have := hk.2.2.1; omega))) (by have := GB.out; have := HG.out; omega), Kd.R_tight rfl (Kd.R_lower ho0 HB2.out.size), .inl rfl, fun k e => .inr e, fun k hk => hk.elim (fun e => by have := HG.out; have := blk_lt (blk_below BK2.out hb); omega) (fun e => Kd.R_lt ho0 k e.symm)⟩)
  clear hb ho0 BK2 HB2 HO HG GB hcz2 hfz2 hcz1 hfz1
  obtain ⟨Ar, cr, er⟩ := Kd.R_slice HI.out.row
  subst er
  obtain ⟨Ao, co, eo⟩ := Kd.S_slice HI.out.out
  subst eo
  have hcz3 : w3.cell? ⟨gb, 0, none⟩ = some (.slice A0_0 l0_0.length c0_0) := (blk_cell HI.out.box 0).trans rfl
  have hfz3 := blk_frozen HI.out.box 0
  go_wp2
  clear hcz3 hfz3
  obtain ⟨F, HI⟩ : ∃ F, Aside0 (L7Inv w w3 gb A0_0 l0_0.length c0_0 (.slice Ao y.length co) (.slice Ar rs.length cr) y rs F) := ⟨_, HI⟩
  go_loopg [18] k (fun kq v18 w' => ∃ (x : List (List Int)) (d : Int), v18 = .int .i64 d ∧ Aside0 (spec_l7Dominators.l0 kq l0_0 rs x d = some r) ∧ Aside0 (kq ≤ k) ∧ Aside0 (L7Inv w w' gb A0_0 l0_0.length c0_0 (.slice Ao y.length co) (.slice Ar rs.length cr) x rs F))
  case atStart => exact ⟨y, 0, rfl, H', ⟨Nat.le_refl _⟩, HI⟩
  case round =>
    clear H' HI HY
    obtain ⟨x, d, rfl, HA, HK1, HI⟩ := hrel
    cases gk with
    | zero => exact absurd HA.out (by simp [spec_l7Dominators.l0])
    | succ k1 =>
      have H := HA.out
      clear HA
      simp only [spec_l7Dominators.l0] at H
      by_cases c3 : d < (l0_0.length : Int)
      · rw [if_pos c3] at H
        obtain ⟨ls, A1, H⟩ := Option.bind_eq_some_iff.mp H
        have A4 := Aside0.mk A1
        have H' := Aside0.mk H
        have c3b0 : decide (d < (l0_0.length : Int)) = true := decide_eq_true c3
        have hcz4 : wr.cell? ⟨gb, 0, none⟩ = some (.slice A0_0 l0_0.length c0_0) := (blk_cell HI.out.box 0).trans rfl
        have hfz4 := blk_frozen HI.out.box 0
        clear A1 H c3
        go_wp2_with (first | (go_at_call 73; (with_reducible refine (spec_l7Without.calls k1 _ _ l0_0 d ls _ (Kd.C_below HR0.out HI.out.below) HC0.out A4.out).mono ?_); rintro e w4 ⟨vl, rfl, ho0, hb⟩; have HI2 := Aside0.mk (HI.out.more hb ho0); have HL := Aside0.mk (Kd.R_tight rfl (Kd.R_lower ho0 HI.out.below.size)); have HFB := Aside0.mk HI.out.fbox; have HFR := Aside0.mk HI.out.frow; clear hb ho0 HI hcz4 hfz4 A4))
        obtain ⟨Al, cl, el⟩ := Kd.R_slice HL.out
        subst el
        go_loopg [26] k1 (fun kq v26 w' => ∃ (x : List (List Int)) (j : Int), v26 = .int .i64 j ∧ Aside0 (spec_l7Dominators.l1 kq l0_0 rs ls x d j = some r) ∧ Aside0 (kq ≤ k1) ∧ Aside0 (L7Inv w w' gb A0_0 l0_0.length c0_0 (.slice Ao y.length co) (.slice Ar rs.length cr) x rs (fun k_ => F k_ ∨ some k_ = (.slice Al ls.length cl : Value).ownBlock)) ∧ Aside0 ((Kd.int .i64).R 3 w' w.heap.size (fun k_ => some k_ = (.slice Al ls.length cl : Value).ownBlock) (.slice Al ls.length cl) ls))
        case atStart => exact ⟨x, 0, rfl, H', ⟨Nat.le_refl _⟩, HI2, HL⟩
        case round =>
          clear H' HI2 HL
          obtain ⟨x, j, rfl, HA, HK2, HI, HL⟩ := hrel
          cases gk with
          | zero => exact absurd HA.out (by simp [spec_l7Dominators.l1])
          | succ k2 =>
            have H := HA.out
            clear HA
            simp only [spec_l7Dominators.l1] at H
            by_cases c5 : j < (rs.length : Int)
            · rw [if_pos c5] at H
              by_cases c6 : 0 ≤ j
              · rw [if_pos c6] at H
                obtain ⟨b, A1, H⟩ := Option.bind_eq_some_iff.mp H
                have A5 := Aside0.mk A1
                clear A1
                have hrr := Kd.R_reads' HI.out.row
                obtain ⟨ad, e1, hx1⟩ := Kd.at_int hrr.2.2 j c6 c5
                cases e1
                have HRS := Aside0.mk hrr.2.2
                have HRC := Aside0.mk hrr.2.1
                have c5b0 : decide (j < (rs.length : Int)) = true := decide_eq_true c5
                have c6b0 : decide (0 ≤ j) = true := decide_eq_true c6
                have p5 := eq_true c5
                have p6 := eq_true c6
                clear hrr c5 c6
                cases b with
                | false =>
                  rw [if_neg (by decide)] at H
                  have H' := Aside0.mk H
                  clear H
                  go_wp2_with (first | (go_at_call 59; (with_reducible refine (spec_l1Has.calls k2 _ _ rs d false _ HRS.out HRC.out A5.out).mono ?_); rintro e w5 ⟨rfl, ⟨nd, rfl⟩⟩))
                  go_roundg k2
                  case measure => have := HK2.out; omega
                  case rel => exact ⟨x, _, rfl, H', ⟨by have := HK2.out; omega⟩, ⟨HI.out.drewN _⟩, ⟨Kd.R_drewN HL.out _⟩⟩
                | true =>
                  rw [if_pos rfl] at H
                  obtain ⟨c, A1, H⟩ := Option.bind_eq_some_iff.mp H
                  have A6 := Aside0.mk A1
                  clear A1
                  have hrl := Kd.R_reads' HL.out
                  have HLS := Aside0.mk hrl.2.2
                  have HLC := Aside0.mk hrl.2.1
                  clear hrl
                  cases c with
                  | true =>
                    rw [if_pos rfl] at H
                    have H' := Aside0.mk H
                    clear H
                    go_wp2_with (first | (go_at_call 59; (with_reducible refine (spec_l1Has.calls k2 _ _ rs d true _ HRS.out HRC.out A5.out).mono ?_); rintro e w5 ⟨rfl, ⟨nd, rfl⟩⟩) | (go_at_call 59; (with_reducible refine (spec_l1Has.calls k2 _ _ ls (rd rs j) true _ (Kd.C_drewN HLS.out _) HLC.out A6.out).mono ?_); rintro e w6 ⟨rfl, ⟨nd2, rfl⟩⟩))
                    go_roundg k2
                    case measure => have := HK2.out; omega
                    case rel => exact ⟨x, _, rfl, H', ⟨by have := HK2.out; omega⟩, ⟨HI.out.drewN _⟩, ⟨Kd.R_drewN HL.out _⟩⟩
                  | false =>
                    rw [if_neg (by decide)] at H
                    by_cases c7 : 0 ≤ rd rs j
                    · rw [if_pos c7] at H
                      by_cases c8 : rd rs j < (x.length : Int)
                      · rw [if_pos c8] at H
                        obtain ⟨z, A1, H⟩ := Option.bind_eq_some_iff.mp H
                        have A7 := Aside0.mk A1
                        have H' := Aside0.mk H
                        have hlen := (Kd.S_reads' HI.out.out).1
                        obtain ⟨g, oki, ve, rfl, hx2, hf2, hR, hoki, hPg, hbg, hH⟩ := S_row HI.out.out (rd rs j) c7 (by omega)
                        have HH := Aside0.mk hH
                        have HR := Aside0.mk hR
                        have HKI := Aside0.mk hoki
                        have HPG := Aside0.mk hPg
                        have HBG := Aside0.mk hbg
                        have c7b : decide (0 ≤ rd rs j) = true := decide_eq_true c7
                        have c8b : decide (rd rs j < (y.length : Int)) = true := decide_eq_true (by omega)
                        have p7 := eq_true c7
                        have p8 : (rd rs j < (y.length : Int)) = True := eq_true (by omega)
                        have HQ := Aside0.mk (show rd rs j < (y.length : Int) by omega)
                        have HQ0 := Aside0.mk c7
                        clear A1 H hH hR hoki hPg hbg hlen c7 c8
                        go_wp2_with (first | (go_at_call 59; (with_reducible refine (spec_l1Has.calls k2 _ _ rs d true _ HRS.out HRC.out A5.out).mono ?_); rintro e w5 ⟨rfl, ⟨nd, rfl⟩⟩) | (go_at_call 59; (with_reducible refine (spec_l1Has.calls k2 _ _ ls (rd rs j) false _ (Kd.C_drewN HLS.out _) HLC.out A6.out).mono ?_); rintro e w6 ⟨rfl, ⟨nd2, rfl⟩⟩) | (go_at_call 74; (with_reducible refine (spec_l1Put.calls k2 oki ve (x.getD (rd rs j).toNat []) d z w _ (HI.out.drewN _).below (Kd.R_drewN HR.out _) A7.out).mono ?_); rintro e w7 ⟨v0, rfl, hr0, hb, hkp⟩; obtain ⟨A0v, c0v, e0v⟩ := Kd.R_slice hr0; subst e0v; have hput := (HI.out.drewN _).put (Kd.H_drewN HH.out _) HQ0.out HQ.out HPG.out HBG.out hkp hb hr0; have hx7 : w7.cell? ⟨g, (rd rs j).toNat, none⟩ = some ve := cell_kept (W := wr.drewN _) hx2 hkp (fun h_ => (HKI.out g h_).2 rfl); have hf7 : w7.frozen? ⟨g, (rd rs j).toNat, none⟩ = false := (frozen_kept hkp (fun h_ => (HKI.out g h_).2 rfl) (World.block_lt_of_cell? (wr.drewN _) _ hx2)).trans hf2; have HI7 := Aside0.mk hput.1; have HL7 := Aside0.mk (R_same (Kd.R_drewN HL.out _) (fun _ e_ => .inr e_) hput.2); clear hput hr0 hb hkp HR HH HKI HPG HBG HI HL HLS HLC HRS HRC hx2 hf2 hx1))
                        go_roundg k2
                        case measure => have := HK2.out; omega
                        case rel => exact ⟨_, _, rfl, H', ⟨by have := HK2.out; omega⟩, HI7, HL7⟩
                      · rw [if_neg c8] at H; exact absurd H (by simp)
                    · rw [if_neg c7] at H; exact absurd H (by simp)
              · rw [if_neg c6] at H; exact absurd H (by simp)
            · rw [if_neg c5] at H
              have H' := Aside0.mk H
              have c5b0 : decide (j < (rs.length : Int)) = false := decide_eq_false c5
              clear H c5
              go_wp2
              go_roundg k2
              case measure => have := HK2.out; have := HK1.out; omega
              case rel => exact ⟨x, _, rfl, H', ⟨by have := HK2.out; have := HK1.out; omega⟩, ⟨HI.out.less HFB.out HFR.out⟩⟩
      · rw [if_neg c3] at H
        obtain rfl := Option.some.inj H
        have c3b0 : decide (d < (l0_0.length : Int)) = false := decide_eq_false c3
        clear c3
        go_wp2
        go_ret
        exact ⟨_, rfl, Kd.S_mono HI.out.out (fun _ _ => trivial), HI.out.below⟩

end Go.Proofs.Ytbagmhcdhemopaa.Q
