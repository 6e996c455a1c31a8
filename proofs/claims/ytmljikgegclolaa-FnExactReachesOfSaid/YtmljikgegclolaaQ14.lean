-- WRITTEN BY A PROGRAM OF THIS SESSION
import Derived.Test.YtmljikgegclolaaQ0
import Derived.Test.YtmljikgegclolaaQ1
import Derived.Test.YtmljikgegclolaaQ2
import Derived.Test.YtmljikgegclolaaQ7
import Derived.Test.YtmljikgegclolaaQ13
namespace Go.Proofs.Ytmljikgegclolaa.Q
open Go.RowKit Go.Proofs.YtmljikgegclolaaW.PrintWords Go.Proofs.YtmljikgegclolaaW.PrintLast Go.Proofs.YtmljikgegclolaaW.PrintMore
attribute [local go_sem] max2_int min2_int max_two min_two max_three min_three max_four min_four   -- for this text's walks alone
set_option linter.unusedVariables false
set_option linter.unusedSimpArgs false

/-! ### impl_validOf: function 67 (by hand: a pointer that came back is handed on, or nil) -/
def impl_validOf.p (r : Option WRes) : Option WRes := match r with
  | none => none
  | some x => if x.code = 0 then some x else none
def impl_validOf.f (k : Nat) (l : List S56) : Option (Option WRes) := (impl_walkOf.f k l).bind fun r => some (impl_validOf.p r)
theorem impl_validOf.mono : ∀ a0 k, LeO (impl_validOf.f k a0) (impl_validOf.f (k + 1) a0) := fun _ k => LeO.bind (impl_walkOf.mono _ _) (fun _ => LeO.refl _)
set_option maxHeartbeats 8000000 in
set_option maxRecDepth 100000 in
theorem impl_validOf.calls (k : Nat) (A0 : Option Addr) (c0 : Nat) (l0 : List S56) (r : Option WRes) (w : World) (hr0 : Kd.C k56 w A0 l0.length l0) (hc0 : l0.length ≤ c0) (h : impl_validOf.f k l0 = some r) :
    Calls Try.prog 67 #[.slice A0 l0.length c0] w fun e w' => ∃ v0_ : Value, e = .returned (v0_) ∧ WalkRet w' w.heap.size l0.length c0 A0 r v0_ ∧ Below w.heap.size w w' := by
  have hu84 := Try.underlying84
  have HR0 := Aside0.mk hr0
  have HC0 := Aside0.mk hc0
  clear hr0 hc0
  unfold impl_validOf.f at h
  obtain ⟨s, A1, H⟩ := Option.bind_eq_some_iff.mp h
  have A1 := Aside0.mk A1
  obtain rfl := Option.some.inj H
  clear h H
  cases s with
  | none =>
    go_enter Try.func67, Try.ntmps67
    go_wp2_with (first | (go_at_call 65; refine (impl_walkOf.calls k _ _ l0 none _ HR0.out HC0.out A1.out).mono ?_; rintro e w2 ⟨v, rfl, hv, hb⟩; have HB2 := Aside0.mk hb; obtain rfl : v = .pointer none := hv; clear hb))
    go_ret
    exact ⟨_, rfl, rfl, HB2.out⟩
  | some x =>
    by_cases cc : x.code = 0
    · have ec : impl_validOf.p (some x) = some x := if_pos cc
      rw [ec]
      have ccb : (x.code != 0) = false := by simpa using cc
      clear cc ec
      go_enter Try.func67, Try.ntmps67
      go_wp2_with (first | (go_at_call 65; refine (impl_walkOf.calls k _ _ l0 (some x) _ HR0.out HC0.out A1.out).mono ?_; rintro e w2 ⟨v, rfl, hv, hb⟩; have HB2 := Aside0.mk hb; obtain ⟨g, rfl, hs⟩ : ∃ g, v = .pointer (some ⟨g, 0, none⟩) ∧ WalkAt w2 w.heap.size g l0.length c0 A0 x := hv; have HS := Aside0.mk hs; obtain ⟨_, ⟨gs, vh, vd, vb, hblk, _⟩⟩ := hs; have hg4 : w2.cell? ⟨g, 4, none⟩ = some (.int .i64 x.code) := (blk_cell hblk 4).trans rfl; clear hb hblk))
      go_ret
      exact ⟨_, rfl, ⟨g, rfl, HS.out⟩, HB2.out⟩
    · have ec : impl_validOf.p (some x) = none := if_neg cc
      rw [ec]
      have ccb : (x.code != 0) = true := by simpa using cc
      clear cc ec
      go_enter Try.func67, Try.ntmps67
      go_wp2_with (first | (go_at_call 65; refine (impl_walkOf.calls k _ _ l0 (some x) _ HR0.out HC0.out A1.out).mono ?_; rintro e w2 ⟨v, rfl, hv, hb⟩; have HB2 := Aside0.mk hb; obtain ⟨g, rfl, hs⟩ : ∃ g, v = .pointer (some ⟨g, 0, none⟩) ∧ WalkAt w2 w.heap.size g l0.length c0 A0 x := hv; have HS := Aside0.mk hs; obtain ⟨_, ⟨gs, vh, vd, vb, hblk, _⟩⟩ := hs; have hg4 : w2.cell? ⟨g, 4, none⟩ = some (.int .i64 x.code) := (blk_cell hblk 4).trans rfl; clear hb hblk))
      go_ret
      exact ⟨_, rfl, rfl, HB2.out⟩

/-! ### impl_ReachesOf: function 41 (by hand: a row behind a pointer is read, a row that was made is written) -/
def impl_ReachesOf.f (k : Nat) (l : List S56) : Option (List Bool × Bool) := (impl_validOf.f k l).bind fun r => (match r with
  | none => some ([], false)
  | some x => if l.length ≤ 60 ∧ l.length ≤ x.ds.length then some ((x.ds.take l.length).map (fun d => !d), true) else none)
theorem impl_ReachesOf.mono : ∀ a0 k, LeO (impl_ReachesOf.f k a0) (impl_ReachesOf.f (k + 1) a0) := fun _ k => LeO.bind (impl_validOf.mono _ _) (fun _ => LeO.refl _)
def repL (p : List Bool) (n i : Nat) : List Bool := (p.take i).map (fun d => !d) ++ List.replicate (n - i) false
theorem repL_zero (p : List Bool) (n : Nat) : repL p n 0 = List.replicate n false := by simp [repL]
theorem repL_all (p : List Bool) (n : Nat) : repL p n n = (p.take n).map (fun d => !d) := by simp [repL]
theorem repL_succ (p : List Bool) (n i : Nat) (h : i < n) (hn : n ≤ p.length) : (repL p n i).set i (!(p.getD i false)) = repL p n (i + 1) := by
  unfold repL
  rw [List.set_append_right _ _ (by simp; omega)]
  simp only [List.length_map, List.length_take]
  rw [show i - min i p.length = 0 by omega, show n - i = (n - (i + 1)) + 1 by omega, List.replicate_succ, List.set_cons_zero, List.take_succ_eq_append_getElem (by omega), List.map_append, List.append_assoc]
  simp [List.getD_eq_getElem?_getD, show i < p.length by omega]
set_option maxHeartbeats 8000000 in
set_option maxRecDepth 100000 in
theorem impl_ReachesOf.calls (k : Nat) (A0 : Option Addr) (c0 : Nat) (l0 : List S56) (r1 : List Bool) (r2 : Bool) (w : World) (hr0 : Kd.C k56 w A0 l0.length l0) (hc0 : l0.length ≤ c0) (h : impl_ReachesOf.f k l0 = some (r1, r2)) :
    Calls Try.prog 41 #[.slice A0 l0.length c0] w fun e w' => ∃ v0_ : Value, e = .returned (.tuple #[v0_, .bool r2]) ∧ Kd.R Kd.bool 4 w' w.heap.size (fun _ => True) v0_ r1 ∧ Below w.heap.size w w' := by
  have hu84 := Try.underlying84
  have HR0 := Aside0.mk hr0
  have HC0 := Aside0.mk hc0
  clear hr0 hc0
  unfold impl_ReachesOf.f at h
  obtain ⟨s, A1, H⟩ := Option.bind_eq_some_iff.mp h
  have A1 := Aside0.mk A1
  clear h
  cases s with
  | none =>
    simp only [Option.some.injEq, Prod.mk.injEq] at H
    obtain ⟨rfl, rfl⟩ := H
    go_enter Try.func41, Try.ntmps41
    go_wp2_with (first | (go_at_call 67; refine (impl_validOf.calls k _ _ l0 none _ HR0.out HC0.out A1.out).mono ?_; rintro e w2 ⟨v, rfl, hv, hb⟩; have HB2 := Aside0.mk hb; obtain rfl : v = .pointer none := hv; clear hb))
    go_ret2
    exact ⟨_, rfl, Kd.R_nil _ _ _ _ _, HB2.out⟩
  | some x =>
    dsimp only at H
    by_cases c1 : l0.length ≤ 60 ∧ l0.length ≤ x.ds.length
    rotate_left
    · rw [if_neg c1] at H; exact absurd H (by simp)
    rw [if_pos c1] at H
    simp only [Option.some.injEq, Prod.mk.injEq] at H
    obtain ⟨rfl, rfl⟩ := H
    have HL := Aside0.mk c1
    have hmk := fun W => run_make_row' (P := Try.prog) 46 4 (.bool false) 1 Try.underlying46 (by kernel_rfl) rfl .i64 .i64 l0.length (by omega) (by omega) W
    clear c1
    go_enter Try.func41, Try.ntmps41
    go_upto_region 4 with (first | (go_at_call 67; refine (impl_validOf.calls k _ _ l0 (some x) _ HR0.out HC0.out A1.out).mono ?_; rintro e w2 ⟨v, rfl, hv, hb⟩; have HB2 := Aside0.mk hb; obtain ⟨g, rfl, hs⟩ : ∃ g, v = .pointer (some ⟨g, 0, none⟩) ∧ WalkAt w2 w.heap.size g l0.length c0 A0 x := hv; obtain ⟨_, ⟨gs, vh, vd, vb, hblk, _, _, hd, _⟩⟩ := hs; have HD0 := Aside0.mk (Kd.R_mono (ok' := fun k_ => k_ < w2.heap.size) (Kd.R_bound hd) (fun k_ hk_ => hk_.2.2.1)); have HK0 := Aside0.mk hblk; have HG0 := Aside0.mk (blk_lt hblk); clear hb hblk hd))
    go_wp2
    have hr0 := R_made (enc := Value.bool) (h1 := fun _ => rfl) (false : Bool) rfl 4 w2 l0.length (by have := HL.out; omega)
    have HR1 := Aside0.mk (show Kd.R Kd.bool 4 (w2.alloc (.cells (madeCells #[.bool false] l0.length) 4)) w.heap.size (fun k_ => k_ = w2.heap.size) (.slice (some ⟨w2.heap.size, 0, none⟩) l0.length l0.length) (repL x.ds l0.length 0) by
      rw [repL_zero]
      exact Kd.R_mono (Kd.R_tight rfl (Kd.R_lower hr0 HB2.out.size)) (fun k_ hk_ => by simpa [Value.ownBlock] using hk_))
    have HD1 := Aside0.mk (Kd.R_alloc HD0.out (.cells (madeCells #[.bool false] l0.length) 4))
    have HK1 := Aside0.mk (blk_alloc HK0.out (.cells (madeCells #[.bool false] l0.length) 4))
    have HB3 := Aside0.mk (below_alloc HB2.out (.cells (madeCells #[.bool false] l0.length) 4))
    have HZ := Aside0.mk HB2.out.size
    clear hr0 hmk HD0 HK0 HB2
    go_loopg [16] l0.length (fun kq v16 w' => ∃ i : Nat, v16 = .int .i64 (i : Int) ∧ Aside0 (i ≤ l0.length ∧ l0.length - i ≤ kq) ∧ Aside0 (Kd.R Kd.bool 4 w' w.heap.size (fun k_ => k_ = w2.heap.size) (.slice (some ⟨w2.heap.size, 0, none⟩) l0.length l0.length) (repL x.ds l0.length i)) ∧ Aside0 (Kd.R Kd.bool 4 w' w.heap.size (fun k_ => k_ < w2.heap.size) vd x.ds) ∧ Aside0 (w'.heap[g]? = some (.cells #[.pointer (some ⟨gs, 0, none⟩), vh, vd, vb, .int .i64 x.code, .int .i64 x.place] 84 (0, 0))) ∧ Aside0 (Below w.heap.size w w'))
    case atStart => exact ⟨0, rfl, ⟨by omega, by omega⟩, HR1, HD1, HK1, HB3⟩
    case round =>
      clear HR1 HD1 HK1 HB3
      obtain ⟨i, rfl, HA, HR1, HD1, HK1, HB3⟩ := hrel
      by_cases c2 : i < l0.length
      · obtain ⟨gd, cd, ed, _⟩ := Kd.R_form HD1.out (by have := HL.out; omega)
        have hg2 : wr.cell? ⟨g, 2, none⟩ = some (.slice (some ⟨gd, 0, none⟩) x.ds.length cd) := (blk_cell HK1.out 2).trans (by rw [ed]; rfl)
        have hdr := HD1.out
        rw [ed] at hdr
        obtain ⟨hxd, _⟩ := Kd.R_celln (false : Bool) hdr (i : Int) (by omega) (by have := HL.out; omega)
        obtain ⟨y, hy⟩ : ∃ y, y = rdOf false x.ds (i : Int) := ⟨_, rfl⟩
        have hy2 : y = x.ds.getD i false := hy
        rw [Int.toNat_natCast, ← hy] at hxd
        obtain ⟨hco, hfo⟩ := Kd.R_celln (false : Bool) HR1.out (i : Int) (by omega) (by omega)
        obtain ⟨hpo, hgo⟩ := Kd.R_putg (n := l0.length) HR1.out (i : Int) (!y)
        rw [Int.toNat_natCast] at hco hfo hpo hgo
        have HN := Aside0.mk (show Kd.R Kd.bool 4 (wr.setCell ⟨w2.heap.size, i, none⟩ (.bool (!y))) w.heap.size (fun k_ => k_ = w2.heap.size) (.slice (some ⟨w2.heap.size, 0, none⟩) l0.length l0.length) (repL x.ds l0.length (i + 1)) by
          rw [hy2, repL_succ x.ds l0.length i c2 HL.out.2] at hpo
          rw [hy2]
          exact hpo)
        have HND := Aside0.mk (Kd.R_grown HD1.out hgo (fun k_ hk_ he_ => by injection he_ with he_; omega))
        have HNK := Aside0.mk (blk_grown HK1.out hgo (fun he_ => by injection he_ with he_; have := HG0.out; omega))
        have HNB := Aside0.mk (show Below w.heap.size w (wr.setCell ⟨w2.heap.size, i, none⟩ (.bool (!y))) from HB3.out.setCell HZ.out _)
        have c2b : decide (i < l0.length) = true := decide_eq_true c2
        have p2 : (0 : Int) ≤ (i : Int) := by omega
        have p3 : (i : Int) < (l0.length : Int) := by omega
        have p5 : (i : Int) < (x.ds.length : Int) := by have := HL.out; omega
        have p4 : (i : Int) ≤ 60 := by have := HL.out; omega
        have C2 := Aside0.mk c2
        clear c2 hy hy2 hpo hgo hdr ed
        cases gk with
        | zero => exact absurd HA.out (by have := C2.out; omega)
        | succ k1 =>
          go_wp2
          go_roundg k1
          case measure => omega
          case rel => exact ⟨i + 1, by go_num, ⟨by have := C2.out; omega, by have := HA.out; have := C2.out; omega⟩, HN, HND, HNK, HNB⟩
      · have c2b : decide (i < l0.length) = false := decide_eq_false c2
        have hi : i = l0.length := by have := HA.out; omega
        clear c2
        go_wp2
        go_ret2
        exact ⟨_, rfl, by have h2 := HR1.out; rw [hi, repL_all] at h2; exact Kd.R_mono h2 (fun _ _ => trivial), HB3.out⟩

/-! ### laws_eqBoolS: function 42 -/
def laws_eqBoolS.l0 : Nat → List Bool → List Bool → Int → Option (Bool)
  | 0, _, _, _ => none
  | k + 1, x0, x1, x5 => if x5 < (x0.length : Int) then (if 0 ≤ x5 then (if x5 < (x1.length : Int) then (if ((rdOf false x0 x5) != (rdOf false x1 x5)) = true then (some false) else (laws_eqBoolS.l0 k x0 x1 (wrap64 (x5 + 1)))) else (none)) else (none)) else (some true)
def laws_eqBoolS.f (k : Nat) (l0 : List Bool) (l1 : List Bool) : Option (Bool) := if (l0.length : Int) = (l1.length : Int) then (laws_eqBoolS.l0 k l0 l1 0) else (some false)
theorem laws_eqBoolS.mono_l : ∀ k, (∀ y0 y1 y2, LeO (laws_eqBoolS.l0 k y0 y1 y2) (laws_eqBoolS.l0 (k + 1) y0 y1 y2))
  | 0 => fun _ _ _ r h => by simp [laws_eqBoolS.l0] at h
  | k + 1 => by
    have ih0 := laws_eqBoolS.mono_l k
    · intro y0 y1 y2
      unfold laws_eqBoolS.l0
      repeat' first
      | (with_reducible exact ih0 _ _ _)
      | (with_reducible exact LeO.refl _)
      | (with_reducible exact LeO.none _)
      | (with_reducible refine LeO.ite ?_ ?_)
      | (with_reducible refine LeO.bind ?_ (fun _ => ?_))
      | exact ih0 _ _ _
      | exact LeO.none _
      | refine LeO.ite ?_ ?_
      | refine LeO.bind ?_ (fun _ => ?_)
theorem laws_eqBoolS.mono : ∀ a0 a1 k, LeO (laws_eqBoolS.f k a0 a1) (laws_eqBoolS.f (k + 1) a0 a1) := by
  intro a0 a1 k
  have ih0 := laws_eqBoolS.mono_l k
  unfold laws_eqBoolS.f
  repeat' first
      | (with_reducible exact ih0 _ _ _)
      | (with_reducible exact LeO.refl _)
      | (with_reducible exact LeO.none _)
      | (with_reducible refine LeO.ite ?_ ?_)
      | (with_reducible refine LeO.bind ?_ (fun _ => ?_))
      | exact ih0 _ _ _
      | exact LeO.none _
      | refine LeO.ite ?_ ?_
      | refine LeO.bind ?_ (fun _ => ?_)
set_option maxHeartbeats 8000000 in
set_option maxRecDepth 100000 in
theorem laws_eqBoolS.calls (k : Nat) (A0 : Option Addr) (c0 : Nat) (l0 : List Bool) (A1 : Option Addr) (c1 : Nat) (l1 : List Bool) (r : Bool) (w : World) (hr0 : Kd.C Kd.bool w A0 l0.length l0) (hc0 : l0.length ≤ c0) (hr1 : Kd.C Kd.bool w A1 l1.length l1) (hc1 : l1.length ≤ c1) (h : laws_eqBoolS.f k l0 l1 = some r) :
    Calls Try.prog 42 #[.slice A0 l0.length c0, .slice A1 l1.length c1] w fun e w' => e = .returned (.bool r) ∧ Drawn0 w w' := by
  have HR0 := Aside0.mk hr0
  have HC0 := Aside0.mk hc0
  clear hr0 hc0
  have HR1 := Aside0.mk hr1
  have HC1 := Aside0.mk hc1
  clear hr1 hc1
  have H : (if (l0.length : Int) = (l1.length : Int) then (laws_eqBoolS.l0 k l0 l1 0) else (some false)) = some r := h
  clear h
  by_cases c3 : (l0.length : Int) = (l1.length : Int)
  · rw [if_pos c3] at H
    have c3b0 : ((l0.length : Int) == (l1.length : Int)) = true := beq_iff_eq.mpr c3
    have c3b1 : ((l0.length : Int) != (l1.length : Int)) = false := bne_eq_false_iff_eq.mpr c3
    have c3b2 : (l0.length == l1.length) = true := by first | simpa using c3 | (simp at c3 ⊢; omega)
    clear c3
    have H' := Aside0.mk H
    clear H
    go_enter Try.func42, Try.ntmps42
    go_wp2
    repeat (go_quiet (fail); try go_wp2)
    go_loopg [5] k (fun kq v5 w' => ∃ (x5_1 : Int), v5 = .int .i64 x5_1 ∧ Aside0 (laws_eqBoolS.l0 kq l0 l1 x5_1 = some r) ∧ Aside0 (kq ≤ k) ∧ Drawn0 w w')
    case atStart => exact ⟨(0), (by first | rfl | (simp; done) | (simp [*]; done)), H', ⟨Nat.le_refl _⟩, by repeat (first | exact Drawn0.refl _ | apply Drawn0.step)⟩
    case round =>
      clear H'
      try clear c1
      try clear p2
      try clear c3
      try clear c3b0
      try clear c3b1
      try clear c3b2
      obtain ⟨x5_1, rfl, HA, HK1, ⟨m1, rfl⟩⟩ := hrel
      cases gk with
      | zero => exact absurd HA.out (by simp [laws_eqBoolS.l0])
      | succ k1 =>
        have H := HA.out
        clear HA
        simp only [laws_eqBoolS.l0] at H
        by_cases c4 : x5_1 < (l0.length : Int)
        · rw [if_pos c4] at H
          have c4b0 : decide (x5_1 < (l0.length : Int)) = true := decide_eq_true c4
          clear c4
          by_cases c5 : 0 ≤ x5_1
          · rw [if_pos c5] at H
            have c5b0 : decide (0 ≤ x5_1) = true := decide_eq_true c5
            clear c5
            by_cases c6 : x5_1 < (l1.length : Int)
            · rw [if_pos c6] at H
              have c6b0 : decide (x5_1 < (l1.length : Int)) = true := decide_eq_true c6
              clear c6
              by_cases c7 : ((rdOf false l0 x5_1) != (rdOf false l1 x5_1)) = true
              · rw [if_pos c7] at H
                have c7b0 : ((rdOf false l0 x5_1) != (rdOf false l1 x5_1)) = true := c7
                (try (have c7b1 : decide ((rdOf false l0 x5_1) = (rdOf false l1 x5_1)) = false := by simpa using c7))
                (try (have c7b2 : ((rdOf false l0 x5_1) == (rdOf false l1 x5_1)) = false := by simpa using c7))
                (try (have c7b3 : ¬ ((rdOf false l0 x5_1) = (rdOf false l1 x5_1)) := by simpa using c7))
                clear c7
                obtain rfl := Option.some.inj H
                have p262 : 0 ≤ (x5_1 : Int) := of_decide_eq_true (by first | (with_reducible assumption) | assumption)
                have q262 : x5_1 < (l0.length : Int) := of_decide_eq_true (by first | (with_reducible assumption) | assumption)
                obtain ⟨ad262, e262, hx262_0⟩ := Kd.at_bool HR0.out x5_1 p262 q262
                cases e262
                replace p262 := eq_true p262
                replace q262 := eq_true q262
                have p263 : 0 ≤ (x5_1 : Int) := of_decide_eq_true (by first | (with_reducible assumption) | assumption)
                have q263 : x5_1 < (l1.length : Int) := of_decide_eq_true (by first | (with_reducible assumption) | assumption)
                obtain ⟨ad263, e263, hx263_0⟩ := Kd.at_bool HR1.out x5_1 p263 q263
                cases e263
                replace p263 := eq_true p263
                replace q263 := eq_true q263
                go_wp2
                repeat (go_quiet (fail); try go_wp2)
                go_ret
                exact ⟨by first | rfl | (simp; done) | (simp [*]; done), by repeat (first | exact Drawn0.refl _ | apply Drawn0.step)⟩
              · rw [if_neg c7] at H
                have c7b0 : ((rdOf false l0 x5_1) != (rdOf false l1 x5_1)) = false := by simpa using c7
                (try (have c7b1 : decide ((rdOf false l0 x5_1) = (rdOf false l1 x5_1)) = true := by simpa using c7))
                (try (have c7b2 : ((rdOf false l0 x5_1) == (rdOf false l1 x5_1)) = true := by simpa using c7))
                clear c7
                have H' := Aside0.mk H
                clear H
                have p262 : 0 ≤ (x5_1 : Int) := of_decide_eq_true (by first | (with_reducible assumption) | assumption)
                have q262 : x5_1 < (l0.length : Int) := of_decide_eq_true (by first | (with_reducible assumption) | assumption)
                obtain ⟨ad262, e262, hx262_0⟩ := Kd.at_bool HR0.out x5_1 p262 q262
                cases e262
                replace p262 := eq_true p262
                replace q262 := eq_true q262
                have p263 : 0 ≤ (x5_1 : Int) := of_decide_eq_true (by first | (with_reducible assumption) | assumption)
                have q263 : x5_1 < (l1.length : Int) := of_decide_eq_true (by first | (with_reducible assumption) | assumption)
                obtain ⟨ad263, e263, hx263_0⟩ := Kd.at_bool HR1.out x5_1 p263 q263
                cases e263
                replace p263 := eq_true p263
                replace q263 := eq_true q263
                go_wp2
                repeat (go_quiet (fail); try go_wp2)
                go_roundg k1
                case measure => have := HK1.out; omega
                case rel => exact ⟨(wrap64 (x5_1 + 1)), (by first | rfl | (simp; done) | (simp [*]; done)), H', ⟨by have := HK1.out; omega⟩, by repeat (first | exact Drawn0.refl _ | apply Drawn0.step)⟩
            · rw [if_neg c6] at H
              exact absurd H (by simp)
          · rw [if_neg c5] at H
            exact absurd H (by simp)
        · rw [if_neg c4] at H
          have c4b0 : decide (x5_1 < (l0.length : Int)) = false := decide_eq_false c4
          clear c4
          obtain rfl := Option.some.inj H
          go_wp2
          repeat (go_quiet (fail); try go_wp2)
          go_ret
          exact ⟨by first | rfl | (simp; done) | (simp [*]; done), by repeat (first | exact Drawn0.refl _ | apply Drawn0.step)⟩
  · rw [if_neg c3] at H
    have c3b0 : ((l0.length : Int) == (l1.length : Int)) = false := beq_eq_false_iff_ne.mpr c3
    have c3b1 : ((l0.length : Int) != (l1.length : Int)) = true := bne_iff_ne.mpr c3
    have c3b2 : (l0.length == l1.length) = false := by first | simpa using c3 | (simp at c3 ⊢; omega)
    obtain rfl := Option.some.inj H
    go_enter Try.func42, Try.ntmps42
    go_wp2
    repeat (go_quiet (fail); try go_wp2)
    go_ret
    exact ⟨by first | rfl | (simp; done) | (simp [*]; done), by repeat (first | exact Drawn0.refl _ | apply Drawn0.step)⟩

/-! ### laws_markBoolS: function 43 -/
def laws_markBoolS.l0 : Nat → List Bool → Int → Int → Option (Int × List Bool)
  | 0, _, _, _ => none
  | k + 1, x0, x1, x5 => if x5 < (x0.length : Int) then (if 0 ≤ x5 then (laws_markBoolS.l0 k (x0.set (x5 : Int).toNat ((Int.tmod x1 3) == 0)) (wrap64 (x1 + 1)) (wrap64 (x5 + 1))) else (none)) else (some (x1, x0))
def laws_markBoolS.f (k : Nat) (l0 : List Bool) (a1 : Int) : Option (Int × List Bool) := laws_markBoolS.l0 k l0 a1 0
theorem laws_markBoolS.mono_l : ∀ k, (∀ y0 y1 y2, LeO (laws_markBoolS.l0 k y0 y1 y2) (laws_markBoolS.l0 (k + 1) y0 y1 y2))
  | 0 => fun _ _ _ r h => by simp [laws_markBoolS.l0] at h
  | k + 1 => by
    have ih0 := laws_markBoolS.mono_l k
    · intro y0 y1 y2
      unfold laws_markBoolS.l0
      repeat' first
      | (with_reducible exact ih0 _ _ _)
      | (with_reducible exact LeO.refl _)
      | (with_reducible exact LeO.none _)
      | (with_reducible refine LeO.ite ?_ ?_)
      | (with_reducible refine LeO.bind ?_ (fun _ => ?_))
      | exact ih0 _ _ _
      | exact LeO.none _
      | refine LeO.ite ?_ ?_
      | refine LeO.bind ?_ (fun _ => ?_)
theorem laws_markBoolS.mono : ∀ a0 a1 k, LeO (laws_markBoolS.f k a0 a1) (laws_markBoolS.f (k + 1) a0 a1) := by
  intro a0 a1 k
  have ih0 := laws_markBoolS.mono_l k
  unfold laws_markBoolS.f
  repeat' first
      | (with_reducible exact ih0 _ _ _)
      | (with_reducible exact LeO.refl _)
      | (with_reducible exact LeO.none _)
      | (with_reducible refine LeO.ite ?_ ?_)
      | (with_reducible refine LeO.bind ?_ (fun _ => ?_))
      | exact ih0 _ _ _
      | exact LeO.none _
      | refine LeO.ite ?_ ?_
      | refine LeO.bind ?_ (fun _ => ?_)
set_option maxHeartbeats 8000000 in
set_option maxRecDepth 100000 in
theorem laws_markBoolS.calls (k : Nat) (P0_ : Nat → Prop) (u9000_ : Value) (l0 : List Bool) (a1 : Int) (r1 : Int) (r2 : List Bool) (w0 w : World) (hB : Below w0.heap.size w0 w) (ho0 : Kd.R Kd.bool 4 w w0.heap.size P0_ u9000_ l0) (h : laws_markBoolS.f k l0 a1 = some (r1, r2)) :
    Calls Try.prog 43 #[u9000_, .int .i64 a1] w fun e w' => e = .returned (.int .i64 r1) ∧ Kd.R Kd.bool 4 w' w0.heap.size (fun k_ => (P0_ k_ ∨ w.heap.size ≤ k_)) u9000_ r2 ∧ Below w0.heap.size w0 w' ∧ Kept w w' (fun k_ => P0_ k_) := by
  have HO0 := Aside0.mk (show Kd.R Kd.bool 4 w w0.heap.size (fun k_ => (P0_ k_ ∨ w.heap.size ≤ k_)) u9000_ l0 from Kd.R_mono ho0 (fun k_ hk => (.inl hk)))
  have HK := Aside0.mk (Kept.refl w (fun k_ => P0_ k_))
  have HW0 := Aside0.mk hB.size
  have HB := Aside0.mk hB
  clear hB
  have H : (laws_markBoolS.l0 k l0 a1 0) = some (r1, r2) := h
  clear h
  have H' := Aside0.mk H
  clear H
  go_enter Try.func43, Try.ntmps43
  go_wp2
  go_loopg [1, 5] k (fun kq v1 v5 w' => ∃ (x0_1 : List Bool) (x1_1 : Int) (x5_1 : Int), v1 = .int .i64 x1_1 ∧ v5 = .int .i64 x5_1 ∧ Aside0 (laws_markBoolS.l0 kq x0_1 x1_1 x5_1 = some (r1, r2)) ∧ Aside0 (kq ≤ k) ∧ Aside0 (Kd.R Kd.bool 4 w' w0.heap.size (fun k_ => (P0_ k_ ∨ w.heap.size ≤ k_)) u9000_ x0_1) ∧ Aside0 (Kept w w' (fun k_ => P0_ k_)) ∧ Aside0 (Below w0.heap.size w0 w'))
  case atStart => exact ⟨(l0), (a1), (0), (by first | rfl | (simp; done) | (simp [*]; done)), (by first | rfl | (simp; done) | (simp [*]; done)), H', ⟨Nat.le_refl _⟩, ⟨by (with_reducible repeat (first | apply Kd.R_alloc | apply Kd.R_drewN | apply Kd.R_drew)); exact HO0.out⟩, ⟨by repeat (first | (with_reducible first | exact HK.out | apply Kept.alloc | apply Kept.drewN | apply Kept.drew) | exact HK.out)⟩, ⟨by repeat (first | (with_reducible first | exact HB.out | apply below_alloc | apply pw_below_drewN | apply below_drew1) | exact HB.out)⟩⟩
  case round =>
    clear H'
    try clear p2
    obtain ⟨x0_1, x1_1, x5_1, rfl, rfl, HA, HK1, HO_0, HK, HB⟩ := hrel
    cases gk with
    | zero => exact absurd HA.out (by simp [laws_markBoolS.l0])
    | succ k1 =>
      have H := HA.out
      clear HA
      simp only [laws_markBoolS.l0] at H
      by_cases c3 : x5_1 < (x0_1.length : Int)
      · rw [if_pos c3] at H
        have c3b0 : decide (x5_1 < (x0_1.length : Int)) = true := decide_eq_true c3
        clear c3
        by_cases c4 : 0 ≤ x5_1
        · rw [if_pos c4] at H
          have c4b0 : decide (0 ≤ x5_1) = true := decide_eq_true c4
          clear c4
          obtain ⟨y264, hy264⟩ : ∃ y_ : List Bool, y_ = (x0_1.set (x5_1 : Int).toNat ((Int.tmod x1_1 3) == 0)) := ⟨_, rfl⟩
          replace H : (laws_markBoolS.l0 k1 y264 (wrap64 (x1_1 + 1)) (wrap64 (x5_1 + 1))) = some (r1, r2) := by first | (rw [hy264]; with_reducible exact H) | (have H2_ := (Option.bind_some _ _).symm.trans H; rw [hy264]; with_reducible exact H2_) | (have H2_ := (Option.bind_some _ _).symm.trans H; with_reducible exact H2_) | with_reducible exact H | (rw [hy264]; exact H) | exact H
          have Ny264 := Aside0.mk hy264
          clear hy264
          have H' := Aside0.mk H
          clear H
          obtain ⟨Ao6, co6, eo6⟩ := Kd.R_slice HO_0.out
          subst eo6
          have p5 : 0 ≤ (x5_1 : Int) := of_decide_eq_true (by first | (with_reducible assumption) | assumption)
          have q5 : (x5_1 : Int) < ((x0_1.length : Int) : Int) := of_decide_eq_true (by first | (with_reducible assumption) | assumption)
          obtain ⟨go5, co5, eo5, gb5, gl5, cl5, HG5⟩ := Kd.R_form HO_0.out (by omega)
          (first | cases eo5 | (injection eo5 with ea_ en_ ec_; (first | subst ea_ | (injection ea_ with ea_; subst ea_)); subst ec_; clear en_))
          have GB5 := Aside0.mk gb5
          have GG5 := Aside0.mk HG5
          clear gb5 gl5 HG5
          have HMgo5 := Aside0.mk (show (P0_ go5 ∨ w.heap.size ≤ go5) from (HO_0.out.1 _ rfl))
          obtain ⟨hx5_0, hf5_0⟩ := Kd.R_celln false HO_0.out (x5_1 : Int) p5 q5
          replace p5 := eq_true p5
          replace q5 := eq_true q5
          have HP7 := Kd.R_putg HO_0.out (x5_1 : Int) ((Int.tmod x1_1 3) == 0)
          go_wp2_with (first | ((with_reducible refine gate_store (t := 4) (p := 17) rfl ?_); refine store_event (t := 4) (p := 17) (v := ?vo_w8) (w1 := (wr.setCell ⟨go5, (x5_1 : Int).toNat, none⟩ (.bool ((Int.tmod x1_1 3) == 0)))) ?hg ?ho ?hn ?hr ?_; (case ho => rfl); (case hg => rfl); (case hn => rfl); (case hr => first | (go_simp; done) | (go_simp; rfl)); intro w8 hw; have hg : wr.grownBy w8 (some go5) := (by rw [hw]; exact HP7.2); have hp_ : Kd.R Kd.bool 4 w8 w0.heap.size (fun k_ => (P0_ k_ ∨ w.heap.size ≤ k_)) (.slice (some ⟨go5, 0, none⟩) x0_1.length co6) y264 := (by rw [hw, Ny264.out]; exact HP7.1); clear HP7; have n0_ := Aside0.mk (hp_); have n1_ := Aside0.mk ((by rw [hw]; exact below_set (HB.out) GB5.out : Below w0.heap.size w0 w8)); have n2_ := Aside0.mk (Kept.of_grown (S := (fun k_ => P0_ k_)) hg (by repeat (first | (with_reducible first | exact HK.out | apply Kept.alloc | apply Kept.drewN | apply Kept.drew) | exact HK.out)) (fun k_ e_ => (HO_0.out.1 k_ e_))); clear HO_0; clear HB; clear HK; have HO_0 := n0_; have HB := n1_; have HK := n2_; clear n0_ n1_ n2_; clear hg hw hp_))
          go_roundg k1
          case measure => have := HK1.out; omega
          case rel => exact ⟨(y264), (wrap64 (x1_1 + 1)), (wrap64 (x5_1 + 1)), (by first | rfl | (simp; done) | (simp [*]; done)), (by first | rfl | (simp; done) | (simp [*]; done)), H', ⟨by have := HK1.out; omega⟩, ⟨by (with_reducible repeat (first | apply Kd.R_alloc | apply Kd.R_drewN | apply Kd.R_drew)); exact HO_0.out⟩, ⟨by repeat (first | (with_reducible first | exact HK.out | apply Kept.alloc | apply Kept.drewN | apply Kept.drew) | exact HK.out)⟩, ⟨by repeat (first | (with_reducible first | exact HB.out | apply below_alloc | apply pw_below_drewN | apply below_drew1) | exact HB.out)⟩⟩
        · rw [if_neg c4] at H
          exact absurd H (by simp)
      · rw [if_neg c3] at H
        have c3b0 : decide (x5_1 < (x0_1.length : Int)) = false := decide_eq_false c3
        clear c3
        simp only [Option.some.injEq, Prod.mk.injEq] at H
        obtain ⟨rfl, rfl⟩ := H
        obtain ⟨Ao9, co9, eo9⟩ := Kd.R_slice HO_0.out
        subst eo9
        go_wp2
        go_ret
        exact ⟨by first | rfl | (simp [errW_none, errW_some] <;> rfl) | (simp [*, errW_none, errW_some] <;> rfl), by (with_reducible repeat (first | apply Kd.R_alloc | apply Kd.R_drewN | apply Kd.R_drew)); exact HO_0.out, by repeat (first | (with_reducible first | exact HB.out | apply below_alloc | apply pw_below_drewN | apply below_drew1) | exact HB.out), by repeat (first | (with_reducible first | exact HK.out | apply Kept.alloc | apply Kept.drewN | apply Kept.drew) | exact HK.out)⟩

/-! ### laws_heldBoolS: function 44 -/
def laws_heldBoolS.l0 : Nat → List Bool → Int → Int → Option (Int)
  | 0, _, _, _ => none
  | k + 1, x0, x1, x5 => if x5 < (x0.length : Int) then (if 0 ≤ x5 then (if ((rdOf false x0 x5) != ((Int.tmod x1 3) == 0)) = true then (some (-1)) else (laws_heldBoolS.l0 k x0 (wrap64 (x1 + 1)) (wrap64 (x5 + 1)))) else (none)) else (some x1)
def laws_heldBoolS.f (k : Nat) (l0 : List Bool) (a1 : Int) : Option (Int) := laws_heldBoolS.l0 k l0 a1 0
theorem laws_heldBoolS.mono_l : ∀ k, (∀ y0 y1 y2, LeO (laws_heldBoolS.l0 k y0 y1 y2) (laws_heldBoolS.l0 (k + 1) y0 y1 y2))
  | 0 => fun _ _ _ r h => by simp [laws_heldBoolS.l0] at h
  | k + 1 => by
    have ih0 := laws_heldBoolS.mono_l k
    · intro y0 y1 y2
      unfold laws_heldBoolS.l0
      repeat' first
      | (with_reducible exact ih0 _ _ _)
      | (with_reducible exact LeO.refl _)
      | (with_reducible exact LeO.none _)
      | (with_reducible refine LeO.ite ?_ ?_)
      | (with_reducible refine LeO.bind ?_ (fun _ => ?_))
      | exact ih0 _ _ _
      | exact LeO.none _
      | refine LeO.ite ?_ ?_
      | refine LeO.bind ?_ (fun _ => ?_)
theorem laws_heldBoolS.mono : ∀ a0 a1 k, LeO (laws_heldBoolS.f k a0 a1) (laws_heldBoolS.f (k + 1) a0 a1) := by
  intro a0 a1 k
  have ih0 := laws_heldBoolS.mono_l k
  unfold laws_heldBoolS.f
  repeat' first
      | (with_reducible exact ih0 _ _ _)
      | (with_reducible exact LeO.refl _)
      | (with_reducible exact LeO.none _)
      | (with_reducible refine LeO.ite ?_ ?_)
      | (with_reducible refine LeO.bind ?_ (fun _ => ?_))
      | exact ih0 _ _ _
      | exact LeO.none _
      | refine LeO.ite ?_ ?_
      | refine LeO.bind ?_ (fun _ => ?_)
set_option maxHeartbeats 8000000 in
set_option maxRecDepth 100000 in
theorem laws_heldBoolS.calls (k : Nat) (A0 : Option Addr) (c0 : Nat) (l0 : List Bool) (a1 : Int) (r : Int) (w : World) (hr0 : Kd.C Kd.bool w A0 l0.length l0) (hc0 : l0.length ≤ c0) (h : laws_heldBoolS.f k l0 a1 = some r) :
    Calls Try.prog 44 #[.slice A0 l0.length c0, .int .i64 a1] w fun e w' => e = .returned (.int .i64 r) ∧ Drawn0 w w' := by
  have HR0 := Aside0.mk hr0
  have HC0 := Aside0.mk hc0
  clear hr0 hc0
  have H : (laws_heldBoolS.l0 k l0 a1 0) = some r := h
  clear h
  have H' := Aside0.mk H
  clear H
  go_enter Try.func44, Try.ntmps44
  go_wp2
  go_loopg [1, 5] k (fun kq v1 v5 w' => ∃ (x1_1 : Int) (x5_1 : Int), v1 = .int .i64 x1_1 ∧ v5 = .int .i64 x5_1 ∧ Aside0 (laws_heldBoolS.l0 kq l0 x1_1 x5_1 = some r) ∧ Aside0 (kq ≤ k) ∧ Drawn0 w w')
  case atStart => exact ⟨(a1), (0), (by first | rfl | (simp; done) | (simp [*]; done)), (by first | rfl | (simp; done) | (simp [*]; done)), H', ⟨Nat.le_refl _⟩, by repeat (first | exact Drawn0.refl _ | apply Drawn0.step)⟩
  case round =>
    clear H'
    try clear p2
    obtain ⟨x1_1, x5_1, rfl, rfl, HA, HK1, ⟨m1, rfl⟩⟩ := hrel
    cases gk with
    | zero => exact absurd HA.out (by simp [laws_heldBoolS.l0])
    | succ k1 =>
      have H := HA.out
      clear HA
      simp only [laws_heldBoolS.l0] at H
      by_cases c3 : x5_1 < (l0.length : Int)
      · rw [if_pos c3] at H
        have c3b0 : decide (x5_1 < (l0.length : Int)) = true := decide_eq_true c3
        clear c3
        by_cases c4 : 0 ≤ x5_1
        · rw [if_pos c4] at H
          have c4b0 : decide (0 ≤ x5_1) = true := decide_eq_true c4
          clear c4
          by_cases c5 : ((rdOf false l0 x5_1) != ((Int.tmod x1_1 3) == 0)) = true
          · rw [if_pos c5] at H
            have c5b0 : ((rdOf false l0 x5_1) != ((Int.tmod x1_1 3) == 0)) = true := c5
            (try (have c5b1 : decide ((rdOf false l0 x5_1) = ((Int.tmod x1_1 3) == 0)) = false := by simpa using c5))
            (try (have c5b2 : ((rdOf false l0 x5_1) == ((Int.tmod x1_1 3) == 0)) = false := by simpa using c5))
            (try (have c5b3 : ¬ ((rdOf false l0 x5_1) = ((Int.tmod x1_1 3) == 0)) := by simpa using c5))
            clear c5
            obtain rfl := Option.some.inj H
            have p265 : 0 ≤ (x5_1 : Int) := of_decide_eq_true (by first | (with_reducible assumption) | assumption)
            have q265 : x5_1 < (l0.length : Int) := of_decide_eq_true (by first | (with_reducible assumption) | assumption)
            obtain ⟨ad265, e265, hx265_0⟩ := Kd.at_bool HR0.out x5_1 p265 q265
            cases e265
            replace p265 := eq_true p265
            replace q265 := eq_true q265
            go_wp2
            go_ret
            exact ⟨by first | rfl | (simp; done) | (simp [*]; done), by repeat (first | exact Drawn0.refl _ | apply Drawn0.step)⟩
          · rw [if_neg c5] at H
            have c5b0 : ((rdOf false l0 x5_1) != ((Int.tmod x1_1 3) == 0)) = false := by simpa using c5
            (try (have c5b1 : decide ((rdOf false l0 x5_1) = ((Int.tmod x1_1 3) == 0)) = true := by simpa using c5))
            (try (have c5b2 : ((rdOf false l0 x5_1) == ((Int.tmod x1_1 3) == 0)) = true := by simpa using c5))
            clear c5
            have H' := Aside0.mk H
            clear H
            have p265 : 0 ≤ (x5_1 : Int) := of_decide_eq_true (by first | (with_reducible assumption) | assumption)
            have q265 : x5_1 < (l0.length : Int) := of_decide_eq_true (by first | (with_reducible assumption) | assumption)
            obtain ⟨ad265, e265, hx265_0⟩ := Kd.at_bool HR0.out x5_1 p265 q265
            cases e265
            replace p265 := eq_true p265
            replace q265 := eq_true q265
            go_wp2
            go_roundg k1
            case measure => have := HK1.out; omega
            case rel => exact ⟨(wrap64 (x1_1 + 1)), (wrap64 (x5_1 + 1)), (by first | rfl | (simp; done) | (simp [*]; done)), (by first | rfl | (simp; done) | (simp [*]; done)), H', ⟨by have := HK1.out; omega⟩, by repeat (first | exact Drawn0.refl _ | apply Drawn0.step)⟩
        · rw [if_neg c4] at H
          exact absurd H (by simp)
      · rw [if_neg c3] at H
        have c3b0 : decide (x5_1 < (l0.length : Int)) = false := decide_eq_false c3
        clear c3
        obtain rfl := Option.some.inj H
        go_wp2
        go_ret
        exact ⟨by first | rfl | (simp; done) | (simp [*]; done), by repeat (first | exact Drawn0.refl _ | apply Drawn0.step)⟩

-- WRITTEN BY lawgen.py
/-! ### laws_FnExactReachesOf: function 12 (by lawgen.py: rows in rows are marked) -/
def laws_FnExactReachesOf.f (k : Nat) (l0 : List (S55)) : Option Bool := (laws_szStepS.f k l0 1048576).bind fun t2 => (if t2 < 0 then (some true) else ((laws_toStepS.f k l0).bind fun t7 => ((spec_ReachesOf.f k t7).bind fun bt16 => ((laws_toStepS.f k l0).bind fun t26 => ((impl_ReachesOf.f k t26).bind fun bt35 => ((laws_eqBoolS.f k bt35.1 bt16.1).bind fun t45 => (if t45 = true then (if bt35.2 = bt16.2 then ((laws_toStepS.f k l0).bind fun t50 => ((laws_eqStepS.f k t26 t50).bind fun t59 => (if t59 = true then ((laws_markStepS.f k t26 1).bind fun bt64 => (if bt64.1 < 0 then (none) else ((laws_eqBoolS.f k bt35.1 bt16.1).bind fun t71 => (if t71 = true then (if bt35.2 = bt16.2 then ((laws_markBoolS.f k bt35.1 1).bind fun bt76 => ((laws_heldBoolS.f k bt76.2 1).bind fun t83 => (if t83 < 0 then (none) else (if t83 = bt76.1 then ((laws_toStepS.f k l0).bind fun t88 => ((impl_ReachesOf.f k t88).bind fun bt97 => ((laws_eqBoolS.f k bt97.1 bt16.1).bind fun t107 => (if t107 = true then (if bt97.2 = bt16.2 then ((laws_heldBoolS.f k bt76.2 1).bind fun t112 => (if t112 < 0 then (none) else (if t112 = bt76.1 then (some true) else none))) else none) else none)))) else none)))) else none) else none)))) else none))) else none) else none)))))))
theorem laws_FnExactReachesOf.mono : ∀ a0 k, LeO (laws_FnExactReachesOf.f k a0) (laws_FnExactReachesOf.f (k + 1) a0) := by
  intro a0 k
  unfold laws_FnExactReachesOf.f
  repeat' first
      | (with_reducible exact laws_szStepS.mono _ _ _)
      | (with_reducible exact laws_toStepS.mono _ _)
      | (with_reducible exact spec_ReachesOf.mono _ _)
      | (with_reducible exact impl_ReachesOf.mono _ _)
      | (with_reducible exact laws_eqBoolS.mono _ _ _)
      | (with_reducible exact laws_eqStepS.mono _ _ _)
      | (with_reducible exact laws_markStepS.mono _ _ _)
      | (with_reducible exact laws_markBoolS.mono _ _ _)
      | (with_reducible exact laws_heldBoolS.mono _ _ _)
      | (with_reducible exact LeO.refl _)
      | (with_reducible exact LeO.none _)
      | (with_reducible refine LeO.ite ?_ ?_)
      | (with_reducible refine LeO.bind ?_ (fun _ => ?_))
set_option maxHeartbeats 8000000 in
set_option maxRecDepth 100000 in
theorem laws_FnExactReachesOf.calls (k : Nat) (A0 : Option Addr) (c0 : Nat) (l0 : List (S55)) (r : Bool) (w : World) (hr0 : Kd.C k55 w A0 l0.length l0) (hc0 : l0.length ≤ c0) (h : laws_FnExactReachesOf.f k l0 = some r) :
    Calls Try.prog 12 #[.slice A0 l0.length c0] w fun e w' => e = .returned (.bool r) ∧ Below w.heap.size w w' := by
  have HR0 := Aside0.mk hr0
  have HC0 := Aside0.mk hc0
  clear hr0 hc0
  have tok4 : Aside0 True := ⟨trivial⟩
  have tok9 : Aside0 True := ⟨trivial⟩
  have tok19 : Aside0 True := ⟨trivial⟩
  have tok28 : Aside0 True := ⟨trivial⟩
  have tok38 : Aside0 True := ⟨trivial⟩
  have tok47 : Aside0 True := ⟨trivial⟩
  have tok52 : Aside0 True := ⟨trivial⟩
  have tok61 : Aside0 True := ⟨trivial⟩
  have tok67 : Aside0 True := ⟨trivial⟩
  have tok73 : Aside0 True := ⟨trivial⟩
  have tok79 : Aside0 True := ⟨trivial⟩
  have tok85 : Aside0 True := ⟨trivial⟩
  have tok90 : Aside0 True := ⟨trivial⟩
  have tok100 : Aside0 True := ⟨trivial⟩
  have tok109 : Aside0 True := ⟨trivial⟩
  have tok114 : Aside0 True := ⟨trivial⟩
  have HB := Aside0.mk (Below.refl w.heap.size w)
  unfold laws_FnExactReachesOf.f at h
  have bq_ : ∀ b_ : Bool, (b_ != b_) = false := by decide
  replace h := Option.bind_eq_some_iff.mp h
  obtain ⟨t2, A10, h⟩ := h
  (try dsimp only at h)
  have A1 := Aside0.mk A10
  clear A10
  by_cases c1 : t2 < 0
  · rw [if_pos c1] at h
    obtain rfl := Option.some.inj h
    have c1b : decide (t2 < 0) = true := decide_eq_true c1
    clear c1
    go_enter Try.func12, Try.ntmps12
    go_wp2_with (first | (go_at_call 14; have u_ := tok4; clear u_; ((with_reducible refine (laws_szStepS.calls k _ _ l0 1048576 t2 _ (Kd.C_below HR0.out HB.out) HC0.out A1.out).mono ?_)); rintro e w3 ⟨rfl, hb⟩; have nb_ := Aside0.mk (below_step HB.out hb); clear HB; have HB := nb_; clear nb_; have Z5 := Aside0.mk hb.size; clear hb tok4))
    go_ret
    exact ⟨rfl, HB.out⟩
  rw [if_neg c1] at h
  have c1b : decide (t2 < 0) = false := decide_eq_false c1
  clear c1
  replace h := Option.bind_eq_some_iff.mp h
  obtain ⟨t7, A60, h⟩ := h
  (try dsimp only at h)
  have A6 := Aside0.mk A60
  clear A60
  replace h := Option.bind_eq_some_iff.mp h
  obtain ⟨⟨t16, t17⟩, A150, h⟩ := h
  (try dsimp only at h)
  have A15 := Aside0.mk A150
  clear A150
  replace h := Option.bind_eq_some_iff.mp h
  obtain ⟨t26, A250, h⟩ := h
  (try dsimp only at h)
  have A25 := Aside0.mk A250
  clear A250
  replace h := Option.bind_eq_some_iff.mp h
  obtain ⟨⟨t35, t36⟩, A340, h⟩ := h
  (try dsimp only at h)
  have A34 := Aside0.mk A340
  clear A340
  replace h := Option.bind_eq_some_iff.mp h
  obtain ⟨t45, A440, h⟩ := h
  (try dsimp only at h)
  have A44 := Aside0.mk A440
  clear A440
  cases t45 with
  | false => exact absurd h (by simp)
  | true =>
    rw [if_pos rfl] at h
    by_cases c2 : t36 = t17
    rotate_left
    · rw [if_neg c2] at h; exact absurd h (by simp)
    rw [if_pos c2] at h
    have c2b : (t36 != t17) = false := by rw [c2]; simp
    have c2d : (t36 == t17) = true := by rw [c2]; simp
    have C2 := Aside0.mk c2
    clear c2
    replace h := Option.bind_eq_some_iff.mp h
    obtain ⟨t50, A490, h⟩ := h
    (try dsimp only at h)
    have A49 := Aside0.mk A490
    clear A490
    replace h := Option.bind_eq_some_iff.mp h
    obtain ⟨t59, A580, h⟩ := h
    (try dsimp only at h)
    have A58 := Aside0.mk A580
    clear A580
    cases t59 with
    | false => exact absurd h (by simp)
    | true =>
      rw [if_pos rfl] at h
      replace h := Option.bind_eq_some_iff.mp h
      obtain ⟨⟨t64, t65⟩, A630, h⟩ := h
      (try dsimp only at h)
      have A63 := Aside0.mk A630
      clear A630
      by_cases c3 : t64 < 0
      · rw [if_pos c3] at h; exact absurd h (by simp)
      rw [if_neg c3] at h
      have c3b : decide (t64 < 0) = false := decide_eq_false c3
      clear c3
      replace h := Option.bind_eq_some_iff.mp h
      obtain ⟨t71, A700, h⟩ := h
      (try dsimp only at h)
      have A70 := Aside0.mk A700
      clear A700
      cases t71 with
      | false => exact absurd h (by simp)
      | true =>
        rw [if_pos rfl] at h
        by_cases c4 : t36 = t17
        rotate_left
        · rw [if_neg c4] at h; exact absurd h (by simp)
        rw [if_pos c4] at h
        have c4b : (t36 != t17) = false := by rw [c4]; simp
        have c4d : (t36 == t17) = true := by rw [c4]; simp
        have C4 := Aside0.mk c4
        clear c4
        replace h := Option.bind_eq_some_iff.mp h
        obtain ⟨⟨t76, t77⟩, A750, h⟩ := h
        (try dsimp only at h)
        have A75 := Aside0.mk A750
        clear A750
        replace h := Option.bind_eq_some_iff.mp h
        obtain ⟨t83, A820, h⟩ := h
        (try dsimp only at h)
        have A82 := Aside0.mk A820
        clear A820
        by_cases c5 : t83 < 0
        · rw [if_pos c5] at h; exact absurd h (by simp)
        rw [if_neg c5] at h
        have c5b : decide (t83 < 0) = false := decide_eq_false c5
        clear c5
        by_cases c6 : t83 = t76
        rotate_left
        · rw [if_neg c6] at h; exact absurd h (by simp)
        rw [if_pos c6] at h
        have c6b : (t83 != t76) = false := by rw [c6]; simp
        have c6d : (t83 == t76) = true := by rw [c6]; simp
        have C6 := Aside0.mk c6
        clear c6
        replace h := Option.bind_eq_some_iff.mp h
        obtain ⟨t88, A870, h⟩ := h
        (try dsimp only at h)
        have A87 := Aside0.mk A870
        clear A870
        replace h := Option.bind_eq_some_iff.mp h
        obtain ⟨⟨t97, t98⟩, A960, h⟩ := h
        (try dsimp only at h)
        have A96 := Aside0.mk A960
        clear A960
        replace h := Option.bind_eq_some_iff.mp h
        obtain ⟨t107, A1060, h⟩ := h
        (try dsimp only at h)
        have A106 := Aside0.mk A1060
        clear A1060
        cases t107 with
        | false => exact absurd h (by simp)
        | true =>
          rw [if_pos rfl] at h
          by_cases c7 : t98 = t17
          rotate_left
          · rw [if_neg c7] at h; exact absurd h (by simp)
          rw [if_pos c7] at h
          have c7b : (t98 != t17) = false := by rw [c7]; simp
          have c7d : (t98 == t17) = true := by rw [c7]; simp
          have C7 := Aside0.mk c7
          clear c7
          replace h := Option.bind_eq_some_iff.mp h
          obtain ⟨t112, A1110, h⟩ := h
          (try dsimp only at h)
          have A111 := Aside0.mk A1110
          clear A1110
          by_cases c8 : t112 < 0
          · rw [if_pos c8] at h; exact absurd h (by simp)
          rw [if_neg c8] at h
          have c8b : decide (t112 < 0) = false := decide_eq_false c8
          clear c8
          by_cases c9 : t112 = t76
          rotate_left
          · rw [if_neg c9] at h; exact absurd h (by simp)
          rw [if_pos c9] at h
          have c9b : (t112 != t76) = false := by rw [c9]; simp
          have c9d : (t112 == t76) = true := by rw [c9]; simp
          have C9 := Aside0.mk c9
          clear c9
          obtain rfl := Option.some.inj h
          go_enter Try.func12, Try.ntmps12
          go_wp2_with (first | (go_at_call 14; have u_ := tok4; clear u_; ((with_reducible refine (laws_szStepS.calls k _ _ l0 1048576 t2 _ (Kd.C_below HR0.out HB.out) HC0.out A1.out).mono ?_)); rintro e w3 ⟨rfl, hb⟩; have nb_ := Aside0.mk (below_step HB.out hb); clear HB; have HB := nb_; clear nb_; have Z5 := Aside0.mk hb.size; clear hb tok4) | (go_at_call 16; have u_ := tok9; clear u_; ((with_reducible refine (laws_toStepS.calls k _ _ l0 t7 _ (Kd.C_below HR0.out HB.out) HC0.out A6.out).mono ?_)); rintro e w8 ⟨v10, rfl, ho0, hb⟩; have nF11_ := Aside0.mk (OwnS.make HB.out hb ho0); have nb_ := Aside0.mk (below_step HB.out hb); clear HB; have HB := nb_; clear nb_; have Z12 := Aside0.mk hb.size; have F11 := nF11_; clear nF11_; obtain ⟨Ao14, co14, eo14⟩ := Kd.S_slice F11.out; subst eo14; clear hb tok9 ho0) | (go_at_call 40; have u_ := tok19; clear u_; ((with_reducible refine (spec_ReachesOf.calls k _ _ t7 t16 t17 _ (Kd.S_reads' F11.out).2.2 (S_cap F11.out) A15.out).mono ?_)); rintro e w18 ⟨v20, rfl, ho0, hb⟩; have nF21_ := Aside0.mk (OwnR.make HB.out hb ho0); have n0_ := Aside0.mk (OwnS.below F11.out hb); have nb_ := Aside0.mk (below_step HB.out hb); clear F11 HB; have F11 := n0_; have HB := nb_; clear n0_ nb_; have Z22 := Aside0.mk hb.size; have F21 := nF21_; clear nF21_; obtain ⟨Ao24, co24, eo24⟩ := Kd.R_slice F21.out; subst eo24; clear hb tok19 ho0) | (go_at_call 16; have u_ := tok28; clear u_; ((with_reducible refine (laws_toStepS.calls k _ _ l0 t26 _ (Kd.C_below HR0.out HB.out) HC0.out A25.out).mono ?_)); rintro e w27 ⟨v29, rfl, ho0, hb⟩; have nF30_ := Aside0.mk (OwnS.make HB.out hb ho0); have n0_ := Aside0.mk (OwnS.below F11.out hb); have n1_ := Aside0.mk (OwnR.below F21.out hb); have nb_ := Aside0.mk (below_step HB.out hb); clear F11 F21 HB; have F11 := n0_; have F21 := n1_; have HB := nb_; clear n0_ n1_ nb_; have Z31 := Aside0.mk hb.size; have F30 := nF30_; clear nF30_; obtain ⟨Ao33, co33, eo33⟩ := Kd.S_slice F30.out; subst eo33; clear hb tok28 ho0) | (go_at_call 41; have u_ := tok38; clear u_; ((with_reducible refine (impl_ReachesOf.calls k _ _ t26 t35 t36 _ (Kd.S_reads' F30.out).2.2 (S_cap F30.out) A34.out).mono ?_)); rintro e w37 ⟨v39, rfl, ho0, hb⟩; have nF40_ := Aside0.mk (OwnR.make HB.out hb ho0); have n0_ := Aside0.mk (OwnS.below F11.out hb); have n1_ := Aside0.mk (OwnR.below F21.out hb); have n2_ := Aside0.mk (OwnS.below F30.out hb); have nb_ := Aside0.mk (below_step HB.out hb); clear F11 F21 F30 HB; have F11 := n0_; have F21 := n1_; have F30 := n2_; have HB := nb_; clear n0_ n1_ n2_ nb_; have Z41 := Aside0.mk hb.size; have F40 := nF40_; clear nF40_; obtain ⟨Ao43, co43, eo43⟩ := Kd.R_slice F40.out; subst eo43; clear hb tok38 ho0) | (go_at_call 42; have u_ := tok47; clear u_; ((with_reducible refine (laws_eqBoolS.calls k _ _ t35 _ _ t16 true _ (Kd.R_reads' F40.out).2.2 (R_cap F40.out) (Kd.R_reads' F21.out).2.2 (R_cap F21.out) A44.out).mono ?_)); rintro e w46 ⟨rfl, hd⟩; have hb := hd.below; clear hd; have n0_ := Aside0.mk (OwnS.below F11.out hb); have n1_ := Aside0.mk (OwnR.below F21.out hb); have n2_ := Aside0.mk (OwnS.below F30.out hb); have n3_ := Aside0.mk (OwnR.below F40.out hb); have nb_ := Aside0.mk (below_step HB.out hb); clear F11 F21 F30 F40 HB; have F11 := n0_; have F21 := n1_; have F30 := n2_; have F40 := n3_; have HB := nb_; clear n0_ n1_ n2_ n3_ nb_; have Z48 := Aside0.mk hb.size; clear hb tok47) | (go_at_call 16; have u_ := tok52; clear u_; ((with_reducible refine (laws_toStepS.calls k _ _ l0 t50 _ (Kd.C_below HR0.out HB.out) HC0.out A49.out).mono ?_)); rintro e w51 ⟨v53, rfl, ho0, hb⟩; have nF54_ := Aside0.mk (OwnS.make HB.out hb ho0); have n0_ := Aside0.mk (OwnS.below F11.out hb); have n1_ := Aside0.mk (OwnR.below F21.out hb); have n2_ := Aside0.mk (OwnS.below F30.out hb); have n3_ := Aside0.mk (OwnR.below F40.out hb); have nb_ := Aside0.mk (below_step HB.out hb); clear F11 F21 F30 F40 HB; have F11 := n0_; have F21 := n1_; have F30 := n2_; have F40 := n3_; have HB := nb_; clear n0_ n1_ n2_ n3_ nb_; have Z55 := Aside0.mk hb.size; have F54 := nF54_; clear nF54_; obtain ⟨Ao57, co57, eo57⟩ := Kd.S_slice F54.out; subst eo57; clear hb tok52 ho0) | (go_at_call 18; have u_ := tok61; clear u_; ((with_reducible refine (laws_eqStepS.calls k _ _ t26 _ _ t50 true _ (Kd.S_reads' F30.out).2.2 (S_cap F30.out) (Kd.S_reads' F54.out).2.2 (S_cap F54.out) A58.out).mono ?_)); rintro e w60 ⟨rfl, hb⟩; have n0_ := Aside0.mk (OwnS.below F11.out hb); have n1_ := Aside0.mk (OwnR.below F21.out hb); have n2_ := Aside0.mk (OwnS.below F30.out hb); have n3_ := Aside0.mk (OwnR.below F40.out hb); have n4_ := Aside0.mk (OwnS.below F54.out hb); have nb_ := Aside0.mk (below_step HB.out hb); clear F11 F21 F30 F40 F54 HB; have F11 := n0_; have F21 := n1_; have F30 := n2_; have F40 := n3_; have F54 := n4_; have HB := nb_; clear n0_ n1_ n2_ n3_ n4_ nb_; have Z62 := Aside0.mk hb.size; clear hb tok61) | (go_at_call 22; have u_ := tok67; clear u_; ((with_reducible refine (laws_markStepS.calls k (fun k_ => w18.heap.size ≤ k_ ∧ k_ < w27.heap.size) (.slice Ao33 t26.length co33) t26 1 t64 t65 w _ HB.out F30.out A63.out).mono ?_)); rintro e w66 ⟨rfl, hy, hb, hkp⟩; have Z68 := Aside0.mk hkp.1; have ny_ : Aside0 (OwnS k56 56 w w66 w18.heap.size w27.heap.size (.slice Ao33 t26.length co33) t65) := ⟨hy⟩; have n0_ := Aside0.mk (OwnS.kept F11.out hkp (by have := Z5.out; have := Z12.out; have := Z22.out; have := Z31.out; have := Z41.out; have := Z48.out; have := Z55.out; have := Z62.out; omega)); have n1_ := Aside0.mk (OwnR.kept F21.out hkp (by have := Z5.out; have := Z12.out; have := Z22.out; have := Z31.out; have := Z41.out; have := Z48.out; have := Z55.out; have := Z62.out; omega)); have n3_ := Aside0.mk (OwnR.kept F40.out hkp (by have := Z5.out; have := Z12.out; have := Z22.out; have := Z31.out; have := Z41.out; have := Z48.out; have := Z55.out; have := Z62.out; omega)); have n4_ := Aside0.mk (OwnS.kept F54.out hkp (by have := Z5.out; have := Z12.out; have := Z22.out; have := Z31.out; have := Z41.out; have := Z48.out; have := Z55.out; have := Z62.out; omega)); have nb_ := Aside0.mk (hb); clear F11 F21 F40 F54 HB; have F11 := n0_; have F21 := n1_; have F40 := n3_; have F54 := n4_; have HB := nb_; clear n0_ n1_ n3_ n4_ nb_; have F69 := ny_; clear ny_ hy hb hkp F30; clear tok67) | (go_at_call 42; have u_ := tok73; clear u_; ((with_reducible refine (laws_eqBoolS.calls k _ _ t35 _ _ t16 true _ (Kd.R_reads' F40.out).2.2 (R_cap F40.out) (Kd.R_reads' F21.out).2.2 (R_cap F21.out) A70.out).mono ?_)); rintro e w72 ⟨rfl, hd⟩; have hb := hd.below; clear hd; have n0_ := Aside0.mk (OwnS.below F11.out hb); have n1_ := Aside0.mk (OwnR.below F21.out hb); have n2_ := Aside0.mk (OwnS.below F69.out hb); have n3_ := Aside0.mk (OwnR.below F40.out hb); have n4_ := Aside0.mk (OwnS.below F54.out hb); have nb_ := Aside0.mk (below_step HB.out hb); clear F11 F21 F69 F40 F54 HB; have F11 := n0_; have F21 := n1_; have F69 := n2_; have F40 := n3_; have F54 := n4_; have HB := nb_; clear n0_ n1_ n2_ n3_ n4_ nb_; have Z74 := Aside0.mk hb.size; clear hb tok73) | (go_at_call 43; have u_ := tok79; clear u_; ((with_reducible refine (laws_markBoolS.calls k (fun k_ => w27.heap.size ≤ k_ ∧ k_ < w37.heap.size) (.slice Ao43 t35.length co43) t35 1 t76 t77 w _ HB.out F40.out A75.out).mono ?_)); rintro e w78 ⟨rfl, hy, hb, hkp⟩; have Z80 := Aside0.mk hkp.1; have ny_ : Aside0 (OwnR Kd.bool 4 w w78 w27.heap.size w37.heap.size (.slice Ao43 t35.length co43) t77) := ⟨Kd.R_reok rfl hy (fun k_ e_ => F40.out.1 k_ e_)⟩; have n0_ := Aside0.mk (OwnS.kept F11.out hkp (by have := Z5.out; have := Z12.out; have := Z22.out; have := Z31.out; have := Z41.out; have := Z48.out; have := Z55.out; have := Z62.out; have := Z68.out; have := Z74.out; omega)); have n1_ := Aside0.mk (OwnR.kept F21.out hkp (by have := Z5.out; have := Z12.out; have := Z22.out; have := Z31.out; have := Z41.out; have := Z48.out; have := Z55.out; have := Z62.out; have := Z68.out; have := Z74.out; omega)); have n2_ := Aside0.mk (OwnS.kept F69.out hkp (by have := Z5.out; have := Z12.out; have := Z22.out; have := Z31.out; have := Z41.out; have := Z48.out; have := Z55.out; have := Z62.out; have := Z68.out; have := Z74.out; omega)); have n4_ := Aside0.mk (OwnS.kept F54.out hkp (by have := Z5.out; have := Z12.out; have := Z22.out; have := Z31.out; have := Z41.out; have := Z48.out; have := Z55.out; have := Z62.out; have := Z68.out; have := Z74.out; omega)); have nb_ := Aside0.mk (hb); clear F11 F21 F69 F54 HB; have F11 := n0_; have F21 := n1_; have F69 := n2_; have F54 := n4_; have HB := nb_; clear n0_ n1_ n2_ n4_ nb_; have F81 := ny_; clear ny_ hy hb hkp F40; clear tok79) | (go_at_call 44; have u_ := tok85; clear u_; refine calls_of_args (args' := #[.slice Ao43 t77.length co43, .int .i64 1]) (by first | (rw [show t77.length = t35.length from (Kd.R_reads' F81.out).1.symm]; done) | (rw [show t77.length = t35.length from (Kd.R_reads' F81.out).1.symm]; rfl)) ?_; ((with_reducible refine (laws_heldBoolS.calls k _ _ t77 1 t83 _ (Kd.R_reads' F81.out).2.2 (R_cap F81.out) A82.out).mono ?_)); rintro e w84 ⟨rfl, hd⟩; have hb := hd.below; clear hd; have n0_ := Aside0.mk (OwnS.below F11.out hb); have n1_ := Aside0.mk (OwnR.below F21.out hb); have n2_ := Aside0.mk (OwnS.below F69.out hb); have n3_ := Aside0.mk (OwnR.below F81.out hb); have n4_ := Aside0.mk (OwnS.below F54.out hb); have nb_ := Aside0.mk (below_step HB.out hb); clear F11 F21 F69 F81 F54 HB; have F11 := n0_; have F21 := n1_; have F69 := n2_; have F81 := n3_; have F54 := n4_; have HB := nb_; clear n0_ n1_ n2_ n3_ n4_ nb_; have Z86 := Aside0.mk hb.size; clear hb tok85) | (go_at_call 16; have u_ := tok90; clear u_; ((with_reducible refine (laws_toStepS.calls k _ _ l0 t88 _ (Kd.C_below HR0.out HB.out) HC0.out A87.out).mono ?_)); rintro e w89 ⟨v91, rfl, ho0, hb⟩; have nF92_ := Aside0.mk (OwnS.make HB.out hb ho0); have n0_ := Aside0.mk (OwnS.below F11.out hb); have n1_ := Aside0.mk (OwnR.below F21.out hb); have n2_ := Aside0.mk (OwnS.below F69.out hb); have n3_ := Aside0.mk (OwnR.below F81.out hb); have n4_ := Aside0.mk (OwnS.below F54.out hb); have nb_ := Aside0.mk (below_step HB.out hb); clear F11 F21 F69 F81 F54 HB; have F11 := n0_; have F21 := n1_; have F69 := n2_; have F81 := n3_; have F54 := n4_; have HB := nb_; clear n0_ n1_ n2_ n3_ n4_ nb_; have Z93 := Aside0.mk hb.size; have F92 := nF92_; clear nF92_; obtain ⟨Ao95, co95, eo95⟩ := Kd.S_slice F92.out; subst eo95; clear hb tok90 ho0) | (go_at_call 41; have u_ := tok100; clear u_; ((with_reducible refine (impl_ReachesOf.calls k _ _ t88 t97 t98 _ (Kd.S_reads' F92.out).2.2 (S_cap F92.out) A96.out).mono ?_)); rintro e w99 ⟨v101, rfl, ho0, hb⟩; have nF102_ := Aside0.mk (OwnR.make HB.out hb ho0); have n0_ := Aside0.mk (OwnS.below F11.out hb); have n1_ := Aside0.mk (OwnR.below F21.out hb); have n2_ := Aside0.mk (OwnS.below F69.out hb); have n3_ := Aside0.mk (OwnR.below F81.out hb); have n4_ := Aside0.mk (OwnS.below F54.out hb); have n5_ := Aside0.mk (OwnS.below F92.out hb); have nb_ := Aside0.mk (below_step HB.out hb); clear F11 F21 F69 F81 F54 F92 HB; have F11 := n0_; have F21 := n1_; have F69 := n2_; have F81 := n3_; have F54 := n4_; have F92 := n5_; have HB := nb_; clear n0_ n1_ n2_ n3_ n4_ n5_ nb_; have Z103 := Aside0.mk hb.size; have F102 := nF102_; clear nF102_; obtain ⟨Ao105, co105, eo105⟩ := Kd.R_slice F102.out; subst eo105; clear hb tok100 ho0) | (go_at_call 42; have u_ := tok109; clear u_; ((with_reducible refine (laws_eqBoolS.calls k _ _ t97 _ _ t16 true _ (Kd.R_reads' F102.out).2.2 (R_cap F102.out) (Kd.R_reads' F21.out).2.2 (R_cap F21.out) A106.out).mono ?_)); rintro e w108 ⟨rfl, hd⟩; have hb := hd.below; clear hd; have n0_ := Aside0.mk (OwnS.below F11.out hb); have n1_ := Aside0.mk (OwnR.below F21.out hb); have n2_ := Aside0.mk (OwnS.below F69.out hb); have n3_ := Aside0.mk (OwnR.below F81.out hb); have n4_ := Aside0.mk (OwnS.below F54.out hb); have n5_ := Aside0.mk (OwnS.below F92.out hb); have n6_ := Aside0.mk (OwnR.below F102.out hb); have nb_ := Aside0.mk (below_step HB.out hb); clear F11 F21 F69 F81 F54 F92 F102 HB; have F11 := n0_; have F21 := n1_; have F69 := n2_; have F81 := n3_; have F54 := n4_; have F92 := n5_; have F102 := n6_; have HB := nb_; clear n0_ n1_ n2_ n3_ n4_ n5_ n6_ nb_; have Z110 := Aside0.mk hb.size; clear hb tok109) | (go_at_call 44; have u_ := tok114; clear u_; refine calls_of_args (args' := #[.slice Ao43 t77.length co43, .int .i64 1]) (by first | (rw [show t77.length = t35.length from (Kd.R_reads' F81.out).1.symm]; done) | (rw [show t77.length = t35.length from (Kd.R_reads' F81.out).1.symm]; rfl)) ?_; ((with_reducible refine (laws_heldBoolS.calls k _ _ t77 1 t112 _ (Kd.R_reads' F81.out).2.2 (R_cap F81.out) A111.out).mono ?_)); rintro e w113 ⟨rfl, hd⟩; have hb := hd.below; clear hd; have n0_ := Aside0.mk (OwnS.below F11.out hb); have n1_ := Aside0.mk (OwnR.below F21.out hb); have n2_ := Aside0.mk (OwnS.below F69.out hb); have n3_ := Aside0.mk (OwnR.below F81.out hb); have n4_ := Aside0.mk (OwnS.below F54.out hb); have n5_ := Aside0.mk (OwnS.below F92.out hb); have n6_ := Aside0.mk (OwnR.below F102.out hb); have nb_ := Aside0.mk (below_step HB.out hb); clear F11 F21 F69 F81 F54 F92 F102 HB; have F11 := n0_; have F21 := n1_; have F69 := n2_; have F81 := n3_; have F54 := n4_; have F92 := n5_; have F102 := n6_; have HB := nb_; clear n0_ n1_ n2_ n3_ n4_ n5_ n6_ nb_; have Z115 := Aside0.mk hb.size; clear hb tok114))
          go_ret
          exact ⟨rfl, HB.out⟩

/-- THE ONE PURE STATEMENT of laws_FnExactReachesOf: yours. -/
def laws_FnExactReachesOf.Pure : Prop := ∀ (l0 : List (S55)), l0.length ≤ maxLen → (∀ x ∈ l0, Good55 x) → ∃ k, laws_FnExactReachesOf.f k l0 = some true

end Go.Proofs.Ytmljikgegclolaa.Q
