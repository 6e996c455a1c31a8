-- WRITTEN BY A PROGRAM OF THIS SESSION
import Derived.Test.YtmljikgegclolaaQ0
import Derived.Test.YtmljikgegclolaaQ1
import Derived.Test.YtmljikgegclolaaQ2
import Derived.Test.YtmljikgegclolaaQ7
import Derived.Test.YtmljikgegclolaaQ8
namespace Go.Proofs.Ytmljikgegclolaa.Q
open Go.RowKit Go.Proofs.YtmljikgegclolaaW.PrintWords Go.Proofs.YtmljikgegclolaaW.PrintLast Go.Proofs.YtmljikgegclolaaW.PrintMore
attribute [local go_sem] max2_int min2_int max_two min_two max_three min_three max_four min_four   -- for this text's walks alone
set_option linter.unusedVariables false
set_option linter.unusedSimpArgs false

/-! ### spec_DepthsOf: function 27 -/
def spec_DepthsOf.f (k : Nat) (l0 : List (S56)) : Option (List Int × Bool) := (spec_GoodSteps.f k l0).bind fun t215 => (if t215 = true then ((spec_l3Depths.f k l0).bind fun t216 => (some (t216, true))) else (some (([] : List Int), false)))
theorem spec_DepthsOf.mono : ∀ a0 k, LeO (spec_DepthsOf.f k a0) (spec_DepthsOf.f (k + 1) a0) := by
  intro a0 k
  unfold spec_DepthsOf.f
  repeat' first
      | (with_reducible exact spec_GoodSteps.mono _ _)
      | (with_reducible exact spec_l3Depths.mono _ _)
      | (with_reducible exact LeO.refl _)
      | (with_reducible exact LeO.none _)
      | (with_reducible refine LeO.ite ?_ ?_)
      | (with_reducible refine LeO.bind ?_ (fun _ => ?_))
      | exact spec_GoodSteps.mono _ _
      | exact spec_l3Depths.mono _ _
      | exact LeO.none _
      | refine LeO.ite ?_ ?_
      | refine LeO.bind ?_ (fun _ => ?_)
set_option maxHeartbeats 8000000 in
set_option maxRecDepth 100000 in
theorem spec_DepthsOf.calls (k : Nat) (A0 : Option Addr) (c0 : Nat) (l0 : List (S56)) (r1 : List Int) (r2 : Bool) (w : World) (hr0 : Kd.C k56 w A0 l0.length l0) (hc0 : l0.length ≤ c0) (h : spec_DepthsOf.f k l0 = some (r1, r2)) :
    Calls Try.prog 27 #[.slice A0 l0.length c0] w fun e w' => ∃ v0_ : Value, e = .returned (.tuple #[v0_, .bool r2]) ∧ Kd.R (Kd.int .i64) 3 w' w.heap.size (fun _ => True) v0_ r1 ∧ Below w.heap.size w w' := by
  have HR0 := Aside0.mk hr0
  have HC0 := Aside0.mk hc0
  clear hr0 hc0
  have HB := Aside0.mk (Below.refl w.heap.size w)
  have H : ((spec_GoodSteps.f k l0).bind fun t215 => (if t215 = true then ((spec_l3Depths.f k l0).bind fun t216 => (some (t216, true))) else (some (([] : List Int), false)))) = some (r1, r2) := h
  clear h
  replace H := Option.bind_eq_some_iff.mp H
  obtain ⟨t215, A20, H⟩ := H
  replace H : (if t215 = true then ((spec_l3Depths.f k l0).bind fun t216 => (some (t216, true))) else (some (([] : List Int), false))) = some (r1, r2) := H
  have A2 := Aside0.mk A20
  clear A20
  by_cases c3 : t215 = true
  · subst c3
    have H1 : ((spec_l3Depths.f k l0).bind fun t216 => (some (t216, true))) = some (r1, r2) := by rw [if_pos rfl] at H; exact H
    clear H
    have H := H1
    clear H1
    replace H := Option.bind_eq_some_iff.mp H
    obtain ⟨t216, A40, H⟩ := H
    replace H : (some (t216, true)) = some (r1, r2) := H
    have A4 := Aside0.mk A40
    clear A40
    simp only [Option.some.injEq, Prod.mk.injEq] at H
    obtain ⟨rfl, rfl⟩ := H
    go_enter Try.func27, Try.ntmps27
    go_wp2_with (first | ((with_reducible refine gate_callee (f := 15) rfl ?_); refine goesL_ (some 5) rfl rfl Try.func15 (by kernel_rfl) rfl #[.slice A0 l0.length c0] rfl (by (try simp only [List.map_toArray, List.map_cons, List.map_nil]); first | done | rfl | (simp only [List.length_drop, List.length_take]; rfl)) ?_; (with_reducible refine (spec_GoodSteps.calls k _ _ l0 true _ ?side1 ?side2 A2.out).mono ?_); (case side1 => repeat (first | exact HR0.out | (with_reducible refine Kd.C_alloc ?_ _) | (with_reducible refine Kd.C_drewN ?_ _) | (with_reducible refine Kd.C_drew ?_))); (case side2 => exact HC0.out); rintro e w5 ⟨rfl, hb⟩; refine ⟨_, rfl, ?_⟩; have n0_ := Aside0.mk (below_step (by repeat (first | (with_reducible first | exact HB.out | apply below_alloc | apply pw_below_drewN | apply below_drew1) | exact HB.out)) hb); clear HB; have HB := n0_; clear n0_; (try clear hb); (try clear hb2); (try clear hk); (try clear hi)) | ((with_reducible refine gate_callee (f := 52) rfl ?_); refine goesL_ (some 8) rfl rfl Try.func52 (by kernel_rfl) rfl #[.slice A0 l0.length c0] rfl (by (try simp only [List.map_toArray, List.map_cons, List.map_nil]); first | done | rfl | (simp only [List.length_drop, List.length_take]; rfl)) ?_; (with_reducible refine (spec_l3Depths.calls k _ _ l0 t216 _ ?side1 ?side2 A4.out).mono ?_); (case side1 => repeat (first | exact (Kd.C_below HR0.out HB.out) | (with_reducible refine Kd.C_alloc ?_ _) | (with_reducible refine Kd.C_drewN ?_ _) | (with_reducible refine Kd.C_drew ?_))); (case side2 => exact HC0.out); rintro e w6 ⟨v217, rfl, ho0, hb⟩; refine ⟨_, rfl, ?_⟩; have n0_ := Aside0.mk (Kd.R_lower ho0 (below_size (by repeat (first | (with_reducible first | exact HB.out | apply below_alloc | apply pw_below_drewN | apply below_drew1) | exact HB.out)))); have n1_ := Aside0.mk (below_step (by repeat (first | (with_reducible first | exact HB.out | apply below_alloc | apply pw_below_drewN | apply below_drew1) | exact HB.out)) hb); clear HB; have HO218 := n0_; have HB := n1_; clear n0_ n1_; (try clear hb); (try clear hb2); (try clear hk); (try clear hi); (try clear ho0)))
    go_ret2
    exact ⟨_, by first | rfl | (simp [errW_none, errW_some] <;> rfl) | (simp [*, errW_none, errW_some] <;> rfl), by (with_reducible repeat (first | apply Kd.R_alloc | apply Kd.R_drewN | apply Kd.R_drew)); exact HO218.out, by repeat (first | (with_reducible first | exact HB.out | apply below_alloc | apply pw_below_drewN | apply below_drew1) | exact HB.out)⟩
  · replace c3 := Bool.eq_false_iff.mpr c3
    subst c3
    have H1 : (some (([] : List Int), false)) = some (r1, r2) := by rw [if_neg (show ¬ (false = true) by decide)] at H; exact H
    clear H
    have H := H1
    clear H1
    simp only [Option.some.injEq, Prod.mk.injEq] at H
    obtain ⟨rfl, rfl⟩ := H
    go_enter Try.func27, Try.ntmps27
    go_wp2_with (first | ((with_reducible refine gate_callee (f := 15) rfl ?_); refine goesL_ (some 5) rfl rfl Try.func15 (by kernel_rfl) rfl #[.slice A0 l0.length c0] rfl (by (try simp only [List.map_toArray, List.map_cons, List.map_nil]); first | done | rfl | (simp only [List.length_drop, List.length_take]; rfl)) ?_; (with_reducible refine (spec_GoodSteps.calls k _ _ l0 false _ ?side1 ?side2 A2.out).mono ?_); (case side1 => repeat (first | exact HR0.out | (with_reducible refine Kd.C_alloc ?_ _) | (with_reducible refine Kd.C_drewN ?_ _) | (with_reducible refine Kd.C_drew ?_))); (case side2 => exact HC0.out); rintro e w7 ⟨rfl, hb⟩; refine ⟨_, rfl, ?_⟩; have n0_ := Aside0.mk (below_step (by repeat (first | (with_reducible first | exact HB.out | apply below_alloc | apply pw_below_drewN | apply below_drew1) | exact HB.out)) hb); clear HB; have HB := n0_; clear n0_; (try clear hb); (try clear hb2); (try clear hk); (try clear hi)))
    go_ret2
    exact ⟨_, by first | rfl | (simp [errW_none, errW_some] <;> rfl) | (simp [*, errW_none, errW_some] <;> rfl), by first | exact Kd.R_nil _ _ _ _ _ | exact Kd.N_nil _ _ _ _ _ | exact Kd.V_nil _ _ _ _ _ | exact Kd.Q_nil _ _ _ _ _ | exact Kd.S_nil _ _ _ _ _, by repeat (first | (with_reducible first | exact HB.out | apply below_alloc | apply pw_below_drewN | apply below_drew1) | exact HB.out)⟩

/-! ### impl_DepthsOf: function 28 (by hand: rows behind a pointer that came back are counted) -/
def impl_DepthsOf.f (k : Nat) (l : List S56) : Option (List Int × Bool) := (impl_shapeOf.f k l).bind fun r => (match r with
  | none => some ([], false)
  | some x => if l.length ≤ 60 then some (x.2.2.map (fun q => (q.length : Int)), true) else none)
theorem impl_DepthsOf.mono : ∀ a0 k, LeO (impl_DepthsOf.f k a0) (impl_DepthsOf.f (k + 1) a0) := fun _ k => LeO.bind (impl_shapeOf.mono _ _) (fun _ => LeO.refl _)
/-- The depths told so far, noughts behind them. -/
def depL (p : List (List Int)) (i : Nat) : List Int := (p.take i).map (fun q => (q.length : Int)) ++ List.replicate (p.length - i) 0
theorem depL_length (p : List (List Int)) (i : Nat) (h : i ≤ p.length) : (depL p i).length = p.length := by simp [depL]; omega
theorem depL_zero (p : List (List Int)) : depL p 0 = List.replicate p.length 0 := by simp [depL]
theorem depL_all (p : List (List Int)) : depL p p.length = p.map (fun q => (q.length : Int)) := by simp [depL]
theorem depL_succ (p : List (List Int)) (i : Nat) (h : i < p.length) : (depL p i).set i ((p.getD i []).length : Int) = depL p (i + 1) := by
  unfold depL
  rw [List.set_append_right _ _ (by simp; omega)]
  simp only [List.length_map, List.length_take]
  rw [show i - min i p.length = 0 by omega, show p.length - i = (p.length - (i + 1)) + 1 by omega, List.replicate_succ, List.set_cons_zero, List.take_succ_eq_append_getElem h, List.map_append, List.append_assoc]
  simp [List.getD_eq_getElem?_getD, h]
set_option maxHeartbeats 8000000 in
set_option maxRecDepth 100000 in
theorem impl_DepthsOf.calls (k : Nat) (A0 : Option Addr) (c0 : Nat) (l0 : List S56) (r1 : List Int) (r2 : Bool) (w : World) (hr0 : Kd.C k56 w A0 l0.length l0) (hc0 : l0.length ≤ c0) (h : impl_DepthsOf.f k l0 = some (r1, r2)) :
    Calls Try.prog 28 #[.slice A0 l0.length c0] w fun e w' => ∃ v0_ : Value, e = .returned (.tuple #[v0_, .bool r2]) ∧ Kd.R (Kd.int .i64) 3 w' w.heap.size (fun _ => True) v0_ r1 ∧ Below w.heap.size w w' := by
  have hu63 := Try.underlying63
  have HR0 := Aside0.mk hr0
  have HC0 := Aside0.mk hc0
  clear hr0 hc0
  unfold impl_DepthsOf.f at h
  obtain ⟨s, A1, H⟩ := Option.bind_eq_some_iff.mp h
  have A1 := Aside0.mk A1
  clear h
  cases s with
  | none =>
    simp only [Option.some.injEq, Prod.mk.injEq] at H
    obtain ⟨rfl, rfl⟩ := H
    go_enter Try.func28, Try.ntmps28
    go_wp2_with (first | (go_at_call 50; refine (impl_shapeOf.calls k _ _ l0 none _ HR0.out HC0.out A1.out).mono ?_; rintro e w2 ⟨v, rfl, hv, hb⟩; have HB2 := Aside0.mk hb; obtain rfl : v = .pointer none := hv; clear hb))
    go_ret2
    exact ⟨_, rfl, Kd.R_nil _ _ _ _ _, HB2.out⟩
  | some s =>
    obtain ⟨e1, o1, p1⟩ := s
    dsimp only at H
    by_cases c1 : l0.length ≤ 60
    rotate_left
    · rw [if_neg c1] at H; exact absurd H (by simp)
    rw [if_pos c1] at H
    simp only [Option.some.injEq, Prod.mk.injEq] at H
    obtain ⟨rfl, rfl⟩ := H
    have HL := Aside0.mk c1
    have hmk := fun W => run_make_row' (P := Try.prog) 29 3 (.int .i64 0) 8 Try.underlying29 (by kernel_rfl) rfl .i64 .i64 l0.length (by omega) (by omega) W
    clear c1
    go_enter Try.func28, Try.ntmps28
    go_wp2_with (first | (go_at_call 50; refine (impl_shapeOf.calls k _ _ l0 (some (e1, o1, p1)) _ HR0.out HC0.out A1.out).mono ?_; rintro e w2 ⟨v, rfl, hv, hb⟩; have HB2 := Aside0.mk hb; obtain ⟨g, rfl, hs⟩ : ∃ g, v = .pointer (some ⟨g, 0, none⟩) ∧ ShapeAt w2 w.heap.size g l0.length c0 A0 e1 o1 p1 := hv; obtain ⟨_, ⟨ve, vo, vp, hblk, _, _, hp⟩, hel, hol, hpl⟩ := hs; obtain ⟨Ap, cp, ep⟩ := Kd.S_slice hp; rw [hpl] at ep; subst ep; have HP := Aside0.mk (Kd.S_mono (ok' := fun k_ => k_ < w2.heap.size) (Kd.S_bound hp) (fun k_ hk_ => hk_.2.2.1)); have HPL := Aside0.mk hpl; have hg3 : w2.cell? ⟨g, 3, none⟩ = some (.slice Ap l0.length cp) := (blk_cell hblk 3).trans rfl; have hg3a : (w2.alloc (.cells (madeCells #[.int .i64 0] l0.length) 3)).cell? ⟨g, 3, none⟩ = some (.slice Ap l0.length cp) := pw_cell_below (below_alloc (Below.refl _ _) _) hg3; clear hb hblk hp hel hol hpl))
    have hr0 := R_made (enc := Value.int .i64) (h1 := fun _ => rfl) (0 : Int) rfl 3 w2 l0.length (by have := HL.out; omega)
    have HR1 := Aside0.mk (show Kd.R (Kd.int .i64) 3 (w2.alloc (.cells (madeCells #[.int .i64 0] l0.length) 3)) w.heap.size (fun k_ => k_ = w2.heap.size) (.slice (some ⟨w2.heap.size, 0, none⟩) l0.length l0.length) (depL p1 0) by
      rw [depL_zero, HPL.out]
      exact Kd.R_mono (Kd.R_tight rfl (Kd.R_lower hr0 HB2.out.size)) (fun k_ hk_ => by simpa [Value.ownBlock] using hk_))
    have HP1 := Aside0.mk (Kd.S_alloc HP.out (.cells (madeCells #[.int .i64 0] l0.length) 3))
    have HB3 := Aside0.mk (below_alloc HB2.out (.cells (madeCells #[.int .i64 0] l0.length) 3))
    have HZ := Aside0.mk HB2.out.size
    clear hr0 hmk hg3 hg3a HP HB2
    go_loopg [20] l0.length (fun kq v20 w' => ∃ i : Nat, v20 = .int .i64 (i : Int) ∧ Aside0 (i ≤ l0.length ∧ l0.length - i ≤ kq) ∧ Aside0 (Kd.R (Kd.int .i64) 3 w' w.heap.size (fun k_ => k_ = w2.heap.size) (.slice (some ⟨w2.heap.size, 0, none⟩) l0.length l0.length) (depL p1 i)) ∧ Aside0 (Kd.S (Kd.slice 3 (Kd.int .i64)) 29 w' w.heap.size (fun k_ => k_ < w2.heap.size) (.slice Ap l0.length cp) p1) ∧ Aside0 (Below w.heap.size w w'))
    case atStart => exact ⟨0, rfl, ⟨by omega, by omega⟩, HR1, HP1, HB3⟩
    case round =>
      clear HR1 HP1 HB3
      obtain ⟨i, rfl, HA, HR1, HP1, HB3⟩ := hrel
      by_cases c2 : i < l0.length
      · have hsr := Kd.S_reads' HP1.out
        obtain ⟨ad, Ai, ci, eA, hxr, hlr, _⟩ := at_row hsr.2.2 (i : Int) (by omega) (by omega)
        cases eA
        obtain ⟨y, hy⟩ : ∃ y, y = p1.getD i [] := ⟨_, rfl⟩
        rw [Int.toNat_natCast, ← hy] at hxr
        obtain ⟨hco, hfo⟩ := Kd.R_celln (0 : Int) HR1.out (i : Int) (by omega) (by omega)
        obtain ⟨hpo, hgo⟩ := Kd.R_putg (n := l0.length) HR1.out (i : Int) (y.length : Int)
        rw [Int.toNat_natCast] at hco hfo hpo hgo
        have HN := Aside0.mk (show Kd.R (Kd.int .i64) 3 (wr.setCell ⟨w2.heap.size, i, none⟩ (.int .i64 (y.length : Int))) w.heap.size (fun k_ => k_ = w2.heap.size) (.slice (some ⟨w2.heap.size, 0, none⟩) l0.length l0.length) (depL p1 (i + 1)) by
          rw [hy, depL_succ p1 i (by rw [HPL.out]; exact c2)] at hpo
          rw [hy]
          exact hpo)
        have HNP := Aside0.mk (Kd.S_grown HP1.out hgo (fun k_ hk_ he_ => by injection he_ with he_; omega))
        have HNB := Aside0.mk (show Below w.heap.size w (wr.setCell ⟨w2.heap.size, i, none⟩ (.int .i64 (y.length : Int))) from HB3.out.setCell HZ.out _)
        have c2b : decide (i < l0.length) = true := decide_eq_true c2
        have p2 : (0 : Int) ≤ (i : Int) := by omega
        have p3 : (i : Int) < (l0.length : Int) := by omega
        have p4 : (i : Int) ≤ 60 := by have := HL.out; omega
        have C2 := Aside0.mk c2
        clear c2 hy hsr hlr hpo hgo
        cases gk with
        | zero => exact absurd HA.out (by have := C2.out; omega)
        | succ k1 =>
          go_wp2
          go_roundg k1
          case measure => omega
          case rel => exact ⟨i + 1, by go_num, ⟨by have := C2.out; omega, by have := HA.out; have := C2.out; omega⟩, HN, HNP, HNB⟩
      · have c2b : decide (i < l0.length) = false := decide_eq_false c2
        have hi : i = l0.length := by have := HA.out; omega
        clear c2
        go_wp2
        go_ret2
        exact ⟨_, rfl, by have h2 := HR1.out; rw [hi, ← HPL.out, depL_all] at h2; rw [HPL.out] at h2; exact Kd.R_mono h2 (fun _ _ => trivial), HB3.out⟩

-- WRITTEN BY lawgen.py
/-! ### laws_FnExactDepthsOf: function 6 (by lawgen.py: rows in rows are marked) -/
def laws_FnExactDepthsOf.f (k : Nat) (l0 : List (S55)) : Option Bool := (laws_szStepS.f k l0 1048576).bind fun t2 => (if t2 < 0 then (some true) else ((laws_toStepS.f k l0).bind fun t7 => ((spec_DepthsOf.f k t7).bind fun bt16 => ((laws_toStepS.f k l0).bind fun t26 => ((impl_DepthsOf.f k t26).bind fun bt35 => ((laws_eqIntS.f k bt35.1 bt16.1).bind fun t45 => (if t45 = true then (if bt35.2 = bt16.2 then ((laws_toStepS.f k l0).bind fun t50 => ((laws_eqStepS.f k t26 t50).bind fun t59 => (if t59 = true then ((laws_markStepS.f k t26 1).bind fun bt64 => (if bt64.1 < 0 then (none) else ((laws_eqIntS.f k bt35.1 bt16.1).bind fun t71 => (if t71 = true then (if bt35.2 = bt16.2 then ((laws_markIntS.f k bt35.1 1).bind fun bt76 => ((laws_heldIntS.f k bt76.2 1).bind fun t83 => (if t83 < 0 then (none) else (if t83 = bt76.1 then ((laws_toStepS.f k l0).bind fun t88 => ((impl_DepthsOf.f k t88).bind fun bt97 => ((laws_eqIntS.f k bt97.1 bt16.1).bind fun t107 => (if t107 = true then (if bt97.2 = bt16.2 then ((laws_heldIntS.f k bt76.2 1).bind fun t112 => (if t112 < 0 then (none) else (if t112 = bt76.1 then (some true) else none))) else none) else none)))) else none)))) else none) else none)))) else none))) else none) else none)))))))
theorem laws_FnExactDepthsOf.mono : ∀ a0 k, LeO (laws_FnExactDepthsOf.f k a0) (laws_FnExactDepthsOf.f (k + 1) a0) := by
  intro a0 k
  unfold laws_FnExactDepthsOf.f
  repeat' first
      | (with_reducible exact laws_szStepS.mono _ _ _)
      | (with_reducible exact laws_toStepS.mono _ _)
      | (with_reducible exact spec_DepthsOf.mono _ _)
      | (with_reducible exact impl_DepthsOf.mono _ _)
      | (with_reducible exact laws_eqIntS.mono _ _ _)
      | (with_reducible exact laws_eqStepS.mono _ _ _)
      | (with_reducible exact laws_markStepS.mono _ _ _)
      | (with_reducible exact laws_markIntS.mono _ _ _)
      | (with_reducible exact laws_heldIntS.mono _ _ _)
      | (with_reducible exact LeO.refl _)
      | (with_reducible exact LeO.none _)
      | (with_reducible refine LeO.ite ?_ ?_)
      | (with_reducible refine LeO.bind ?_ (fun _ => ?_))
set_option maxHeartbeats 8000000 in
set_option maxRecDepth 100000 in
theorem laws_FnExactDepthsOf.calls (k : Nat) (A0 : Option Addr) (c0 : Nat) (l0 : List (S55)) (r : Bool) (w : World) (hr0 : Kd.C k55 w A0 l0.length l0) (hc0 : l0.length ≤ c0) (h : laws_FnExactDepthsOf.f k l0 = some r) :
    Calls Try.prog 6 #[.slice A0 l0.length c0] w fun e w' => e = .returned (.bool r) ∧ Below w.heap.size w w' := by
  have HR0 := Aside0.mk hr0
  have HC0 := Aside0.mk hc0
  clear hr0 hc0
  have tok4 : Aside0 True := ⟨trivial⟩
  have tok9 : Aside0 True := ⟨trivial⟩
  have tok19 : Aside0 True := ⟨trivial⟩
  have tok28 : Aside0 True := ⟨trivial⟩
  have tok38 : Aside0 True := ⟨trivial⟩
  have tok47 : Aside0 True := ⟨trivial⟩
  have tok52 : Aside0 True := ⟨trivial⟩
  have tok61 : Aside0 True := ⟨trivial⟩
  have tok67 : Aside0 True := ⟨trivial⟩
  have tok73 : Aside0 True := ⟨trivial⟩
  have tok79 : Aside0 True := ⟨trivial⟩
  have tok85 : Aside0 True := ⟨trivial⟩
  have tok90 : Aside0 True := ⟨trivial⟩
  have tok100 : Aside0 True := ⟨trivial⟩
  have tok109 : Aside0 True := ⟨trivial⟩
  have tok114 : Aside0 True := ⟨trivial⟩
  have HB := Aside0.mk (Below.refl w.heap.size w)
  unfold laws_FnExactDepthsOf.f at h
  have bq_ : ∀ b_ : Bool, (b_ != b_) = false := by decide
  replace h := Option.bind_eq_some_iff.mp h
  obtain ⟨t2, A10, h⟩ := h
  (try dsimp only at h)
  have A1 := Aside0.mk A10
  clear A10
  by_cases c1 : t2 < 0
  · rw [if_pos c1] at h
    obtain rfl := Option.some.inj h
    have c1b : decide (t2 < 0) = true := decide_eq_true c1
    clear c1
    go_enter Try.func6, Try.ntmps6
    go_wp2_with (first | (go_at_call 14; have u_ := tok4; clear u_; ((with_reducible refine (laws_szStepS.calls k _ _ l0 1048576 t2 _ (Kd.C_below HR0.out HB.out) HC0.out A1.out).mono ?_)); rintro e w3 ⟨rfl, hb⟩; have nb_ := Aside0.mk (below_step HB.out hb); clear HB; have HB := nb_; clear nb_; have Z5 := Aside0.mk hb.size; clear hb tok4))
    go_ret
    exact ⟨rfl, HB.out⟩
  rw [if_neg c1] at h
  have c1b : decide (t2 < 0) = false := decide_eq_false c1
  clear c1
  replace h := Option.bind_eq_some_iff.mp h
  obtain ⟨t7, A60, h⟩ := h
  (try dsimp only at h)
  have A6 := Aside0.mk A60
  clear A60
  replace h := Option.bind_eq_some_iff.mp h
  obtain ⟨⟨t16, t17⟩, A150, h⟩ := h
  (try dsimp only at h)
  have A15 := Aside0.mk A150
  clear A150
  replace h := Option.bind_eq_some_iff.mp h
  obtain ⟨t26, A250, h⟩ := h
  (try dsimp only at h)
  have A25 := Aside0.mk A250
  clear A250
  replace h := Option.bind_eq_some_iff.mp h
  obtain ⟨⟨t35, t36⟩, A340, h⟩ := h
  (try dsimp only at h)
  have A34 := Aside0.mk A340
  clear A340
  replace h := Option.bind_eq_some_iff.mp h
  obtain ⟨t45, A440, h⟩ := h
  (try dsimp only at h)
  have A44 := Aside0.mk A440
  clear A440
  cases t45 with
  | false => exact absurd h (by simp)
  | true =>
    rw [if_pos rfl] at h
    by_cases c2 : t36 = t17
    rotate_left
    · rw [if_neg c2] at h; exact absurd h (by simp)
    rw [if_pos c2] at h
    have c2b : (t36 != t17) = false := by rw [c2]; simp
    have c2d : (t36 == t17) = true := by rw [c2]; simp
    have C2 := Aside0.mk c2
    clear c2
    replace h := Option.bind_eq_some_iff.mp h
    obtain ⟨t50, A490, h⟩ := h
    (try dsimp only at h)
    have A49 := Aside0.mk A490
    clear A490
    replace h := Option.bind_eq_some_iff.mp h
    obtain ⟨t59, A580, h⟩ := h
    (try dsimp only at h)
    have A58 := Aside0.mk A580
    clear A580
    cases t59 with
    | false => exact absurd h (by simp)
    | true =>
      rw [if_pos rfl] at h
      replace h := Option.bind_eq_some_iff.mp h
      obtain ⟨⟨t64, t65⟩, A630, h⟩ := h
      (try dsimp only at h)
      have A63 := Aside0.mk A630
      clear A630
      by_cases c3 : t64 < 0
      · rw [if_pos c3] at h; exact absurd h (by simp)
      rw [if_neg c3] at h
      have c3b : decide (t64 < 0) = false := decide_eq_false c3
      clear c3
      replace h := Option.bind_eq_some_iff.mp h
      obtain ⟨t71, A700, h⟩ := h
      (try dsimp only at h)
      have A70 := Aside0.mk A700
      clear A700
      cases t71 with
      | false => exact absurd h (by simp)
      | true =>
        rw [if_pos rfl] at h
        by_cases c4 : t36 = t17
        rotate_left
        · rw [if_neg c4] at h; exact absurd h (by simp)
        rw [if_pos c4] at h
        have c4b : (t36 != t17) = false := by rw [c4]; simp
        have c4d : (t36 == t17) = true := by rw [c4]; simp
        have C4 := Aside0.mk c4
        clear c4
        replace h := Option.bind_eq_some_iff.mp h
        obtain ⟨⟨t76, t77⟩, A750, h⟩ := h
        (try dsimp only at h)
        have A75 := Aside0.mk A750
        clear A750
        replace h := Option.bind_eq_some_iff.mp h
        obtain ⟨t83, A820, h⟩ := h
        (try dsimp only at h)
        have A82 := Aside0.mk A820
        clear A820
        by_cases c5 : t83 < 0
        · rw [if_pos c5] at h; exact absurd h (by simp)
        rw [if_neg c5] at h
        have c5b : decide (t83 < 0) = false := decide_eq_false c5
        clear c5
        by_cases c6 : t83 = t76
        rotate_left
        · rw [if_neg c6] at h; exact absurd h (by simp)
        rw [if_pos c6] at h
        have c6b : (t83 != t76) = false := by rw [c6]; simp
        have c6d : (t83 == t76) = true := by rw [c6]; simp
        have C6 := Aside0.mk c6
        clear c6
        replace h := Option.bind_eq_some_iff.mp h
        obtain ⟨t88, A870, h⟩ := h
        (try dsimp only at h)
        have A87 := Aside0.mk A870
        clear A870
        replace h := Option.bind_eq_some_iff.mp h
        obtain ⟨⟨t97, t98⟩, A960, h⟩ := h
        (try dsimp only at h)
        have A96 := Aside0.mk A960
        clear A960
        replace h := Option.bind_eq_some_iff.mp h
        obtain ⟨t107, A1060, h⟩ := h
        (try dsimp only at h)
        have A106 := Aside0.mk A1060
        clear A1060
        cases t107 with
        | false => exact absurd h (by simp)
        | true =>
          rw [if_pos rfl] at h
          by_cases c7 : t98 = t17
          rotate_left
          · rw [if_neg c7] at h; exact absurd h (by simp)
          rw [if_pos c7] at h
          have c7b : (t98 != t17) = false := by rw [c7]; simp
          have c7d : (t98 == t17) = true := by rw [c7]; simp
          have C7 := Aside0.mk c7
          clear c7
          replace h := Option.bind_eq_some_iff.mp h
          obtain ⟨t112, A1110, h⟩ := h
          (try dsimp only at h)
          have A111 := Aside0.mk A1110
          clear A1110
          by_cases c8 : t112 < 0
          · rw [if_pos c8] at h; exact absurd h (by simp)
          rw [if_neg c8] at h
          have c8b : decide (t112 < 0) = false := decide_eq_false c8
          clear c8
          by_cases c9 : t112 = t76
          rotate_left
          · rw [if_neg c9] at h; exact absurd h (by simp)
          rw [if_pos c9] at h
          have c9b : (t112 != t76) = false := by rw [c9]; simp
          have c9d : (t112 == t76) = true := by rw [c9]; simp
          have C9 := Aside0.mk c9
          clear c9
          obtain rfl := Option.some.inj h
          go_enter Try.func6, Try.ntmps6
          go_wp2_with (first | (go_at_call 14; have u_ := tok4; clear u_; ((with_reducible refine (laws_szStepS.calls k _ _ l0 1048576 t2 _ (Kd.C_below HR0.out HB.out) HC0.out A1.out).mono ?_)); rintro e w3 ⟨rfl, hb⟩; have nb_ := Aside0.mk (below_step HB.out hb); clear HB; have HB := nb_; clear nb_; have Z5 := Aside0.mk hb.size; clear hb tok4) | (go_at_call 16; have u_ := tok9; clear u_; ((with_reducible refine (laws_toStepS.calls k _ _ l0 t7 _ (Kd.C_below HR0.out HB.out) HC0.out A6.out).mono ?_)); rintro e w8 ⟨v10, rfl, ho0, hb⟩; have nF11_ := Aside0.mk (OwnS.make HB.out hb ho0); have nb_ := Aside0.mk (below_step HB.out hb); clear HB; have HB := nb_; clear nb_; have Z12 := Aside0.mk hb.size; have F11 := nF11_; clear nF11_; obtain ⟨Ao14, co14, eo14⟩ := Kd.S_slice F11.out; subst eo14; clear hb tok9 ho0) | (go_at_call 27; have u_ := tok19; clear u_; ((with_reducible refine (spec_DepthsOf.calls k _ _ t7 t16 t17 _ (Kd.S_reads' F11.out).2.2 (S_cap F11.out) A15.out).mono ?_)); rintro e w18 ⟨v20, rfl, ho0, hb⟩; have nF21_ := Aside0.mk (OwnR.make HB.out hb ho0); have n0_ := Aside0.mk (OwnS.below F11.out hb); have nb_ := Aside0.mk (below_step HB.out hb); clear F11 HB; have F11 := n0_; have HB := nb_; clear n0_ nb_; have Z22 := Aside0.mk hb.size; have F21 := nF21_; clear nF21_; obtain ⟨Ao24, co24, eo24⟩ := Kd.R_slice F21.out; subst eo24; clear hb tok19 ho0) | (go_at_call 16; have u_ := tok28; clear u_; ((with_reducible refine (laws_toStepS.calls k _ _ l0 t26 _ (Kd.C_below HR0.out HB.out) HC0.out A25.out).mono ?_)); rintro e w27 ⟨v29, rfl, ho0, hb⟩; have nF30_ := Aside0.mk (OwnS.make HB.out hb ho0); have n0_ := Aside0.mk (OwnS.below F11.out hb); have n1_ := Aside0.mk (OwnR.below F21.out hb); have nb_ := Aside0.mk (below_step HB.out hb); clear F11 F21 HB; have F11 := n0_; have F21 := n1_; have HB := nb_; clear n0_ n1_ nb_; have Z31 := Aside0.mk hb.size; have F30 := nF30_; clear nF30_; obtain ⟨Ao33, co33, eo33⟩ := Kd.S_slice F30.out; subst eo33; clear hb tok28 ho0) | (go_at_call 28; have u_ := tok38; clear u_; ((with_reducible refine (impl_DepthsOf.calls k _ _ t26 t35 t36 _ (Kd.S_reads' F30.out).2.2 (S_cap F30.out) A34.out).mono ?_)); rintro e w37 ⟨v39, rfl, ho0, hb⟩; have nF40_ := Aside0.mk (OwnR.make HB.out hb ho0); have n0_ := Aside0.mk (OwnS.below F11.out hb); have n1_ := Aside0.mk (OwnR.below F21.out hb); have n2_ := Aside0.mk (OwnS.below F30.out hb); have nb_ := Aside0.mk (below_step HB.out hb); clear F11 F21 F30 HB; have F11 := n0_; have F21 := n1_; have F30 := n2_; have HB := nb_; clear n0_ n1_ n2_ nb_; have Z41 := Aside0.mk hb.size; have F40 := nF40_; clear nF40_; obtain ⟨Ao43, co43, eo43⟩ := Kd.R_slice F40.out; subst eo43; clear hb tok38 ho0) | (go_at_call 21; have u_ := tok47; clear u_; ((with_reducible refine (laws_eqIntS.calls k _ _ t35 _ _ t16 true _ (Kd.R_reads' F40.out).2.2 (R_cap F40.out) (Kd.R_reads' F21.out).2.2 (R_cap F21.out) A44.out).mono ?_)); rintro e w46 ⟨rfl, hd⟩; have hb := hd.below; clear hd; have n0_ := Aside0.mk (OwnS.below F11.out hb); have n1_ := Aside0.mk (OwnR.below F21.out hb); have n2_ := Aside0.mk (OwnS.below F30.out hb); have n3_ := Aside0.mk (OwnR.below F40.out hb); have nb_ := Aside0.mk (below_step HB.out hb); clear F11 F21 F30 F40 HB; have F11 := n0_; have F21 := n1_; have F30 := n2_; have F40 := n3_; have HB := nb_; clear n0_ n1_ n2_ n3_ nb_; have Z48 := Aside0.mk hb.size; clear hb tok47) | (go_at_call 16; have u_ := tok52; clear u_; ((with_reducible refine (laws_toStepS.calls k _ _ l0 t50 _ (Kd.C_below HR0.out HB.out) HC0.out A49.out).mono ?_)); rintro e w51 ⟨v53, rfl, ho0, hb⟩; have nF54_ := Aside0.mk (OwnS.make HB.out hb ho0); have n0_ := Aside0.mk (OwnS.below F11.out hb); have n1_ := Aside0.mk (OwnR.below F21.out hb); have n2_ := Aside0.mk (OwnS.below F30.out hb); have n3_ := Aside0.mk (OwnR.below F40.out hb); have nb_ := Aside0.mk (below_step HB.out hb); clear F11 F21 F30 F40 HB; have F11 := n0_; have F21 := n1_; have F30 := n2_; have F40 := n3_; have HB := nb_; clear n0_ n1_ n2_ n3_ nb_; have Z55 := Aside0.mk hb.size; have F54 := nF54_; clear nF54_; obtain ⟨Ao57, co57, eo57⟩ := Kd.S_slice F54.out; subst eo57; clear hb tok52 ho0) | (go_at_call 18; have u_ := tok61; clear u_; ((with_reducible refine (laws_eqStepS.calls k _ _ t26 _ _ t50 true _ (Kd.S_reads' F30.out).2.2 (S_cap F30.out) (Kd.S_reads' F54.out).2.2 (S_cap F54.out) A58.out).mono ?_)); rintro e w60 ⟨rfl, hb⟩; have n0_ := Aside0.mk (OwnS.below F11.out hb); have n1_ := Aside0.mk (OwnR.below F21.out hb); have n2_ := Aside0.mk (OwnS.below F30.out hb); have n3_ := Aside0.mk (OwnR.below F40.out hb); have n4_ := Aside0.mk (OwnS.below F54.out hb); have nb_ := Aside0.mk (below_step HB.out hb); clear F11 F21 F30 F40 F54 HB; have F11 := n0_; have F21 := n1_; have F30 := n2_; have F40 := n3_; have F54 := n4_; have HB := nb_; clear n0_ n1_ n2_ n3_ n4_ nb_; have Z62 := Aside0.mk hb.size; clear hb tok61) | (go_at_call 22; have u_ := tok67; clear u_; ((with_reducible refine (laws_markStepS.calls k (fun k_ => w18.heap.size ≤ k_ ∧ k_ < w27.heap.size) (.slice Ao33 t26.length co33) t26 1 t64 t65 w _ HB.out F30.out A63.out).mono ?_)); rintro e w66 ⟨rfl, hy, hb, hkp⟩; have Z68 := Aside0.mk hkp.1; have ny_ : Aside0 (OwnS k56 56 w w66 w18.heap.size w27.heap.size (.slice Ao33 t26.length co33) t65) := ⟨hy⟩; have n0_ := Aside0.mk (OwnS.kept F11.out hkp (by have := Z5.out; have := Z12.out; have := Z22.out; have := Z31.out; have := Z41.out; have := Z48.out; have := Z55.out; have := Z62.out; omega)); have n1_ := Aside0.mk (OwnR.kept F21.out hkp (by have := Z5.out; have := Z12.out; have := Z22.out; have := Z31.out; have := Z41.out; have := Z48.out; have := Z55.out; have := Z62.out; omega)); have n3_ := Aside0.mk (OwnR.kept F40.out hkp (by have := Z5.out; have := Z12.out; have := Z22.out; have := Z31.out; have := Z41.out; have := Z48.out; have := Z55.out; have := Z62.out; omega)); have n4_ := Aside0.mk (OwnS.kept F54.out hkp (by have := Z5.out; have := Z12.out; have := Z22.out; have := Z31.out; have := Z41.out; have := Z48.out; have := Z55.out; have := Z62.out; omega)); have nb_ := Aside0.mk (hb); clear F11 F21 F40 F54 HB; have F11 := n0_; have F21 := n1_; have F40 := n3_; have F54 := n4_; have HB := nb_; clear n0_ n1_ n3_ n4_ nb_; have F69 := ny_; clear ny_ hy hb hkp F30; clear tok67) | (go_at_call 21; have u_ := tok73; clear u_; ((with_reducible refine (laws_eqIntS.calls k _ _ t35 _ _ t16 true _ (Kd.R_reads' F40.out).2.2 (R_cap F40.out) (Kd.R_reads' F21.out).2.2 (R_cap F21.out) A70.out).mono ?_)); rintro e w72 ⟨rfl, hd⟩; have hb := hd.below; clear hd; have n0_ := Aside0.mk (OwnS.below F11.out hb); have n1_ := Aside0.mk (OwnR.below F21.out hb); have n2_ := Aside0.mk (OwnS.below F69.out hb); have n3_ := Aside0.mk (OwnR.below F40.out hb); have n4_ := Aside0.mk (OwnS.below F54.out hb); have nb_ := Aside0.mk (below_step HB.out hb); clear F11 F21 F69 F40 F54 HB; have F11 := n0_; have F21 := n1_; have F69 := n2_; have F40 := n3_; have F54 := n4_; have HB := nb_; clear n0_ n1_ n2_ n3_ n4_ nb_; have Z74 := Aside0.mk hb.size; clear hb tok73) | (go_at_call 23; have u_ := tok79; clear u_; ((with_reducible refine (laws_markIntS.calls k (fun k_ => w27.heap.size ≤ k_ ∧ k_ < w37.heap.size) (.slice Ao43 t35.length co43) t35 1 t76 t77 w _ HB.out F40.out A75.out).mono ?_)); rintro e w78 ⟨rfl, hy, hb, hkp⟩; have Z80 := Aside0.mk hkp.1; have ny_ : Aside0 (OwnR (Kd.int .i64) 3 w w78 w27.heap.size w37.heap.size (.slice Ao43 t35.length co43) t77) := ⟨Kd.R_reok rfl hy (fun k_ e_ => F40.out.1 k_ e_)⟩; have n0_ := Aside0.mk (OwnS.kept F11.out hkp (by have := Z5.out; have := Z12.out; have := Z22.out; have := Z31.out; have := Z41.out; have := Z48.out; have := Z55.out; have := Z62.out; have := Z68.out; have := Z74.out; omega)); have n1_ := Aside0.mk (OwnR.kept F21.out hkp (by have := Z5.out; have := Z12.out; have := Z22.out; have := Z31.out; have := Z41.out; have := Z48.out; have := Z55.out; have := Z62.out; have := Z68.out; have := Z74.out; omega)); have n2_ := Aside0.mk (OwnS.kept F69.out hkp (by have := Z5.out; have := Z12.out; have := Z22.out; have := Z31.out; have := Z41.out; have := Z48.out; have := Z55.out; have := Z62.out; have := Z68.out; have := Z74.out; omega)); have n4_ := Aside0.mk (OwnS.kept F54.out hkp (by have := Z5.out; have := Z12.out; have := Z22.out; have := Z31.out; have := Z41.out; have := Z48.out; have := Z55.out; have := Z62.out; have := Z68.out; have := Z74.out; omega)); have nb_ := Aside0.mk (hb); clear F11 F21 F69 F54 HB; have F11 := n0_; have F21 := n1_; have F69 := n2_; have F54 := n4_; have HB := nb_; clear n0_ n1_ n2_ n4_ nb_; have F81 := ny_; clear ny_ hy hb hkp F40; clear tok79) | (go_at_call 24; have u_ := tok85; clear u_; refine calls_of_args (args' := #[.slice Ao43 t77.length co43, .int .i64 1]) (by first | (rw [show t77.length = t35.length from (Kd.R_reads' F81.out).1.symm]; done) | (rw [show t77.length = t35.length from (Kd.R_reads' F81.out).1.symm]; rfl)) ?_; ((with_reducible refine (laws_heldIntS.calls k _ _ t77 1 t83 _ (Kd.R_reads' F81.out).2.2 (R_cap F81.out) A82.out).mono ?_)); rintro e w84 ⟨rfl, hd⟩; have hb := hd.below; clear hd; have n0_ := Aside0.mk (OwnS.below F11.out hb); have n1_ := Aside0.mk (OwnR.below F21.out hb); have n2_ := Aside0.mk (OwnS.below F69.out hb); have n3_ := Aside0.mk (OwnR.below F81.out hb); have n4_ := Aside0.mk (OwnS.below F54.out hb); have nb_ := Aside0.mk (below_step HB.out hb); clear F11 F21 F69 F81 F54 HB; have F11 := n0_; have F21 := n1_; have F69 := n2_; have F81 := n3_; have F54 := n4_; have HB := nb_; clear n0_ n1_ n2_ n3_ n4_ nb_; have Z86 := Aside0.mk hb.size; clear hb tok85) | (go_at_call 16; have u_ := tok90; clear u_; ((with_reducible refine (laws_toStepS.calls k _ _ l0 t88 _ (Kd.C_below HR0.out HB.out) HC0.out A87.out).mono ?_)); rintro e w89 ⟨v91, rfl, ho0, hb⟩; have nF92_ := Aside0.mk (OwnS.make HB.out hb ho0); have n0_ := Aside0.mk (OwnS.below F11.out hb); have n1_ := Aside0.mk (OwnR.below F21.out hb); have n2_ := Aside0.mk (OwnS.below F69.out hb); have n3_ := Aside0.mk (OwnR.below F81.out hb); have n4_ := Aside0.mk (OwnS.below F54.out hb); have nb_ := Aside0.mk (below_step HB.out hb); clear F11 F21 F69 F81 F54 HB; have F11 := n0_; have F21 := n1_; have F69 := n2_; have F81 := n3_; have F54 := n4_; have HB := nb_; clear n0_ n1_ n2_ n3_ n4_ nb_; have Z93 := Aside0.mk hb.size; have F92 := nF92_; clear nF92_; obtain ⟨Ao95, co95, eo95⟩ := Kd.S_slice F92.out; subst eo95; clear hb tok90 ho0) | (go_at_call 28; have u_ := tok100; clear u_; ((with_reducible refine (impl_DepthsOf.calls k _ _ t88 t97 t98 _ (Kd.S_reads' F92.out).2.2 (S_cap F92.out) A96.out).mono ?_)); rintro e w99 ⟨v101, rfl, ho0, hb⟩; have nF102_ := Aside0.mk (OwnR.make HB.out hb ho0); have n0_ := Aside0.mk (OwnS.below F11.out hb); have n1_ := Aside0.mk (OwnR.below F21.out hb); have n2_ := Aside0.mk (OwnS.below F69.out hb); have n3_ := Aside0.mk (OwnR.below F81.out hb); have n4_ := Aside0.mk (OwnS.below F54.out hb); have n5_ := Aside0.mk (OwnS.below F92.out hb); have nb_ := Aside0.mk (below_step HB.out hb); clear F11 F21 F69 F81 F54 F92 HB; have F11 := n0_; have F21 := n1_; have F69 := n2_; have F81 := n3_; have F54 := n4_; have F92 := n5_; have HB := nb_; clear n0_ n1_ n2_ n3_ n4_ n5_ nb_; have Z103 := Aside0.mk hb.size; have F102 := nF102_; clear nF102_; obtain ⟨Ao105, co105, eo105⟩ := Kd.R_slice F102.out; subst eo105; clear hb tok100 ho0) | (go_at_call 21; have u_ := tok109; clear u_; ((with_reducible refine (laws_eqIntS.calls k _ _ t97 _ _ t16 true _ (Kd.R_reads' F102.out).2.2 (R_cap F102.out) (Kd.R_reads' F21.out).2.2 (R_cap F21.out) A106.out).mono ?_)); rintro e w108 ⟨rfl, hd⟩; have hb := hd.below; clear hd; have n0_ := Aside0.mk (OwnS.below F11.out hb); have n1_ := Aside0.mk (OwnR.below F21.out hb); have n2_ := Aside0.mk (OwnS.below F69.out hb); have n3_ := Aside0.mk (OwnR.below F81.out hb); have n4_ := Aside0.mk (OwnS.below F54.out hb); have n5_ := Aside0.mk (OwnS.below F92.out hb); have n6_ := Aside0.mk (OwnR.below F102.out hb); have nb_ := Aside0.mk (below_step HB.out hb); clear F11 F21 F69 F81 F54 F92 F102 HB; have F11 := n0_; have F21 := n1_; have F69 := n2_; have F81 := n3_; have F54 := n4_; have F92 := n5_; have F102 := n6_; have HB := nb_; clear n0_ n1_ n2_ n3_ n4_ n5_ n6_ nb_; have Z110 := Aside0.mk hb.size; clear hb tok109) | (go_at_call 24; have u_ := tok114; clear u_; refine calls_of_args (args' := #[.slice Ao43 t77.length co43, .int .i64 1]) (by first | (rw [show t77.length = t35.length from (Kd.R_reads' F81.out).1.symm]; done) | (rw [show t77.length = t35.length from (Kd.R_reads' F81.out).1.symm]; rfl)) ?_; ((with_reducible refine (laws_heldIntS.calls k _ _ t77 1 t112 _ (Kd.R_reads' F81.out).2.2 (R_cap F81.out) A111.out).mono ?_)); rintro e w113 ⟨rfl, hd⟩; have hb := hd.below; clear hd; have n0_ := Aside0.mk (OwnS.below F11.out hb); have n1_ := Aside0.mk (OwnR.below F21.out hb); have n2_ := Aside0.mk (OwnS.below F69.out hb); have n3_ := Aside0.mk (OwnR.below F81.out hb); have n4_ := Aside0.mk (OwnS.below F54.out hb); have n5_ := Aside0.mk (OwnS.below F92.out hb); have n6_ := Aside0.mk (OwnR.below F102.out hb); have nb_ := Aside0.mk (below_step HB.out hb); clear F11 F21 F69 F81 F54 F92 F102 HB; have F11 := n0_; have F21 := n1_; have F69 := n2_; have F81 := n3_; have F54 := n4_; have F92 := n5_; have F102 := n6_; have HB := nb_; clear n0_ n1_ n2_ n3_ n4_ n5_ n6_ nb_; have Z115 := Aside0.mk hb.size; clear hb tok114))
          go_ret
          exact ⟨rfl, HB.out⟩

/-- THE ONE PURE STATEMENT of laws_FnExactDepthsOf: yours. -/
def laws_FnExactDepthsOf.Pure : Prop := ∀ (l0 : List (S55)), l0.length ≤ maxLen → (∀ x ∈ l0, Good55 x) → ∃ k, laws_FnExactDepthsOf.f k l0 = some true

/-! ### spec_l1Text: function 85 -/
def spec_l1Text.f (a0 : ByteArray) (a1 : Int) : Option (Bool) := if (a0.size : Int) ≤ 1000 then (if a1 ≥ 0 then (some (decide (a1 < (a0.size : Int)))) else (some false)) else (some false)
set_option maxHeartbeats 8000000 in
set_option maxRecDepth 100000 in
theorem spec_l1Text.calls (a0 : ByteArray) (a1 : Int) (r : Bool) (w : World) (h : spec_l1Text.f a0 a1 = some r) :
    Calls Try.prog 85 #[.string a0, .int .i64 a1] w fun e w' => e = .returned (.bool r) ∧ Drawn0 w w' := by
  have H : (if (a0.size : Int) ≤ 1000 then (if a1 ≥ 0 then (some (decide (a1 < (a0.size : Int)))) else (some false)) else (some false)) = some r := h
  clear h
  by_cases c3 : (a0.size : Int) ≤ 1000
  · rw [if_pos c3] at H
    have c3b0 : decide ((a0.size : Int) ≤ 1000) = true := decide_eq_true c3
    have c3b1 : decide (a0.size ≤ 1000) = true := decide_eq_true (by omega)
    clear c3
    by_cases c4 : a1 ≥ 0
    · rw [if_pos c4] at H
      have c4b0 : decide (0 ≤ a1) = true := decide_eq_true c4
      clear c4
      obtain rfl := Option.some.inj H
      go_enter Try.func85, Try.ntmps85
      go_wp2
      go_ret
      exact ⟨by first | rfl | (simp; done) | (simp [*]; done), by repeat (first | exact Drawn0.refl _ | apply Drawn0.step)⟩
    · rw [if_neg c4] at H
      have c4b0 : decide (0 ≤ a1) = false := decide_eq_false c4
      clear c4
      obtain rfl := Option.some.inj H
      go_enter Try.func85, Try.ntmps85
      go_wp2
      go_ret
      exact ⟨by first | rfl | (simp; done) | (simp [*]; done), by repeat (first | exact Drawn0.refl _ | apply Drawn0.step)⟩
  · rw [if_neg c3] at H
    have c3b0 : decide ((a0.size : Int) ≤ 1000) = false := decide_eq_false c3
    have c3b1 : decide (a0.size ≤ 1000) = false := decide_eq_false (by omega)
    clear c3
    obtain rfl := Option.some.inj H
    go_enter Try.func85, Try.ntmps85
    go_wp2
    go_ret
    exact ⟨by first | rfl | (simp; done) | (simp [*]; done), by repeat (first | exact Drawn0.refl _ | apply Drawn0.step)⟩

/-! ### spec_l1Take: function 86 -/
def spec_l1Take.l0 : Nat → ByteArray → Int → Int → Int → Option (Int × Int × Int)
  | 0, _, _, _, _ => none
  | k + 1, x0, x1, x7, x8 => if x8 < 5 then (if x1 ≥ (x0.size : Int) then (some (0, 0, 0)) else (if 0 ≤ x1 then (if x1 < (x0.size : Int) then (if 0 ≤ (IntKind.u64.wrap (wrap64 (7 * x8))) then (if (wrap64 (bt x0 x1)) < 128 then (some (Go.bits .or .i64 x7 (shl .i64 (Go.bits .and .i64 (wrap64 (bt x0 x1)) 127) (IntKind.u64.wrap (wrap64 (7 * x8)))), wrap64 ((wrap64 (7 * x8)) + 7), wrap64 (x1 + 1))) else (spec_l1Take.l0 k x0 (wrap64 (x1 + 1)) (Go.bits .or .i64 x7 (shl .i64 (Go.bits .and .i64 (wrap64 (bt x0 x1)) 127) (IntKind.u64.wrap (wrap64 (7 * x8))))) (wrap64 (x8 + 1)))) else (none)) else (none)) else (none))) else (some (0, 0, 0))
def spec_l1Take.f (k : Nat) (a0 : ByteArray) (a1 : Int) : Option (Int × Int × Int) := spec_l1Take.l0 k a0 a1 0 0
theorem spec_l1Take.mono_l : ∀ k, (∀ y0 y1 y2 y3, LeO (spec_l1Take.l0 k y0 y1 y2 y3) (spec_l1Take.l0 (k + 1) y0 y1 y2 y3))
  | 0 => fun _ _ _ _ r h => by simp [spec_l1Take.l0] at h
  | k + 1 => by
    have ih0 := spec_l1Take.mono_l k
    · intro y0 y1 y2 y3
      unfold spec_l1Take.l0
      repeat' first
      | (with_reducible exact ih0 _ _ _ _)
      | (with_reducible exact LeO.refl _)
      | (with_reducible exact LeO.none _)
      | (with_reducible refine LeO.ite ?_ ?_)
      | (with_reducible refine LeO.bind ?_ (fun _ => ?_))
      | exact ih0 _ _ _ _
      | exact LeO.none _
      | refine LeO.ite ?_ ?_
      | refine LeO.bind ?_ (fun _ => ?_)
theorem spec_l1Take.mono : ∀ a0 a1 k, LeO (spec_l1Take.f k a0 a1) (spec_l1Take.f (k + 1) a0 a1) := by
  intro a0 a1 k
  have ih0 := spec_l1Take.mono_l k
  unfold spec_l1Take.f
  repeat' first
      | (with_reducible exact ih0 _ _ _ _)
      | (with_reducible exact LeO.refl _)
      | (with_reducible exact LeO.none _)
      | (with_reducible refine LeO.ite ?_ ?_)
      | (with_reducible refine LeO.bind ?_ (fun _ => ?_))
      | exact ih0 _ _ _ _
      | exact LeO.none _
      | refine LeO.ite ?_ ?_
      | refine LeO.bind ?_ (fun _ => ?_)
set_option maxHeartbeats 8000000 in
set_option maxRecDepth 100000 in
theorem spec_l1Take.calls (k : Nat) (a0 : ByteArray) (a1 : Int) (r1 : Int) (r2 : Int) (r3 : Int) (w : World) (h : spec_l1Take.f k a0 a1 = some (r1, r2, r3)) :
    Calls Try.prog 86 #[.string a0, .int .i64 a1] w fun e w' => e = .returned (.tuple #[.int .i64 r1, .int .i64 r2, .int .i64 r3]) ∧ Drawn0 w w' := by
  have H : (spec_l1Take.l0 k a0 a1 0 0) = some (r1, r2, r3) := h
  clear h
  have H' := Aside0.mk H
  clear H
  go_enter Try.func86, Try.ntmps86
  go_wp2
  go_loopg [1, 7, 8] k (fun kq v1 v7 v8 w' => ∃ (x1_1 : Int) (x7_1 : Int) (x8_1 : Int), v1 = .int .i64 x1_1 ∧ v7 = .int .i64 x7_1 ∧ v8 = .int .i64 x8_1 ∧ Aside0 (spec_l1Take.l0 kq a0 x1_1 x7_1 x8_1 = some (r1, r2, r3)) ∧ Aside0 (kq ≤ k) ∧ Drawn0 w w')
  case atStart => exact ⟨(a1), (0), (0), (by first | rfl | (simp; done) | (simp [*]; done)), (by first | rfl | (simp; done) | (simp [*]; done)), (by first | rfl | (simp; done) | (simp [*]; done)), H', ⟨Nat.le_refl _⟩, by repeat (first | exact Drawn0.refl _ | apply Drawn0.step)⟩
  case round =>
    clear H'
    try clear p2
    obtain ⟨x1_1, x7_1, x8_1, rfl, rfl, rfl, HA, HK1, ⟨m1, rfl⟩⟩ := hrel
    cases gk with
    | zero => exact absurd HA.out (by simp [spec_l1Take.l0])
    | succ k1 =>
      have H := HA.out
      clear HA
      simp only [spec_l1Take.l0] at H
      by_cases c3 : x8_1 < 5
      · rw [if_pos c3] at H
        have c3b0 : decide (x8_1 < 5) = true := decide_eq_true c3
        clear c3
        by_cases c4 : x1_1 ≥ (a0.size : Int)
        · rw [if_pos c4] at H
          have c4b0 : decide ((a0.size : Int) ≤ x1_1) = true := decide_eq_true c4
          clear c4
          simp only [Option.some.injEq, Prod.mk.injEq] at H
          obtain ⟨rfl, rfl, rfl⟩ := H
          go_wp2
          go_ret3
          exact ⟨by first | rfl | (simp; done) | (simp [*]; done), by repeat (first | exact Drawn0.refl _ | apply Drawn0.step)⟩
        · rw [if_neg c4] at H
          have c4b0 : decide ((a0.size : Int) ≤ x1_1) = false := decide_eq_false c4
          clear c4
          by_cases c5 : 0 ≤ x1_1
          · rw [if_pos c5] at H
            have c5b0 : decide (0 ≤ x1_1) = true := decide_eq_true c5
            clear c5
            by_cases c6 : x1_1 < (a0.size : Int)
            · rw [if_pos c6] at H
              have c6b0 : decide (x1_1 < (a0.size : Int)) = true := decide_eq_true c6
              clear c6
              obtain ⟨ji8, hji8⟩ : ∃ j_ : Int, (IntKind.u64.wrap (wrap64 (7 * x8_1))) = j_ := ⟨_, rfl⟩
              replace H : (if 0 ≤ (ji8) then (if (wrap64 (bt a0 x1_1)) < 128 then (some (Go.bits .or .i64 x7_1 (shl .i64 (Go.bits .and .i64 (wrap64 (bt a0 x1_1)) 127) (ji8)), wrap64 ((wrap64 (7 * x8_1)) + 7), wrap64 (x1_1 + 1))) else (spec_l1Take.l0 k1 a0 (wrap64 (x1_1 + 1)) (Go.bits .or .i64 x7_1 (shl .i64 (Go.bits .and .i64 (wrap64 (bt a0 x1_1)) 127) (ji8))) (wrap64 (x8_1 + 1)))) else (none)) = some (r1, r2, r3) := by first | (rw [hji8] at H; exact H) | (simp only [hji8] at H ⊢; exact H)
              by_cases c9 : 0 ≤ (ji8)
              · rw [if_pos c9] at H
                have c9b0 := eq_true c9
                have c9b1 : decide (0 ≤ (ji8)) = true := decide_eq_true c9
                clear c9
                obtain ⟨ji10, hji10⟩ : ∃ j_ : Int, (shl .i64 (Go.bits .and .i64 (wrap64 (bt a0 x1_1)) 127) (ji8)) = j_ := ⟨_, rfl⟩
                replace H : (if (wrap64 (bt a0 x1_1)) < 128 then (some (Go.bits .or .i64 x7_1 (ji10), wrap64 ((wrap64 (7 * x8_1)) + 7), wrap64 (x1_1 + 1))) else (spec_l1Take.l0 k1 a0 (wrap64 (x1_1 + 1)) (Go.bits .or .i64 x7_1 (ji10)) (wrap64 (x8_1 + 1)))) = some (r1, r2, r3) := by first | (rw [hji10] at H; exact H) | (simp only [hji10] at H ⊢; exact H)
                have hji10_ : (IntKind.i64.wrap ((Go.bits .and .i64 (wrap64 (bt a0 x1_1)) 127) * 2 ^ min (ji8).toNat 64)) = ji10 := hji10
                have hji10z : (ji8) ≤ 64 → (IntKind.i64.wrap ((Go.bits .and .i64 (wrap64 (bt a0 x1_1)) 127) * 2 ^ (ji8).toNat)) = ji10 := shl_small hji10
                have hji10y : (wrap64 ((Go.bits .and .i64 (wrap64 (bt a0 x1_1)) 127) * 2 ^ min (ji8).toNat 64)) = ji10 := (i64_w _).symm.trans hji10_
                have hji10x : (ji8) ≤ 64 → (wrap64 ((Go.bits .and .i64 (wrap64 (bt a0 x1_1)) 127) * 2 ^ (ji8).toNat)) = ji10 := fun h_ => (i64_w _).symm.trans (hji10z h_)
                by_cases c11 : (wrap64 (bt a0 x1_1)) < 128
                · rw [if_pos c11] at H
                  have c11b0 : decide ((wrap64 (bt a0 x1_1)) < 128) = true := decide_eq_true c11
                  clear c11
                  simp only [Option.some.injEq, Prod.mk.injEq] at H
                  obtain ⟨rfl, rfl, rfl⟩ := H
                  have p7 : 0 ≤ (x1_1 : Int) := of_decide_eq_true (by first | (with_reducible assumption) | assumption)
                  have q7 : x1_1 < (a0.size : Int) := of_decide_eq_true (by first | (with_reducible assumption) | assumption)
                  have hx7 := bt_at a0 x1_1
                  replace p7 := eq_true p7
                  replace q7 := eq_true q7
                  go_wp2
                  go_ret3
                  exact ⟨by first | rfl | (simp; done) | (simp only [← hji8, ← hji10] <;> (first | rfl | simp)) | (simp [*]; done), by repeat (first | exact Drawn0.refl _ | apply Drawn0.step)⟩
                · rw [if_neg c11] at H
                  have c11b0 : decide ((wrap64 (bt a0 x1_1)) < 128) = false := decide_eq_false c11
                  clear c11
                  have H' := Aside0.mk H
                  clear H
                  have p7 : 0 ≤ (x1_1 : Int) := of_decide_eq_true (by first | (with_reducible assumption) | assumption)
                  have q7 : x1_1 < (a0.size : Int) := of_decide_eq_true (by first | (with_reducible assumption) | assumption)
                  have hx7 := bt_at a0 x1_1
                  replace p7 := eq_true p7
                  replace q7 := eq_true q7
                  go_wp2
                  go_roundg k1
                  case measure => have := HK1.out; omega
                  case rel => exact ⟨(wrap64 (x1_1 + 1)), (Go.bits .or .i64 x7_1 (ji10)), (wrap64 (x8_1 + 1)), (by first | rfl | (simp; done) | (simp [*]; done)), (by first | rfl | (simp; done) | (simp only [← hji10] <;> (first | rfl | simp)) | (simp [*]; done)), (by first | rfl | (simp; done) | (simp [*]; done)), H', ⟨by have := HK1.out; omega⟩, by repeat (first | exact Drawn0.refl _ | apply Drawn0.step)⟩
              · rw [if_neg c9] at H
                exact absurd H (by simp)
            · rw [if_neg c6] at H
              exact absurd H (by simp)
          · rw [if_neg c5] at H
            exact absurd H (by simp)
      · rw [if_neg c3] at H
        have c3b0 : decide (x8_1 < 5) = false := decide_eq_false c3
        clear c3
        simp only [Option.some.injEq, Prod.mk.injEq] at H
        obtain ⟨rfl, rfl, rfl⟩ := H
        go_wp2
        go_ret3
        exact ⟨by first | rfl | (simp; done) | (simp [*]; done), by repeat (first | exact Drawn0.refl _ | apply Drawn0.step)⟩

/-! ### spec_l1U32: function 87 -/
def spec_l1U32.f (a0 : Int) : Option (Bool) := (spec_l1In.f a0 0 4294967295).bind fun t219 => (some t219)
set_option maxHeartbeats 8000000 in
set_option maxRecDepth 100000 in
theorem spec_l1U32.calls (a0 : Int) (r : Bool) (w : World) (h : spec_l1U32.f a0 = some r) :
    Calls Try.prog 87 #[.int .i64 a0] w fun e w' => e = .returned (.bool r) ∧ Drawn0 w w' := by
  have H : ((spec_l1In.f a0 0 4294967295).bind fun t219 => (some t219)) = some r := h
  clear h
  replace H := Option.bind_eq_some_iff.mp H
  obtain ⟨t219, A20, H⟩ := H
  replace H : (some t219) = some r := H
  have A2 := Aside0.mk A20
  clear A20
  obtain rfl := Option.some.inj H
  go_enter Try.func87, Try.ntmps87
  go_wp2_with (first | ((with_reducible refine gate_callee (f := 59) rfl ?_); refine goesL_ (some 4) rfl rfl Try.func59 (by kernel_rfl) rfl #[.int .i64 a0, .int .i64 0, .int .i64 4294967295] rfl (by (try simp only [List.map_toArray, List.map_cons, List.map_nil]); first | done | rfl | (simp only [List.length_drop, List.length_take]; rfl)) ?_; (with_reducible refine (spec_l1In.calls a0 0 4294967295 t219 _ A2.out).mono ?_); rintro e w' ⟨rfl, ⟨nd, rfl⟩⟩; refine ⟨_, rfl, ?_⟩))
  go_ret
  exact ⟨by first | rfl | (simp; done) | (simp [*]; done), by repeat (first | exact Drawn0.refl _ | apply Drawn0.step)⟩

/-! ### spec_TakeU32: function 62 -/
def spec_TakeU32.f (k : Nat) (a0 : ByteArray) (a1 : Int) : Option (Int × Int × Bool) := (spec_l1Text.f a0 a1).bind fun t220 => (if t220 = true then ((spec_l1Take.f k a0 a1).bind fun bt221 => (if bt221.2.2 = 0 then (some (0, 0, false)) else ((spec_l1U32.f bt221.1).bind fun t224 => (if t224 = true then (some (bt221.1, bt221.2.2, true)) else (some (0, 0, false)))))) else (some (0, 0, false)))
theorem spec_TakeU32.mono : ∀ a0 a1 k, LeO (spec_TakeU32.f k a0 a1) (spec_TakeU32.f (k + 1) a0 a1) := by
  intro a0 a1 k
  unfold spec_TakeU32.f
  repeat' first
      | (with_reducible exact spec_l1Take.mono _ _ _)
      | (with_reducible exact LeO.refl _)
      | (with_reducible exact LeO.none _)
      | (with_reducible refine LeO.ite ?_ ?_)
      | (with_reducible refine LeO.bind ?_ (fun _ => ?_))
      | exact spec_l1Take.mono _ _ _
      | exact LeO.none _
      | refine LeO.ite ?_ ?_
      | refine LeO.bind ?_ (fun _ => ?_)
set_option maxHeartbeats 8000000 in
set_option maxRecDepth 100000 in
theorem spec_TakeU32.calls (k : Nat) (a0 : ByteArray) (a1 : Int) (r1 : Int) (r2 : Int) (r3 : Bool) (w : World) (h : spec_TakeU32.f k a0 a1 = some (r1, r2, r3)) :
    Calls Try.prog 62 #[.string a0, .int .i64 a1] w fun e w' => e = .returned (.tuple #[.int .i64 r1, .int .i64 r2, .bool r3]) ∧ Drawn0 w w' := by
  have H : ((spec_l1Text.f a0 a1).bind fun t220 => (if t220 = true then ((spec_l1Take.f k a0 a1).bind fun bt221 => (if bt221.2.2 = 0 then (some (0, 0, false)) else ((spec_l1U32.f bt221.1).bind fun t224 => (if t224 = true then (some (bt221.1, bt221.2.2, true)) else (some (0, 0, false)))))) else (some (0, 0, false)))) = some (r1, r2, r3) := h
  clear h
  replace H := Option.bind_eq_some_iff.mp H
  obtain ⟨t220, A30, H⟩ := H
  replace H : (if t220 = true then ((spec_l1Take.f k a0 a1).bind fun bt221 => (if bt221.2.2 = 0 then (some (0, 0, false)) else ((spec_l1U32.f bt221.1).bind fun t224 => (if t224 = true then (some (bt221.1, bt221.2.2, true)) else (some (0, 0, false)))))) else (some (0, 0, false))) = some (r1, r2, r3) := H
  have A3 := Aside0.mk A30
  clear A30
  by_cases c4 : t220 = true
  · subst c4
    have H1 : ((spec_l1Take.f k a0 a1).bind fun bt221 => (if bt221.2.2 = 0 then (some (0, 0, false)) else ((spec_l1U32.f bt221.1).bind fun t224 => (if t224 = true then (some (bt221.1, bt221.2.2, true)) else (some (0, 0, false)))))) = some (r1, r2, r3) := by rw [if_pos rfl] at H; exact H
    clear H
    have H := H1
    clear H1
    replace H := Option.bind_eq_some_iff.mp H
    obtain ⟨⟨t221, t222, t223⟩, A50, H⟩ := H
    replace H : (if t223 = 0 then (some (0, 0, false)) else ((spec_l1U32.f t221).bind fun t224 => (if t224 = true then (some (t221, t223, true)) else (some (0, 0, false))))) = some (r1, r2, r3) := H
    have A5 := Aside0.mk A50
    clear A50
    by_cases c6 : t223 = 0
    · rw [if_pos c6] at H
      have c6b0 : (t223 == 0) = true := beq_iff_eq.mpr c6
      have c6b1 : (t223 != 0) = false := bne_eq_false_iff_eq.mpr c6
      clear c6
      simp only [Option.some.injEq, Prod.mk.injEq] at H
      obtain ⟨rfl, rfl, rfl⟩ := H
      go_enter Try.func62, Try.ntmps62
      go_wp2_with (first | ((with_reducible refine gate_callee (f := 85) rfl ?_); refine goesL_ (some 12) rfl rfl Try.func85 (by kernel_rfl) rfl #[.string a0, .int .i64 a1] rfl (by (try simp only [List.map_toArray, List.map_cons, List.map_nil]); first | done | rfl | (simp only [List.length_drop, List.length_take]; rfl)) ?_; (with_reducible refine (spec_l1Text.calls a0 a1 true _ A3.out).mono ?_); rintro e w' ⟨rfl, ⟨nd, rfl⟩⟩; refine ⟨_, rfl, ?_⟩) | ((with_reducible refine gate_callee (f := 86) rfl ?_); refine goesL_ (some 17) rfl rfl Try.func86 (by kernel_rfl) rfl #[.string a0, .int .i64 a1] rfl (by (try simp only [List.map_toArray, List.map_cons, List.map_nil]); first | done | rfl | (simp only [List.length_drop, List.length_take]; rfl)) ?_; (with_reducible refine (spec_l1Take.calls k a0 a1 t221 t222 t223 _ A5.out).mono ?_); rintro e w' ⟨rfl, ⟨nd, rfl⟩⟩; refine ⟨_, rfl, ?_⟩))
      go_ret3
      exact ⟨by first | rfl | (simp; done) | (simp [*]; done), by repeat (first | exact Drawn0.refl _ | apply Drawn0.step)⟩
    · rw [if_neg c6] at H
      have c6b0 : (t223 == 0) = false := beq_eq_false_iff_ne.mpr c6
      have c6b1 : (t223 != 0) = true := bne_iff_ne.mpr c6
      replace H := Option.bind_eq_some_iff.mp H
      obtain ⟨t224, A70, H⟩ := H
      replace H : (if t224 = true then (some (t221, t223, true)) else (some (0, 0, false))) = some (r1, r2, r3) := H
      have A7 := Aside0.mk A70
      clear A70
      by_cases c8 : t224 = true
      · subst c8
        have H1 : (some (t221, t223, true)) = some (r1, r2, r3) := by rw [if_pos rfl] at H; exact H
        clear H
        have H := H1
        clear H1
        simp only [Option.some.injEq, Prod.mk.injEq] at H
        obtain ⟨rfl, rfl, rfl⟩ := H
        go_enter Try.func62, Try.ntmps62
        go_wp2_with (first | ((with_reducible refine gate_callee (f := 85) rfl ?_); refine goesL_ (some 12) rfl rfl Try.func85 (by kernel_rfl) rfl #[.string a0, .int .i64 a1] rfl (by (try simp only [List.map_toArray, List.map_cons, List.map_nil]); first | done | rfl | (simp only [List.length_drop, List.length_take]; rfl)) ?_; (with_reducible refine (spec_l1Text.calls a0 a1 true _ A3.out).mono ?_); rintro e w' ⟨rfl, ⟨nd, rfl⟩⟩; refine ⟨_, rfl, ?_⟩) | ((with_reducible refine gate_callee (f := 86) rfl ?_); refine goesL_ (some 17) rfl rfl Try.func86 (by kernel_rfl) rfl #[.string a0, .int .i64 a1] rfl (by (try simp only [List.map_toArray, List.map_cons, List.map_nil]); first | done | rfl | (simp only [List.length_drop, List.length_take]; rfl)) ?_; (with_reducible refine (spec_l1Take.calls k a0 a1 t221 t222 t223 _ A5.out).mono ?_); rintro e w' ⟨rfl, ⟨nd, rfl⟩⟩; refine ⟨_, rfl, ?_⟩) | (go_at_call 87; (with_reducible refine (spec_l1U32.calls t221 true _ A7.out).mono ?_); rintro e w' ⟨rfl, ⟨nd, rfl⟩⟩))
        go_ret3
        exact ⟨by first | rfl | (simp; done) | (simp [*]; done), by repeat (first | exact Drawn0.refl _ | apply Drawn0.step)⟩
      · replace c8 := Bool.eq_false_iff.mpr c8
        subst c8
        have H1 : (some (0, 0, false)) = some (r1, r2, r3) := by rw [if_neg (show ¬ (false = true) by decide)] at H; exact H
        clear H
        have H := H1
        clear H1
        simp only [Option.some.injEq, Prod.mk.injEq] at H
        obtain ⟨rfl, rfl, rfl⟩ := H
        go_enter Try.func62, Try.ntmps62
        go_wp2_with (first | ((with_reducible refine gate_callee (f := 85) rfl ?_); refine goesL_ (some 12) rfl rfl Try.func85 (by kernel_rfl) rfl #[.string a0, .int .i64 a1] rfl (by (try simp only [List.map_toArray, List.map_cons, List.map_nil]); first | done | rfl | (simp only [List.length_drop, List.length_take]; rfl)) ?_; (with_reducible refine (spec_l1Text.calls a0 a1 true _ A3.out).mono ?_); rintro e w' ⟨rfl, ⟨nd, rfl⟩⟩; refine ⟨_, rfl, ?_⟩) | ((with_reducible refine gate_callee (f := 86) rfl ?_); refine goesL_ (some 17) rfl rfl Try.func86 (by kernel_rfl) rfl #[.string a0, .int .i64 a1] rfl (by (try simp only [List.map_toArray, List.map_cons, List.map_nil]); first | done | rfl | (simp only [List.length_drop, List.length_take]; rfl)) ?_; (with_reducible refine (spec_l1Take.calls k a0 a1 t221 t222 t223 _ A5.out).mono ?_); rintro e w' ⟨rfl, ⟨nd, rfl⟩⟩; refine ⟨_, rfl, ?_⟩) | (go_at_call 87; (with_reducible refine (spec_l1U32.calls t221 false _ A7.out).mono ?_); rintro e w' ⟨rfl, ⟨nd, rfl⟩⟩))
        go_ret3
        exact ⟨by first | rfl | (simp; done) | (simp [*]; done), by repeat (first | exact Drawn0.refl _ | apply Drawn0.step)⟩
  · replace c4 := Bool.eq_false_iff.mpr c4
    subst c4
    have H1 : (some (0, 0, false)) = some (r1, r2, r3) := by rw [if_neg (show ¬ (false = true) by decide)] at H; exact H
    clear H
    have H := H1
    clear H1
    simp only [Option.some.injEq, Prod.mk.injEq] at H
    obtain ⟨rfl, rfl, rfl⟩ := H
    go_enter Try.func62, Try.ntmps62
    go_wp2_with (first | ((with_reducible refine gate_callee (f := 85) rfl ?_); refine goesL_ (some 12) rfl rfl Try.func85 (by kernel_rfl) rfl #[.string a0, .int .i64 a1] rfl (by (try simp only [List.map_toArray, List.map_cons, List.map_nil]); first | done | rfl | (simp only [List.length_drop, List.length_take]; rfl)) ?_; (with_reducible refine (spec_l1Text.calls a0 a1 false _ A3.out).mono ?_); rintro e w' ⟨rfl, ⟨nd, rfl⟩⟩; refine ⟨_, rfl, ?_⟩))
    go_ret3
    exact ⟨by first | rfl | (simp; done) | (simp [*]; done), by repeat (first | exact Drawn0.refl _ | apply Drawn0.step)⟩

end Go.Proofs.Ytmljikgegclolaa.Q
