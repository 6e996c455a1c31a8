-- WRITTEN BY A PROGRAM OF THIS SESSION
import Derived.Test.YtbagmhcdhemopaaQ0
import Derived.Test.YtbagmhcdhemopaaQ3
namespace Go.Proofs.Ytbagmhcdhemopaa.Q
open Go.RowKit Go.Proofs.YtbagmhcdhemopaaW.PrintWords Go.Proofs.YtbagmhcdhemopaaW.PrintLast Go.Proofs.YtbagmhcdhemopaaW.PrintMore
attribute [local go_sem] max2_int min2_int max_two min_two max_three min_three max_four min_four   -- for this text's walks alone
set_option linter.unusedVariables false
set_option linter.unusedSimpArgs false

/-! ### impl_reach: function 55 -/
mutual
def impl_reach.l0 : Nat → List (List Int) → List Int → List Bool → List Int → Option (List Bool)
  | 0, _, _, _, _ => none
  | k + 1, x0, x2, x7, x8 => if (x8.length : Int) > 0 then (if 0 < (x8.length : Int) then (if 0 ≤ (rd x8 0) then (if (rd x8 0) < (x0.length : Int) then (impl_reach.l1 k x0 x2 x7 x8 (rd_L1 x0 (rd x8 0)) ((rd_L1 x0 (rd x8 0)).length : Int) 0) else (none)) else (none)) else (none)) else (some x7)
def impl_reach.l1 : Nat → List (List Int) → List Int → List Bool → List Int → List Int → Int → Int → Option (List Bool)
  | 0, _, _, _, _, _, _, _ => none
  | k + 1, x0, x2, x7, x8, x33, x34, x35 => if x35 < x34 then (if 0 ≤ x35 then (if x35 < (x33.length : Int) then (if 0 ≤ (rd x33 x35) then (if (rd x33 x35) < (x7.length : Int) then (if (rdOf false x7 (rd x33 x35) = true) then (impl_reach.l1 k x0 x2 x7 x8 x33 x34 (wrap64 (x35 + 1))) else ((slices_Contains_int_int.f k x2 (rd x33 x35)).bind fun t155 => (if t155 = true then (impl_reach.l1 k x0 x2 x7 x8 x33 x34 (wrap64 (x35 + 1))) else (if x8.length < 17592186044416 then (impl_reach.l1 k x0 x2 (x7.set ((rd x33 x35) : Int).toNat true) (x8 ++ [rd x33 x35]) x33 x34 (wrap64 (x35 + 1))) else (none))))) else (none)) else (none)) else (none)) else (none)) else (if 1 ≤ (x8.length : Int) then (impl_reach.l0 k x0 x2 x7 (x8.drop (1 : Int).toNat)) else (none))
end
def impl_reach.f (k : Nat) (l0 : List (List Int)) (a1 : Int) (l2 : List Int) : Option (List Bool) := if 0 ≤ (l0.length : Int) then (if ((l0.length : Int) : Int).toNat ≤ 281474976710656 then ((some (List.replicate ((l0.length : Int) : Int).toNat false : List Bool)).bind fun y143 => ((slices_Contains_int_int.f k l2 a1).bind fun t146 => (if t146 = true then (some y143) else (if 0 ≤ a1 then (if a1 < (y143.length : Int) then (impl_reach.l0 k l0 l2 (y143.set (a1 : Int).toNat true) (([a1] : List Int))) else (none)) else (none))))) else (none)) else (none)
theorem impl_reach.mono_l : ∀ k, (∀ y0 y1 y2 y3, LeO (impl_reach.l0 k y0 y1 y2 y3) (impl_reach.l0 (k + 1) y0 y1 y2 y3)) ∧ (∀ y0 y1 y2 y3 y4 y5 y6, LeO (impl_reach.l1 k y0 y1 y2 y3 y4 y5 y6) (impl_reach.l1 (k + 1) y0 y1 y2 y3 y4 y5 y6))
  | 0 => ⟨fun _ _ _ _ r h => by simp [impl_reach.l0] at h, fun _ _ _ _ _ _ _ r h => by simp [impl_reach.l1] at h⟩
  | k + 1 => by
    obtain ⟨ih0, ih1⟩ := impl_reach.mono_l k
    refine ⟨?_, ?_⟩
    · intro y0 y1 y2 y3
      unfold impl_reach.l0
      repeat' first
      | (with_reducible exact ih0 _ _ _ _)
      | (with_reducible exact ih1 _ _ _ _ _ _ _)
      | (with_reducible exact slices_Contains_int_int.mono _ _ _)
      | (with_reducible exact LeO.refl _)
      | (with_reducible exact LeO.none _)
      | (with_reducible refine LeO.ite ?_ ?_)
      | (with_reducible refine LeO.bind ?_ (fun _ => ?_))
      | exact ih0 _ _ _ _
      | exact ih1 _ _ _ _ _ _ _
      | exact slices_Contains_int_int.mono _ _ _
      | exact LeO.none _
      | refine LeO.ite ?_ ?_
      | refine LeO.bind ?_ (fun _ => ?_)
    · intro y0 y1 y2 y3 y4 y5 y6
      unfold impl_reach.l1
      repeat' first
      | (with_reducible exact ih0 _ _ _ _)
      | (with_reducible exact ih1 _ _ _ _ _ _ _)
      | (with_reducible exact slices_Contains_int_int.mono _ _ _)
      | (with_reducible exact LeO.refl _)
      | (with_reducible exact LeO.none _)
      | (with_reducible refine LeO.ite ?_ ?_)
      | (with_reducible refine LeO.bind ?_ (fun _ => ?_))
      | exact ih0 _ _ _ _
      | exact ih1 _ _ _ _ _ _ _
      | exact slices_Contains_int_int.mono _ _ _
      | exact LeO.none _
      | refine LeO.ite ?_ ?_
      | refine LeO.bind ?_ (fun _ => ?_)
theorem impl_reach.mono : ∀ a0 a1 a2 k, LeO (impl_reach.f k a0 a1 a2) (impl_reach.f (k + 1) a0 a1 a2) := by
  intro a0 a1 a2 k
  obtain ⟨ih0, ih1⟩ := impl_reach.mono_l k
  unfold impl_reach.f
  repeat' first
      | (with_reducible exact ih0 _ _ _ _)
      | (with_reducible exact ih1 _ _ _ _ _ _ _)
      | (with_reducible exact slices_Contains_int_int.mono _ _ _)
      | (with_reducible exact LeO.refl _)
      | (with_reducible exact LeO.none _)
      | (with_reducible refine LeO.ite ?_ ?_)
      | (with_reducible refine LeO.bind ?_ (fun _ => ?_))
      | exact ih0 _ _ _ _
      | exact ih1 _ _ _ _ _ _ _
      | exact slices_Contains_int_int.mono _ _ _
      | exact LeO.none _
      | refine LeO.ite ?_ ?_
      | refine LeO.bind ?_ (fun _ => ?_)
set_option maxHeartbeats 8000000 in
set_option maxRecDepth 100000 in
theorem impl_reach.calls (k : Nat) (A0 : Option Addr) (c0 : Nat) (l0 : List (List Int)) (a1 : Int) (A2 : Option Addr) (c2 : Nat) (l2 : List Int) (r : List Bool) (w : World) (hr0 : Kd.C (Kd.slice 3 (Kd.int .i64)) w A0 l0.length l0) (hc0 : l0.length ≤ c0) (hr2 : Kd.C (Kd.int .i64) w A2 l2.length l2) (hc2 : l2.length ≤ c2) (h : impl_reach.f k l0 a1 l2 = some r) :
    Calls Try.prog 55 #[.slice A0 l0.length c0, .int .i64 a1, .slice A2 l2.length c2] w fun e w' => ∃ v0_ : Value, e = .returned (v0_) ∧ Kd.R Kd.bool 4 w' w.heap.size (fun _ => True) v0_ r ∧ Below w.heap.size w w' := by
  have HR0 := Aside0.mk hr0
  have HC0 := Aside0.mk hc0
  clear hr0 hc0
  have HR2 := Aside0.mk hr2
  have HC2 := Aside0.mk hc2
  clear hr2 hc2
  have HB := Aside0.mk (Below.refl w.heap.size w)
  have H : (if 0 ≤ (l0.length : Int) then (if ((l0.length : Int) : Int).toNat ≤ 281474976710656 then ((some (List.replicate ((l0.length : Int) : Int).toNat false : List Bool)).bind fun y143 => ((slices_Contains_int_int.f k l2 a1).bind fun t146 => (if t146 = true then (some y143) else (if 0 ≤ a1 then (if a1 < (y143.length : Int) then (impl_reach.l0 k l0 l2 (y143.set (a1 : Int).toNat true) (([a1] : List Int))) else (none)) else (none))))) else (none)) else (none)) = some r := h
  clear h
  by_cases c4 : 0 ≤ (l0.length : Int)
  · rw [if_pos c4] at H
    have c4b0 := eq_true c4
    have c4b1 : decide (0 ≤ (l0.length : Int)) = true := decide_eq_true c4
    clear c4
    by_cases c5 : ((l0.length : Int) : Int).toNat ≤ 281474976710656
    · rw [if_pos c5] at H
      have c5b0 := eq_true c5
      have c5b1 : decide (((l0.length : Int) : Int).toNat ≤ 281474976710656) = true := decide_eq_true c5
      clear c5
      obtain ⟨y143, hy143⟩ : ∃ y_ : List Bool, y_ = (List.replicate ((l0.length : Int) : Int).toNat false) := ⟨_, rfl⟩
      replace H : ((slices_Contains_int_int.f k l2 a1).bind fun t146 => (if t146 = true then (some y143) else (if 0 ≤ a1 then (if a1 < (y143.length : Int) then (impl_reach.l0 k l0 l2 (y143.set (a1 : Int).toNat true) (([a1] : List Int))) else (none)) else (none)))) = some r := by first | (rw [hy143]; with_reducible exact H) | (have H2_ := (Option.bind_some _ _).symm.trans H; rw [hy143]; with_reducible exact H2_) | (have H2_ := (Option.bind_some _ _).symm.trans H; with_reducible exact H2_) | with_reducible exact H | (rw [hy143]; exact H) | exact H
      have Ny143 := Aside0.mk hy143
      clear hy143
      replace H := Option.bind_eq_some_iff.mp H
      obtain ⟨t146, A60, H⟩ := H
      replace H : (if t146 = true then (some y143) else (if 0 ≤ a1 then (if a1 < (y143.length : Int) then (impl_reach.l0 k l0 l2 (y143.set (a1 : Int).toNat true) (([a1] : List Int))) else (none)) else (none))) = some r := H
      have A6 := Aside0.mk A60
      clear A60
      by_cases c7 : t146 = true
      · subst c7
        have H1 : (some y143) = some r := by rw [if_pos rfl] at H; exact H
        clear H
        have H := H1
        clear H1
        obtain rfl := Option.some.inj H
        go_enter Try.func55, Try.ntmps55
        go_wp2_with (first | ((with_reducible refine gate_dst (N := 13) rfl ?_); refine Kd.R_make Kd.bool _ 4 rfl (N := 13) rfl 63 _ _ rfl (l0.length : Int) rfl rfl Try.underlying63 (.bool false) 1 info4 rfl (by decide) (by omega) false (ok := fun _ => True) (okp := fun _ => True) rfl (fun _ hk => hk) trivial (of_decide_eq_true (by first | (with_reducible assumption) | assumption)) (Nat.le_trans (Nat.mul_le_mul_right _ (of_decide_eq_true (by first | (with_reducible assumption) | assumption) : (l0.length : Int).toNat ≤ 281474976710656)) (by omega)) (Below.refl _ _) (Nat.le_refl _) ?_; intro v144 w8 ho9 hb hg_ hnew_; clear hg_ hnew_; (first | rw [← Ny143.out] at ho9 | (simp only [Int.reduceToNat] at ho9; rw [← Ny143.out] at ho9)); have n0_ := Aside0.mk (Kd.R_lower ho9 (below_size (by repeat (first | (with_reducible first | exact HB.out | apply below_alloc | apply pw_below_drewN | apply below_drew1) | exact HB.out)))); have n1_ := Aside0.mk (below_step (by repeat (first | (with_reducible first | exact HB.out | apply below_alloc | apply pw_below_drewN | apply below_drew1) | exact HB.out)) hb); clear HB; have HO145 := n0_; have HB := n1_; clear n0_ n1_; clear hb ho9) | ((with_reducible refine gate_callee (f := 61) rfl ?_); refine goesL_ (some 16) rfl rfl Try.func61 (by kernel_rfl) rfl #[.slice A2 l2.length c2, .int .i64 a1] rfl (by (try simp only [List.map_toArray, List.map_cons, List.map_nil]); first | done | rfl | (simp only [List.length_drop, List.length_take]; rfl)) ?_; (with_reducible refine (slices_Contains_int_int.calls k _ _ l2 a1 true _ ?side1 ?side2 A6.out).mono ?_); (case side1 => repeat (first | exact (Kd.C_below HR2.out HB.out) | (with_reducible refine Kd.C_alloc ?_ _) | (with_reducible refine Kd.C_drewN ?_ _) | (with_reducible refine Kd.C_drew ?_))); (case side2 => exact HC2.out); rintro e w' ⟨rfl, ⟨nd, rfl⟩⟩; refine ⟨_, rfl, ?_⟩))
        go_ret
        exact ⟨_, by first | rfl | (simp [errW_none, errW_some] <;> rfl) | (simp [*, errW_none, errW_some] <;> rfl), by (with_reducible repeat (first | apply Kd.R_alloc | apply Kd.R_drewN | apply Kd.R_drew)); exact HO145.out, by repeat (first | (with_reducible first | exact HB.out | apply below_alloc | apply pw_below_drewN | apply below_drew1) | exact HB.out)⟩
      · replace c7 := Bool.eq_false_iff.mpr c7
        subst c7
        have H1 : (if 0 ≤ a1 then (if a1 < (y143.length : Int) then (impl_reach.l0 k l0 l2 (y143.set (a1 : Int).toNat true) (([a1] : List Int))) else (none)) else (none)) = some r := by rw [if_neg (show ¬ (false = true) by decide)] at H; exact H
        clear H
        have H := H1
        clear H1
        by_cases c10 : 0 ≤ a1
        · rw [if_pos c10] at H
          have c10b0 : decide (0 ≤ a1) = true := decide_eq_true c10
          clear c10
          by_cases c11 : a1 < (y143.length : Int)
          · rw [if_pos c11] at H
            have c11b0 : decide (a1 < (y143.length : Int)) = true := decide_eq_true c11
            clear c11
            obtain ⟨y147, hy147⟩ : ∃ y_ : List Bool, y_ = (y143.set (a1 : Int).toNat true) := ⟨_, rfl⟩
            replace H : (impl_reach.l0 k l0 l2 y147 (([a1] : List Int))) = some r := by first | (rw [hy147]; with_reducible exact H) | (have H2_ := (Option.bind_some _ _).symm.trans H; rw [hy147]; with_reducible exact H2_) | (have H2_ := (Option.bind_some _ _).symm.trans H; with_reducible exact H2_) | with_reducible exact H | (rw [hy147]; exact H) | exact H
            have Ny147 := Aside0.mk hy147
            clear hy147
            obtain ⟨y148, hy148⟩ : ∃ y_ : List Int, y_ = (([a1] : List Int)) := ⟨_, rfl⟩
            replace H : (impl_reach.l0 k l0 l2 y147 y148) = some r := by first | (rw [hy148]; with_reducible exact H) | (have H2_ := (Option.bind_some _ _).symm.trans H; rw [hy148]; with_reducible exact H2_) | (have H2_ := (Option.bind_some _ _).symm.trans H; with_reducible exact H2_) | with_reducible exact H | (rw [hy148]; exact H) | exact H
            have Ny148 := Aside0.mk hy148
            clear hy148
            have H' := Aside0.mk H
            clear H
            go_enter Try.func55, Try.ntmps55
            go_wp2_with (first | ((with_reducible refine gate_dst (N := 13) rfl ?_); refine Kd.R_make Kd.bool _ 4 rfl (N := 13) rfl 63 _ _ rfl (l0.length : Int) rfl rfl Try.underlying63 (.bool false) 1 info4 rfl (by decide) (by omega) false (ok := fun _ => True) (okp := fun _ => True) rfl (fun _ hk => hk) trivial (of_decide_eq_true (by first | (with_reducible assumption) | assumption)) (Nat.le_trans (Nat.mul_le_mul_right _ (of_decide_eq_true (by first | (with_reducible assumption) | assumption) : (l0.length : Int).toNat ≤ 281474976710656)) (by omega)) (Below.refl _ _) (Nat.le_refl _) ?_; intro v144 w13 ho14 hb hg_ hnew_; clear hg_ hnew_; (first | rw [← Ny143.out] at ho14 | (simp only [Int.reduceToNat] at ho14; rw [← Ny143.out] at ho14)); have n0_ := Aside0.mk (Kd.R_lower ho14 (below_size (by repeat (first | (with_reducible first | exact HB.out | apply below_alloc | apply pw_below_drewN | apply below_drew1) | exact HB.out)))); have n1_ := Aside0.mk (below_step (by repeat (first | (with_reducible first | exact HB.out | apply below_alloc | apply pw_below_drewN | apply below_drew1) | exact HB.out)) hb); clear HB; have HO145 := n0_; have HB := n1_; clear n0_ n1_; clear hb ho14) | ((with_reducible refine gate_callee (f := 61) rfl ?_); refine goesL_ (some 16) rfl rfl Try.func61 (by kernel_rfl) rfl #[.slice A2 l2.length c2, .int .i64 a1] rfl (by (try simp only [List.map_toArray, List.map_cons, List.map_nil]); first | done | rfl | (simp only [List.length_drop, List.length_take]; rfl)) ?_; (with_reducible refine (slices_Contains_int_int.calls k _ _ l2 a1 false _ ?side1 ?side2 A6.out).mono ?_); (case side1 => repeat (first | exact (Kd.C_below HR2.out HB.out) | (with_reducible refine Kd.C_alloc ?_ _) | (with_reducible refine Kd.C_drewN ?_ _) | (with_reducible refine Kd.C_drew ?_))); (case side2 => exact HC2.out); rintro e w' ⟨rfl, ⟨nd, rfl⟩⟩; refine ⟨_, rfl, ?_⟩; (try (rw [drewN_self w13]; generalize hq_ : World.drewN w13 _ = w13; have n0_ : Aside0 (Kd.R Kd.bool 4 w13 w.heap.size (fun _ => True) v144 y143) := ⟨by rw [← hq_]; exact (by (with_reducible repeat (first | apply Kd.R_alloc | apply Kd.R_drewN | apply Kd.R_drew)); exact HO145.out)⟩; have n1_ : Aside0 (Below w.heap.size w w13) := ⟨by rw [← hq_]; exact (by repeat (first | (with_reducible first | exact HB.out | apply below_alloc | apply pw_below_drewN | apply below_drew1) | exact HB.out))⟩; clear HO145 HB hq_; have HO145 := n0_; have HB := n1_; clear n0_ n1_)); have p12 : 0 ≤ (a1 : Int) := of_decide_eq_true (by first | (with_reducible assumption) | assumption); have q12 : (a1 : Int) < ((y143.length : Int) : Int) := of_decide_eq_true (by first | (with_reducible assumption) | assumption); obtain ⟨go12, co12, eo12, gb12, gl12, cl12, HG12⟩ := Kd.R_form HO145.out (by omega); (first | cases eo12 | (injection eo12 with ea_ en_ ec_; (first | subst ea_ | (injection ea_ with ea_; subst ea_)); subst ec_; clear en_)); have GB12 := Aside0.mk gb12; have GG12 := Aside0.mk HG12; clear gb12 gl12 HG12; obtain ⟨hx12_0, hf12_0⟩ := Kd.R_celln false HO145.out (a1 : Int) p12 q12; replace p12 := eq_true p12; replace q12 := eq_true q12; obtain ⟨hy15_, hz15_⟩ := Kd.R_celln false HO145.out (a1 : Int) (of_decide_eq_true (by first | (with_reducible assumption) | assumption)) (of_decide_eq_true (by first | (with_reducible assumption) | assumption)); have HP15 := Kd.R_putg HO145.out (a1 : Int) true) | ((with_reducible refine gate_store (t := 4) (p := 20) rfl ?_); refine store_event (t := 4) (p := 20) (v := ?vo_w16) (w1 := (w13.setCell ⟨go12, (a1 : Int).toNat, none⟩ (.bool true))) ?hg ?ho ?hn ?hr ?_; (case ho => rfl); (case hg => rfl); (case hn => rfl); (case hr => first | (go_simp; done) | (go_simp; rfl)); intro w16 hw; have hg : w13.grownBy w16 (some go12) := (by rw [hw]; exact HP15.2); have hp_ : Kd.R Kd.bool 4 w16 w.heap.size (fun _ => True) (.slice (some ⟨go12, 0, none⟩) y143.length co12) y147 := (by rw [hw, Ny147.out]; exact HP15.1); clear HP15; have n0_ := Aside0.mk (hp_); have n1_ := Aside0.mk ((by rw [hw]; exact below_set (HB.out) GB12.out : Below w.heap.size w w16)); clear HO145; clear HB; have HO145 := n0_; have HB := n1_; clear n0_ n1_; clear hg hw hp_) | ((with_reducible refine gate_dst (N := 22) rfl ?_); refine Kd.R_lit (Kd.int .i64) _ 3 ?hg (N := 22) ?hd (xs := ([a1] : List Int)) (inner := [.int .i64 a1]) (ok := fun _ => True) (okp := fun _ => True) ?hr ?hp (fun _ hk => hk) trivial (Below.refl _ _) (Nat.le_refl _) (by simp) ?_; (case hd => rfl); (case hg => rfl); (case hr => first | (go_simp; done) | (go_simp; rfl)); (case hp => exact (Reps.one (show Kd.M (Kd.int .i64) _ _ _ a1 [.int .i64 a1] from rfl) (Reps.none _ _))); intro v149 w17 ho18 hb hg_ hnew_; clear hg_ hnew_; (first | rw [← Ny148.out] at ho18 | (simp only [Int.reduceToNat] at ho18; rw [← Ny148.out] at ho18)); have n0_ := Aside0.mk (Kd.R_below (by (with_reducible repeat (first | apply Kd.R_alloc | apply Kd.R_drewN | apply Kd.R_drew)); exact HO145.out) hb); have n1_ := Aside0.mk (Kd.R_lower ho18 (below_size (by repeat (first | (with_reducible first | exact HB.out | apply below_alloc | apply pw_below_drewN | apply below_drew1) | exact HB.out)))); have n2_ := Aside0.mk (below_step (by repeat (first | (with_reducible first | exact HB.out | apply below_alloc | apply pw_below_drewN | apply below_drew1) | exact HB.out)) hb); clear HO145; clear HB; have HO145 := n0_; have HO150 := n1_; have HB := n2_; clear n0_ n1_ n2_; clear hb ho18))
            go_loopg [8] k (fun kq v8 w' => ∃ (x7_1 : List Bool) (x8_1 : List Int), Aside0 (impl_reach.l0 kq l0 l2 x7_1 x8_1 = some r) ∧ Aside0 (kq ≤ k) ∧ Aside0 (Kd.R Kd.bool 4 w' w.heap.size (fun _ => True) (.slice (some ⟨go12, 0, none⟩) y143.length co12) x7_1) ∧ Aside0 (Kd.Q (Kd.int .i64) 3 w' w.heap.size (fun _ => True) v8 x8_1) ∧ Aside0 (Below w.heap.size w w'))
            case atStart => exact ⟨(y147), (y148), H', ⟨Nat.le_refl _⟩, ⟨by (with_reducible repeat (first | apply Kd.R_alloc | apply Kd.R_drewN | apply Kd.R_drew)); exact HO145.out⟩, ⟨Kd.Q_of_R (by (with_reducible repeat (first | apply Kd.R_alloc | apply Kd.R_drewN | apply Kd.R_drew)); exact HO150.out)⟩, ⟨by repeat (first | (with_reducible first | exact HB.out | apply below_alloc | apply pw_below_drewN | apply below_drew1) | exact HB.out)⟩⟩
            case round =>
              clear H'
              try clear c1
              try clear p1
              try clear q1
              try clear hx1
              try clear c2
              try clear p2
              try clear c4
              try clear c4b0
              try clear c4b1
              try clear c5
              try clear c5b0
              try clear c5b1
              try clear c6
              try clear c7
              try clear c10
              try clear c10b0
              try clear c11
              try clear c11b0
              try clear p12
              try clear q12
              try clear hx12
              try clear hf12
              try clear hx12_0
              try clear p12
              try clear q12
              obtain ⟨x7_1, x8_1, HA, HK1, HO_7, HO_8, HB⟩ := hrel
              have hl7_1 := (Kd.R_reads' HO_7.out).1
              rw [hl7_1] at HO_7
              (try simp only [hl7_1])
              (try simp only [hl7_1] at HO_8)
              cases gk with
              | zero => exact absurd HA.out (by simp [impl_reach.l0])
              | succ k1 =>
                have H := HA.out
                clear HA
                simp only [impl_reach.l0] at H
                by_cases c19 : (x8_1.length : Int) > 0
                · rw [if_pos c19] at H
                  have c19b0 : decide (0 < (x8_1.length : Int)) = true := decide_eq_true c19
                  (try (have c19b0_h := c19b0; rw [hl7_1] at c19b0_h))
                  have c19b1 : decide (0 < x8_1.length) = true := decide_eq_true (by omega)
                  (try (have c19b1_h := c19b1; rw [hl7_1] at c19b1_h))
                  clear c19
                  by_cases c20 : 0 < (x8_1.length : Int)
                  · rw [if_pos c20] at H
                    have c20b0 : decide (0 < (x8_1.length : Int)) = true := decide_eq_true c20
                    (try (have c20b0_h := c20b0; rw [hl7_1] at c20b0_h))
                    have c20b1 : decide (0 < x8_1.length) = true := decide_eq_true (by omega)
                    (try (have c20b1_h := c20b1; rw [hl7_1] at c20b1_h))
                    clear c20
                    by_cases c21 : 0 ≤ (rd x8_1 0)
                    · rw [if_pos c21] at H
                      have c21b0 : decide (0 ≤ (rd x8_1 0)) = true := decide_eq_true c21
                      clear c21
                      by_cases c22 : (rd x8_1 0) < (l0.length : Int)
                      · rw [if_pos c22] at H
                        have c22b0 : decide ((rd x8_1 0) < (l0.length : Int)) = true := decide_eq_true c22
                        (try (have c22b0_h := c22b0; rw [hl7_1] at c22b0_h))
                        clear c22
                        have H' := Aside0.mk H
                        clear H
                        obtain ⟨Ao23, co23, eo23, _⟩ := Kd.Q_slice HO_8.out
                        subst eo23
                        have p151 : 0 ≤ (0 : Int) := (by omega)
                        have q151 : 0 < (x8_1.length : Int) := of_decide_eq_true (by first | (with_reducible assumption) | assumption)
                        obtain ⟨ad151, e151, hx151_0⟩ := Kd.at_int (Kd.Q_reads' HO_8.out).2.2 0 p151 q151
                        cases e151
                        have qi151 : (0 < x8_1.length) = True := eq_true (by omega)
                        (try rw [show ((0 : Int)).toNat = 0 from rfl] at hx151_0)
                        (try rw [Addr.add_zero'] at hx151_0)
                        replace p151 := eq_true p151
                        replace q151 := eq_true q151
                        have p152 : 0 ≤ ((rd x8_1 0) : Int) := of_decide_eq_true (by first | (with_reducible assumption) | assumption)
                        have q152 : (rd x8_1 0) < (l0.length : Int) := of_decide_eq_true (by first | (with_reducible assumption) | assumption)
                        obtain ⟨ad152, A152_0, c152_0, e152, hx152_0, hl152_0, hi152_0⟩ := at_L1 HR0.out (rd x8_1 0) p152 q152
                        cases e152
                        replace hx152_0 := (HB.out.cell (World.block_lt_of_cell? w _ hx152_0)).trans hx152_0
                        have HR152_0 := Aside0.mk hi152_0
                        have HC152_0 := Aside0.mk hl152_0
                        clear hi152_0 hl152_0
                        replace p152 := eq_true p152
                        replace q152 := eq_true q152
                        go_wp2
                        go_loopg [8, 35] k1 (fun kq v8 v35 w' => ∃ (x7_2 : List Bool) (x8_2 : List Int) (x35_2 : Int), v35 = .int .i64 x35_2 ∧ Aside0 (impl_reach.l1 kq l0 l2 x7_2 x8_2 (rd_L1 l0 (rd x8_1 0)) ((rd_L1 l0 (rd x8_1 0)).length : Int) x35_2 = some r) ∧ Aside0 (kq ≤ k1) ∧ Aside0 (Kd.R Kd.bool 4 w' w.heap.size (fun _ => True) (.slice (some ⟨go12, 0, none⟩) x7_1.length co12) x7_2) ∧ Aside0 (Kd.Q (Kd.int .i64) 3 w' w.heap.size (fun _ => True) v8 x8_2) ∧ Aside0 (Below w.heap.size w w'))
                        case atStart => exact ⟨(x7_1), (x8_1), (0), (by first | rfl | (simp; done) | (simp [*]; done)), H', ⟨Nat.le_refl _⟩, ⟨by (try simp only [hl7_1]); (with_reducible repeat (first | apply Kd.R_alloc | apply Kd.R_drewN | apply Kd.R_drew)); exact HO_7.out⟩, ⟨by (try simp only [hl7_1]); (with_reducible repeat (first | apply Kd.Q_alloc | apply Kd.Q_drewN | apply Kd.Q_drew)); exact HO_8.out⟩, ⟨by repeat (first | (with_reducible first | exact HB.out | apply below_alloc | apply pw_below_drewN | apply below_drew1) | exact HB.out)⟩⟩
                        case round =>
                          clear H'
                          try clear c1
                          try clear p1
                          try clear q1
                          try clear hx1
                          try clear qi1
                          try clear c2
                          try clear p2
                          try clear c4
                          try clear c4b0
                          try clear c4b1
                          try clear c5
                          try clear c5b0
                          try clear c5b1
                          try clear c6
                          try clear c7
                          try clear c10
                          try clear c10b0
                          try clear c11
                          try clear c11b0
                          try clear p12
                          try clear q12
                          try clear hx12
                          try clear hf12
                          try clear c15
                          try clear p15
                          try clear q15
                          try clear hx15
                          try clear qi15
                          try clear c19
                          try clear c19b0
                          try clear c19b1
                          try clear c20
                          try clear c20b0
                          try clear c20b1
                          try clear c21
                          try clear c21b0
                          try clear c22
                          try clear c22b0
                          try clear hx12_0
                          try clear hx151_0
                          try clear hx152_0
                          try clear p1
                          try clear p12
                          try clear p151
                          try clear p152
                          try clear p2
                          try clear q1
                          try clear q12
                          try clear q151
                          try clear q152
                          obtain ⟨x7_2, x8_2, x35_2, rfl, HA, HK2, HO_7, HO_8, HB⟩ := hrel
                          have hl7_2 := (Kd.R_reads' HO_7.out).1
                          rw [hl7_2] at HO_7
                          (try simp only [hl7_2])
                          (try simp only [hl7_2] at HO_8)
                          cases gk with
                          | zero => exact absurd HA.out (by simp [impl_reach.l1])
                          | succ k2 =>
                            have H := HA.out
                            clear HA
                            simp only [impl_reach.l1] at H
                            by_cases c24 : x35_2 < ((rd_L1 l0 (rd x8_1 0)).length : Int)
                            · rw [if_pos c24] at H
                              have c24b0 : decide (x35_2 < ((rd_L1 l0 (rd x8_1 0)).length : Int)) = true := decide_eq_true c24
                              (try (have c24b0_h := c24b0; rw [hl7_2] at c24b0_h))
                              clear c24
                              by_cases c25 : 0 ≤ x35_2
                              · rw [if_pos c25] at H
                                have c25b0 : decide (0 ≤ x35_2) = true := decide_eq_true c25
                                clear c25
                                by_cases c26 : x35_2 < ((rd_L1 l0 (rd x8_1 0)).length : Int)
                                · rw [if_pos c26] at H
                                  have c26b0 : decide (x35_2 < ((rd_L1 l0 (rd x8_1 0)).length : Int)) = true := decide_eq_true c26
                                  (try (have c26b0_h := c26b0; rw [hl7_2] at c26b0_h))
                                  clear c26
                                  by_cases c27 : 0 ≤ (rd (rd_L1 l0 (rd x8_1 0)) x35_2)
                                  · rw [if_pos c27] at H
                                    have c27b0 : decide (0 ≤ (rd (rd_L1 l0 (rd x8_1 0)) x35_2)) = true := decide_eq_true c27
                                    clear c27
                                    by_cases c28 : (rd (rd_L1 l0 (rd x8_1 0)) x35_2) < (x7_2.length : Int)
                                    · rw [if_pos c28] at H
                                      have c28b0 : decide ((rd (rd_L1 l0 (rd x8_1 0)) x35_2) < (x7_2.length : Int)) = true := decide_eq_true c28
                                      (try (have c28b0_h := c28b0; rw [hl7_2] at c28b0_h))
                                      clear c28
                                      obtain ⟨bq29, hbq29⟩ : ∃ b_ : Bool, b_ = (rdOf false x7_2 (rd (rd_L1 l0 (rd x8_1 0)) x35_2)) := ⟨_, rfl⟩
                                      replace H : (if (bq29 = true) then (impl_reach.l1 k2 l0 l2 x7_2 x8_2 (rd_L1 l0 (rd x8_1 0)) ((rd_L1 l0 (rd x8_1 0)).length : Int) (wrap64 (x35_2 + 1))) else ((slices_Contains_int_int.f k2 l2 (rd (rd_L1 l0 (rd x8_1 0)) x35_2)).bind fun t155 => (if t155 = true then (impl_reach.l1 k2 l0 l2 x7_2 x8_2 (rd_L1 l0 (rd x8_1 0)) ((rd_L1 l0 (rd x8_1 0)).length : Int) (wrap64 (x35_2 + 1))) else (if x8_2.length < 17592186044416 then (impl_reach.l1 k2 l0 l2 (x7_2.set ((rd (rd_L1 l0 (rd x8_1 0)) x35_2) : Int).toNat true) (x8_2 ++ [rd (rd_L1 l0 (rd x8_1 0)) x35_2]) (rd_L1 l0 (rd x8_1 0)) ((rd_L1 l0 (rd x8_1 0)).length : Int) (wrap64 (x35_2 + 1))) else (none))))) = some r := by rw [← hbq29] at H; exact H
                                      have Nbq29 := Aside0.mk hbq29
                                      clear hbq29
                                      by_cases c30 : (bq29 = true)
                                      · subst c30
                                        have H1 : (impl_reach.l1 k2 l0 l2 x7_2 x8_2 (rd_L1 l0 (rd x8_1 0)) ((rd_L1 l0 (rd x8_1 0)).length : Int) (wrap64 (x35_2 + 1))) = some r := by rw [if_pos rfl] at H; exact H
                                        clear H
                                        have H := H1
                                        clear H1
                                        have H' := Aside0.mk H
                                        clear H
                                        have p153 : 0 ≤ (x35_2 : Int) := of_decide_eq_true (by first | (with_reducible assumption) | assumption)
                                        have q153 : x35_2 < ((rd_L1 l0 (rd x8_1 0)).length : Int) := of_decide_eq_true (by first | (with_reducible assumption) | assumption)
                                        obtain ⟨ad153, e153, hx153_0⟩ := Kd.at_int HR152_0.out x35_2 p153 q153
                                        cases e153
                                        replace hx153_0 := (HB.out.cell (World.block_lt_of_cell? w _ hx153_0)).trans hx153_0
                                        replace p153 := eq_true p153
                                        replace q153 := eq_true q153
                                        have p154 : 0 ≤ ((rd (rd_L1 l0 (rd x8_1 0)) x35_2) : Int) := of_decide_eq_true (by first | (with_reducible assumption) | assumption)
                                        have q154 : (rd (rd_L1 l0 (rd x8_1 0)) x35_2) < (x7_2.length : Int) := of_decide_eq_true (by first | (with_reducible assumption) | assumption)
                                        obtain ⟨ad154, e154, hx154_0⟩ := Kd.at_bool (Kd.R_reads' HO_7.out).2.2 (rd (rd_L1 l0 (rd x8_1 0)) x35_2) p154 q154
                                        (try rw [← Nbq29.out] at hx154_0)
                                        obtain rfl : (⟨go12, 0, none⟩ : Addr) = ad154 := (by injection e154)
                                        (first | simp only [add_plain] at hx154_0 | simp only [add_at] at hx154_0 | simp only [Addr.add, Nat.zero_add] at hx154_0 | skip)
                                        replace p154 := eq_true p154
                                        replace q154 := eq_true q154
                                        go_wp2
                                        (try simp only [← hl7_2])
                                        go_roundg k2
                                        case measure => have := HK1.out; have := HK2.out; omega
                                        case rel => exact ⟨(x7_2), (x8_2), (wrap64 (x35_2 + 1)), (by first | rfl | (simp; done) | (simp [*]; done)), H', ⟨by have := HK1.out; have := HK2.out; omega⟩, ⟨by (try simp only [hl7_1]); (try simp only [hl7_2]); (with_reducible repeat (first | apply Kd.R_alloc | apply Kd.R_drewN | apply Kd.R_drew)); exact HO_7.out⟩, ⟨by (try simp only [hl7_1]); (try simp only [hl7_2]); (with_reducible repeat (first | apply Kd.Q_alloc | apply Kd.Q_drewN | apply Kd.Q_drew)); exact HO_8.out⟩, ⟨by repeat (first | (with_reducible first | exact HB.out | apply below_alloc | apply pw_below_drewN | apply below_drew1) | exact HB.out)⟩⟩
                                      · replace c30 := Bool.eq_false_iff.mpr c30
                                        subst c30
                                        have H1 : ((slices_Contains_int_int.f k2 l2 (rd (rd_L1 l0 (rd x8_1 0)) x35_2)).bind fun t155 => (if t155 = true then (impl_reach.l1 k2 l0 l2 x7_2 x8_2 (rd_L1 l0 (rd x8_1 0)) ((rd_L1 l0 (rd x8_1 0)).length : Int) (wrap64 (x35_2 + 1))) else (if x8_2.length < 17592186044416 then (impl_reach.l1 k2 l0 l2 (x7_2.set ((rd (rd_L1 l0 (rd x8_1 0)) x35_2) : Int).toNat true) (x8_2 ++ [rd (rd_L1 l0 (rd x8_1 0)) x35_2]) (rd_L1 l0 (rd x8_1 0)) ((rd_L1 l0 (rd x8_1 0)).length : Int) (wrap64 (x35_2 + 1))) else (none)))) = some r := by rw [if_neg (show ¬ (false = true) by decide)] at H; exact H
                                        clear H
                                        have H := H1
                                        clear H1
                                        replace H := Option.bind_eq_some_iff.mp H
                                        obtain ⟨t155, A310, H⟩ := H
                                        replace H : (if t155 = true then (impl_reach.l1 k2 l0 l2 x7_2 x8_2 (rd_L1 l0 (rd x8_1 0)) ((rd_L1 l0 (rd x8_1 0)).length : Int) (wrap64 (x35_2 + 1))) else (if x8_2.length < 17592186044416 then (impl_reach.l1 k2 l0 l2 (x7_2.set ((rd (rd_L1 l0 (rd x8_1 0)) x35_2) : Int).toNat true) (x8_2 ++ [rd (rd_L1 l0 (rd x8_1 0)) x35_2]) (rd_L1 l0 (rd x8_1 0)) ((rd_L1 l0 (rd x8_1 0)).length : Int) (wrap64 (x35_2 + 1))) else (none))) = some r := H
                                        have A31 := Aside0.mk A310
                                        clear A310
                                        by_cases c32 : t155 = true
                                        · subst c32
                                          have H1 : (impl_reach.l1 k2 l0 l2 x7_2 x8_2 (rd_L1 l0 (rd x8_1 0)) ((rd_L1 l0 (rd x8_1 0)).length : Int) (wrap64 (x35_2 + 1))) = some r := by rw [if_pos rfl] at H; exact H
                                          clear H
                                          have H := H1
                                          clear H1
                                          have H' := Aside0.mk H
                                          clear H
                                          have p153 : 0 ≤ (x35_2 : Int) := of_decide_eq_true (by first | (with_reducible assumption) | assumption)
                                          have q153 : x35_2 < ((rd_L1 l0 (rd x8_1 0)).length : Int) := of_decide_eq_true (by first | (with_reducible assumption) | assumption)
                                          obtain ⟨ad153, e153, hx153_0⟩ := Kd.at_int HR152_0.out x35_2 p153 q153
                                          cases e153
                                          replace hx153_0 := (HB.out.cell (World.block_lt_of_cell? w _ hx153_0)).trans hx153_0
                                          replace p153 := eq_true p153
                                          replace q153 := eq_true q153
                                          have p154 : 0 ≤ ((rd (rd_L1 l0 (rd x8_1 0)) x35_2) : Int) := of_decide_eq_true (by first | (with_reducible assumption) | assumption)
                                          have q154 : (rd (rd_L1 l0 (rd x8_1 0)) x35_2) < (x7_2.length : Int) := of_decide_eq_true (by first | (with_reducible assumption) | assumption)
                                          obtain ⟨ad154, e154, hx154_0⟩ := Kd.at_bool (Kd.R_reads' HO_7.out).2.2 (rd (rd_L1 l0 (rd x8_1 0)) x35_2) p154 q154
                                          (try rw [← Nbq29.out] at hx154_0)
                                          obtain rfl : (⟨go12, 0, none⟩ : Addr) = ad154 := (by injection e154)
                                          (first | simp only [add_plain] at hx154_0 | simp only [add_at] at hx154_0 | simp only [Addr.add, Nat.zero_add] at hx154_0 | skip)
                                          replace p154 := eq_true p154
                                          replace q154 := eq_true q154
                                          go_wp2_with (first | (go_at_call 61; (with_reducible refine (slices_Contains_int_int.calls k2 _ _ l2 (rd (rd_L1 l0 (rd x8_1 0)) x35_2) true _ ?side1 ?side2 A31.out).mono ?_); (case side1 => repeat (first | exact (Kd.C_below HR2.out HB.out) | (with_reducible refine Kd.C_alloc ?_ _) | (with_reducible refine Kd.C_drewN ?_ _) | (with_reducible refine Kd.C_drew ?_))); (case side2 => exact HC2.out); rintro e w' ⟨rfl, ⟨nd, rfl⟩⟩))
                                          (try simp only [← hl7_2])
                                          go_roundg k2
                                          case measure => have := HK1.out; have := HK2.out; omega
                                          case rel => exact ⟨(x7_2), (x8_2), (wrap64 (x35_2 + 1)), (by first | rfl | (simp; done) | (simp [*]; done)), H', ⟨by have := HK1.out; have := HK2.out; omega⟩, ⟨by (try simp only [hl7_1]); (try simp only [hl7_2]); (with_reducible repeat (first | apply Kd.R_alloc | apply Kd.R_drewN | apply Kd.R_drew)); exact HO_7.out⟩, ⟨by (try simp only [hl7_1]); (try simp only [hl7_2]); (with_reducible repeat (first | apply Kd.Q_alloc | apply Kd.Q_drewN | apply Kd.Q_drew)); exact HO_8.out⟩, ⟨by repeat (first | (with_reducible first | exact HB.out | apply below_alloc | apply pw_below_drewN | apply below_drew1) | exact HB.out)⟩⟩
                                        · replace c32 := Bool.eq_false_iff.mpr c32
                                          subst c32
                                          have H1 : (if x8_2.length < 17592186044416 then (impl_reach.l1 k2 l0 l2 (x7_2.set ((rd (rd_L1 l0 (rd x8_1 0)) x35_2) : Int).toNat true) (x8_2 ++ [rd (rd_L1 l0 (rd x8_1 0)) x35_2]) (rd_L1 l0 (rd x8_1 0)) ((rd_L1 l0 (rd x8_1 0)).length : Int) (wrap64 (x35_2 + 1))) else (none)) = some r := by rw [if_neg (show ¬ (false = true) by decide)] at H; exact H
                                          clear H
                                          have H := H1
                                          clear H1
                                          obtain ⟨y156, hy156⟩ : ∃ y_ : List Bool, y_ = (x7_2.set ((rd (rd_L1 l0 (rd x8_1 0)) x35_2) : Int).toNat true) := ⟨_, rfl⟩
                                          replace H : (if x8_2.length < 17592186044416 then (impl_reach.l1 k2 l0 l2 y156 (x8_2 ++ [rd (rd_L1 l0 (rd x8_1 0)) x35_2]) (rd_L1 l0 (rd x8_1 0)) ((rd_L1 l0 (rd x8_1 0)).length : Int) (wrap64 (x35_2 + 1))) else (none)) = some r := by first | (rw [hy156]; with_reducible exact H) | (have H2_ := (Option.bind_some _ _).symm.trans H; rw [hy156]; with_reducible exact H2_) | (have H2_ := (Option.bind_some _ _).symm.trans H; with_reducible exact H2_) | with_reducible exact H | (rw [hy156]; exact H) | exact H
                                          have Ny156 := Aside0.mk hy156
                                          clear hy156
                                          by_cases c34 : x8_2.length < 17592186044416
                                          · rw [if_pos c34] at H
                                            have LMc34 := Aside0.mk c34
                                            clear c34
                                            obtain ⟨y157, hy157⟩ : ∃ y_ : List Int, y_ = (x8_2 ++ [rd (rd_L1 l0 (rd x8_1 0)) x35_2]) := ⟨_, rfl⟩
                                            replace H : (impl_reach.l1 k2 l0 l2 y156 y157 (rd_L1 l0 (rd x8_1 0)) ((rd_L1 l0 (rd x8_1 0)).length : Int) (wrap64 (x35_2 + 1))) = some r := by first | (rw [hy157]; with_reducible exact H) | (have H2_ := (Option.bind_some _ _).symm.trans H; rw [hy157]; with_reducible exact H2_) | (have H2_ := (Option.bind_some _ _).symm.trans H; with_reducible exact H2_) | with_reducible exact H | (rw [hy157]; exact H) | exact H
                                            have Ny157 := Aside0.mk hy157
                                            clear hy157
                                            have H' := Aside0.mk H
                                            clear H
                                            have p153 : 0 ≤ (x35_2 : Int) := of_decide_eq_true (by first | (with_reducible assumption) | assumption)
                                            have q153 : x35_2 < ((rd_L1 l0 (rd x8_1 0)).length : Int) := of_decide_eq_true (by first | (with_reducible assumption) | assumption)
                                            obtain ⟨ad153, e153, hx153_0⟩ := Kd.at_int HR152_0.out x35_2 p153 q153
                                            cases e153
                                            replace hx153_0 := (HB.out.cell (World.block_lt_of_cell? w _ hx153_0)).trans hx153_0
                                            replace p153 := eq_true p153
                                            replace q153 := eq_true q153
                                            have p154 : 0 ≤ ((rd (rd_L1 l0 (rd x8_1 0)) x35_2) : Int) := of_decide_eq_true (by first | (with_reducible assumption) | assumption)
                                            have q154 : (rd (rd_L1 l0 (rd x8_1 0)) x35_2) < (x7_2.length : Int) := of_decide_eq_true (by first | (with_reducible assumption) | assumption)
                                            obtain ⟨ad154, e154, hx154_0⟩ := Kd.at_bool (Kd.R_reads' HO_7.out).2.2 (rd (rd_L1 l0 (rd x8_1 0)) x35_2) p154 q154
                                            (try rw [← Nbq29.out] at hx154_0)
                                            obtain rfl : (⟨go12, 0, none⟩ : Addr) = ad154 := (by injection e154)
                                            (first | simp only [add_plain] at hx154_0 | simp only [add_at] at hx154_0 | simp only [Addr.add, Nat.zero_add] at hx154_0 | skip)
                                            replace p154 := eq_true p154
                                            replace q154 := eq_true q154
                                            go_wp2_with (first | (go_at_call 61; (with_reducible refine (slices_Contains_int_int.calls k2 _ _ l2 (rd (rd_L1 l0 (rd x8_1 0)) x35_2) false _ ?side1 ?side2 A31.out).mono ?_); (case side1 => repeat (first | exact (Kd.C_below HR2.out HB.out) | (with_reducible refine Kd.C_alloc ?_ _) | (with_reducible refine Kd.C_drewN ?_ _) | (with_reducible refine Kd.C_drew ?_))); (case side2 => exact HC2.out); rintro e w' ⟨rfl, ⟨nd, rfl⟩⟩; (try (rw [drewN_self wr]; generalize hq_ : World.drewN wr _ = wr; have n0_ : Aside0 (Kd.R Kd.bool 4 wr w.heap.size (fun _ => True) (.slice (some ⟨go12, 0, none⟩) x7_2.length co12) x7_2) := ⟨by rw [← hq_]; exact (by (with_reducible repeat (first | apply Kd.R_alloc | apply Kd.R_drewN | apply Kd.R_drew)); exact HO_7.out)⟩; have n1_ : Aside0 (Kd.Q (Kd.int .i64) 3 wr w.heap.size (fun _ => True) u8 x8_2) := ⟨by rw [← hq_]; exact (by (with_reducible repeat (first | apply Kd.Q_alloc | apply Kd.Q_drewN | apply Kd.Q_drew)); exact HO_8.out)⟩; have n2_ : Aside0 (Below w.heap.size w wr) := ⟨by rw [← hq_]; exact (by repeat (first | (with_reducible first | exact HB.out | apply below_alloc | apply pw_below_drewN | apply below_drew1) | exact HB.out))⟩; clear HO_7 HO_8 HB hq_; have HO_7 := n0_; have HO_8 := n1_; have HB := n2_; clear n0_ n1_ n2_)); have p33 : 0 ≤ ((rd (rd_L1 l0 (rd x8_1 0)) x35_2) : Int) := of_decide_eq_true (by first | (with_reducible assumption) | assumption); have q33 : ((rd (rd_L1 l0 (rd x8_1 0)) x35_2) : Int) < ((x7_2.length : Int) : Int) := of_decide_eq_true (by first | (with_reducible assumption) | assumption); obtain ⟨hx33_0, hf33_0⟩ := Kd.R_celln false HO_7.out ((rd (rd_L1 l0 (rd x8_1 0)) x35_2) : Int) p33 q33; replace p33 := eq_true p33; replace q33 := eq_true q33; obtain ⟨hy35_, hz35_⟩ := Kd.R_celln false HO_7.out ((rd (rd_L1 l0 (rd x8_1 0)) x35_2) : Int) (of_decide_eq_true (by first | (with_reducible assumption) | assumption)) (of_decide_eq_true (by first | (with_reducible assumption) | assumption)); have HP35 := Kd.R_putg HO_7.out ((rd (rd_L1 l0 (rd x8_1 0)) x35_2) : Int) true) | ((with_reducible refine gate_store (t := 4) (p := 52) rfl ?_); refine store_event (t := 4) (p := 52) (v := ?vo_w36) (w1 := (wr.setCell ⟨go12, ((rd (rd_L1 l0 (rd x8_1 0)) x35_2) : Int).toNat, none⟩ (.bool true))) ?hg ?ho ?hn ?hr ?_; (case ho => rfl); (case hg => rfl); (case hn => rfl); (case hr => first | (go_simp; done) | (go_simp; rfl)); intro w36 hw; have hg : wr.grownBy w36 (some go12) := (by rw [hw]; exact HP35.2); have hp_ : Kd.R Kd.bool 4 w36 w.heap.size (fun _ => True) (.slice (some ⟨go12, 0, none⟩) x7_2.length co12) y156 := (by rw [hw, Ny156.out]; exact HP35.1); clear HP35; have n0_ := Aside0.mk (hp_); have n1_ := Aside0.mk (Kd.Q_over' (v := (.slice (some ⟨go12, 0, none⟩) x7_2.length co12)) (by (with_reducible repeat (first | apply Kd.Q_alloc | apply Kd.Q_drewN | apply Kd.Q_drew)); exact HO_8.out) (Kd.R_typed HO_7.out) (by decide) hg); have n2_ := Aside0.mk ((by rw [hw]; exact below_set (HB.out) GB12.out : Below w.heap.size w w36)); clear HO_7; clear HO_8; clear HB; have HO_7 := n0_; have HO_8 := n1_; have HB := n2_; clear n0_ n1_ n2_; clear hg hw hp_) | ((with_reducible refine gate_builtin (b := .append) (xs := #[.tmp 53, .tmp 55]) rfl ?_); at_builtin; refine Kd.Q_append (Kd.int .i64) (w0 := w) w.heap.size rfl (.tmp 53) (.tmp 55) 31 3 (.int .i64 0) 8 rfl Try.underlying31 info3 rfl (by decide) (by omega) u8 x8_2 (rd (rd_L1 l0 (rd x8_1 0)) x35_2) [.int .i64 (rd (rd_L1 l0 (rd x8_1 0)) x35_2)] (fun _ => True) (fun _ => False) rfl rfl ?aP (fun _ hk => hk.elim) ?aF ?aO ?aB ?aS ?aL ?_; (case aP => exact rfl); (case aB => exact (by repeat (first | (with_reducible first | exact HB.out | apply below_alloc | apply pw_below_drewN | apply below_drew1) | exact HB.out))); (case aF => exact (fun _ _ => trivial)); (case aO => exact (by (with_reducible repeat (first | apply Kd.Q_alloc | apply Kd.Q_drewN | apply Kd.Q_drew)); exact HO_8.out)); (case aS => exact (below_size (by repeat (first | (with_reducible first | exact HB.out | apply below_alloc | apply pw_below_drewN | apply below_drew1) | exact HB.out)))); (case aL => have := LMc34.out; omega); intro v158 w37 ho hb hg hat; rw [← Ny157.out] at ho; have n0_ := Aside0.mk (Kd.R_over' (by (with_reducible repeat (first | apply Kd.R_alloc | apply Kd.R_drewN | apply Kd.R_drew)); exact HO_7.out) (Kd.Q_typed (by (with_reducible repeat (first | apply Kd.Q_alloc | apply Kd.Q_drewN | apply Kd.Q_drew)); exact HO_8.out)) (by decide) hg); have n1_ := Aside0.mk (hb); have n2_ := Aside0.mk (ho); clear HO_7; clear HB; clear HO_8; have HO_7 := n0_; have HB := n1_; have HO159 := n2_; clear n0_ n1_ n2_; clear ho hb hg hat))
                                            (try simp only [← hl7_2])
                                            go_roundg k2
                                            case measure => have := HK1.out; have := HK2.out; omega
                                            case rel => exact ⟨(y156), (y157), (wrap64 (x35_2 + 1)), (by first | rfl | (simp; done) | (simp [*]; done)), H', ⟨by have := HK1.out; have := HK2.out; omega⟩, ⟨by (try simp only [hl7_1]); (try simp only [hl7_2]); (with_reducible repeat (first | apply Kd.R_alloc | apply Kd.R_drewN | apply Kd.R_drew)); exact HO_7.out⟩, ⟨by (try simp only [hl7_1]); (try simp only [hl7_2]); (with_reducible repeat (first | apply Kd.Q_alloc | apply Kd.Q_drewN | apply Kd.Q_drew)); exact HO159.out⟩, ⟨by repeat (first | (with_reducible first | exact HB.out | apply below_alloc | apply pw_below_drewN | apply below_drew1) | exact HB.out)⟩⟩
                                          · rw [if_neg c34] at H
                                            exact absurd H (by simp)
                                    · rw [if_neg c28] at H
                                      exact absurd H (by simp)
                                  · rw [if_neg c27] at H
                                    exact absurd H (by simp)
                                · rw [if_neg c26] at H
                                  exact absurd H (by simp)
                              · rw [if_neg c25] at H
                                exact absurd H (by simp)
                            · rw [if_neg c24] at H
                              have c24b0 : decide (x35_2 < ((rd_L1 l0 (rd x8_1 0)).length : Int)) = false := decide_eq_false c24
                              (try (have c24b0_h := c24b0; rw [hl7_2] at c24b0_h))
                              clear c24
                              by_cases c38 : 1 ≤ (x8_2.length : Int)
                              · rw [if_pos c38] at H
                                have c38b0 := eq_true c38
                                have c38b1 : decide (1 ≤ (x8_2.length : Int)) = true := decide_eq_true c38
                                (try (have c38b1_h := c38b1; rw [hl7_2] at c38b1_h))
                                clear c38
                                obtain ⟨y160, hy160⟩ : ∃ y_ : List Int, y_ = (x8_2.drop (1 : Int).toNat) := ⟨_, rfl⟩
                                replace H : (impl_reach.l0 k2 l0 l2 x7_2 y160) = some r := by first | (rw [hy160]; with_reducible exact H) | (have H2_ := (Option.bind_some _ _).symm.trans H; rw [hy160]; with_reducible exact H2_) | (have H2_ := (Option.bind_some _ _).symm.trans H; with_reducible exact H2_) | with_reducible exact H | (rw [hy160]; exact H) | exact H
                                have Ny160 := Aside0.mk hy160
                                clear hy160
                                have H' := Aside0.mk H
                                clear H
                                obtain ⟨Ao39, co39, eo39, _⟩ := Kd.Q_slice HO_8.out
                                subst eo39
                                have q40 : (1 : Int) ≤ ((x8_2.length : Int) : Int) := of_decide_eq_true (by first | (with_reducible assumption) | assumption)
                                obtain ⟨i040, hi040, _, hsz40, _⟩ := info_parts info3
                                have hcut40 := cut_from (P := Try.prog) 31 3 .i64 Try.underlying31 hi040 1 hsz40 Ao39 x8_2.length co39 1 (by omega) q40
                                have hr40 := Kd.Q_drop (k := (1 : Int).toNat) HO_8.out (by omega)
                                obtain ⟨A40, hA40⟩ : ∃ A1, A1 = (if co39 = (1 : Int).toNat then Ao39 else (Ao39 : Option Addr).map (·.add ((1 : Int).toNat * 1))) := ⟨_, rfl⟩
                                obtain ⟨c40, hc40⟩ : ∃ c1, c1 = co39 - (1 : Int).toNat := ⟨_, rfl⟩
                                have hy40 : y160.length = x8_2.length - (1 : Int).toNat := (by rw [Ny160.out, List.length_drop])
                                rw [← Ny160.out] at hr40
                                rw [← hy40, ← hA40, ← hc40] at hcut40
                                replace hr40 : Kd.Q (Kd.int .i64) 3 wr w.heap.size (fun _ => True) (.slice A40 y160.length c40) y160 := (by rw [hA40, hc40, hy40]; exact hr40)
                                have HE40 : Aside0 ((Value.slice A40 y160.length c40).ownBlock = (.slice Ao39 x8_2.length co39 : Value).ownBlock) := ⟨by rw [hA40]; split <;> (cases (Ao39 : Option Addr) <;> rfl)⟩
                                clear hy40 hi040 hsz40 HO_8 hA40 hc40
                                have HO162 := Aside0.mk hr40
                                clear hr40
                                replace q40 := eq_true q40
                                go_wp2
                                (try simp only [← hl7_1, ← hl7_2])
                                go_roundg k2
                                case measure => have := HK1.out; have := HK2.out; omega
                                case rel => exact ⟨(x7_2), (y160), H', ⟨by have := HK1.out; have := HK2.out; omega⟩, ⟨by (try simp only [hl7_1]); (try simp only [hl7_2]); (with_reducible repeat (first | apply Kd.R_alloc | apply Kd.R_drewN | apply Kd.R_drew)); exact HO_7.out⟩, ⟨by (try simp only [hl7_1]); (try simp only [hl7_2]); (with_reducible repeat (first | apply Kd.Q_alloc | apply Kd.Q_drewN | apply Kd.Q_drew)); exact HO162.out⟩, ⟨by repeat (first | (with_reducible first | exact HB.out | apply below_alloc | apply pw_below_drewN | apply below_drew1) | exact HB.out)⟩⟩
                              · rw [if_neg c38] at H
                                exact absurd H (by simp)
                      · rw [if_neg c22] at H
                        exact absurd H (by simp)
                    · rw [if_neg c21] at H
                      exact absurd H (by simp)
                  · rw [if_neg c20] at H
                    exact absurd H (by simp)
                · rw [if_neg c19] at H
                  have c19b0 : decide (0 < (x8_1.length : Int)) = false := decide_eq_false c19
                  (try (have c19b0_h := c19b0; rw [hl7_1] at c19b0_h))
                  have c19b1 : decide (0 < x8_1.length) = false := decide_eq_false (by omega)
                  (try (have c19b1_h := c19b1; rw [hl7_1] at c19b1_h))
                  clear c19
                  obtain rfl := Option.some.inj H
                  obtain ⟨Ao41, co41, eo41, _⟩ := Kd.Q_slice HO_8.out
                  subst eo41
                  go_wp2
                  go_ret
                  exact ⟨_, by first | rfl | (simp [errW_none, errW_some] <;> rfl) | (simp [*, errW_none, errW_some] <;> rfl), by (with_reducible repeat (first | apply Kd.R_alloc | apply Kd.R_drewN | apply Kd.R_drew)); exact HO_7.out, by repeat (first | (with_reducible first | exact HB.out | apply below_alloc | apply pw_below_drewN | apply below_drew1) | exact HB.out)⟩
          · rw [if_neg c11] at H
            exact absurd H (by simp)
        · rw [if_neg c10] at H
          exact absurd H (by simp)
    · rw [if_neg c5] at H
      exact absurd H (by simp)
  · rw [if_neg c4] at H
    exact absurd H (by simp)

/-! ### impl_dominators: function 52 (by hand: rows inside a row beside rows of the same kind) -/
mutual
def impl_dominators.l0 : Nat → List (List Int) → List Bool → List (List Bool) → Int → Option (List (List Bool))
  | 0, _, _, _, _ => none
  | k + 1, g, a, x, i => if i < (g.length : Int) then (if 0 ≤ i then (impl_dominators.l0 k g a (x.set i.toNat (List.replicate g.length false)) (wrap64 (i + 1))) else none) else impl_dominators.l1 k g a x 0
def impl_dominators.l1 : Nat → List (List Int) → List Bool → List (List Bool) → Int → Option (List (List Bool))
  | 0, _, _, _, _ => none
  | k + 1, g, a, x, i => if i < (a.length : Int) then (if 0 ≤ i then (if rdOf false a i = true then ((impl_reach.f k g 0 [i]).bind fun l => (impl_dominators.l2 k g a l x i 0)) else (impl_dominators.l1 k g a x (wrap64 (i + 1)))) else none) else some x
def impl_dominators.l2 : Nat → List (List Int) → List Bool → List Bool → List (List Bool) → Int → Int → Option (List (List Bool))
  | 0, _, _, _, _, _, _ => none
  | k + 1, g, a, l, x, i, b => if b < (g.length : Int) then (if 0 ≤ b then (if b < (a.length : Int) then (if b < (l.length : Int) then (if i < ((x.getD b.toNat []).length : Int) then (impl_dominators.l2 k g a l (x.set b.toNat ((x.getD b.toNat []).set i.toNat (rdOf false a b && !rdOf false l b))) i (wrap64 (b + 1))) else none) else none) else none) else none) else impl_dominators.l1 k g a x (wrap64 (i + 1))
end
def impl_dominators.f (k : Nat) (g : List (List Int)) : Option (List (List Bool)) := if g.length ≤ 11728124029610 then ((impl_reach.f k g 0 []).bind fun a => (impl_dominators.l0 k g a (List.replicate g.length []) 0)) else none
theorem impl_dominators.mono_l : ∀ k, (∀ y0 y1 y2 y3, LeO (impl_dominators.l0 k y0 y1 y2 y3) (impl_dominators.l0 (k + 1) y0 y1 y2 y3)) ∧ (∀ y0 y1 y2 y3, LeO (impl_dominators.l1 k y0 y1 y2 y3) (impl_dominators.l1 (k + 1) y0 y1 y2 y3)) ∧ (∀ y0 y1 y2 y3 y4 y5, LeO (impl_dominators.l2 k y0 y1 y2 y3 y4 y5) (impl_dominators.l2 (k + 1) y0 y1 y2 y3 y4 y5))
  | 0 => ⟨fun _ _ _ _ r h => by simp [impl_dominators.l0] at h, fun _ _ _ _ r h => by simp [impl_dominators.l1] at h, fun _ _ _ _ _ _ r h => by simp [impl_dominators.l2] at h⟩
  | k + 1 => by
    obtain ⟨ih0, ih1, ih2⟩ := impl_dominators.mono_l k
    refine ⟨?_, ?_, ?_⟩
    · intro y0 y1 y2 y3
      unfold impl_dominators.l0
      repeat' first
      | (with_reducible exact ih0 _ _ _ _)
      | (with_reducible exact ih1 _ _ _ _)
      | (with_reducible exact ih2 _ _ _ _ _ _)
      | (with_reducible exact impl_reach.mono _ _ _ _)
      | (with_reducible exact LeO.refl _)
      | (with_reducible exact LeO.none _)
      | (with_reducible refine LeO.ite ?_ ?_)
      | (with_reducible refine LeO.bind ?_ (fun _ => ?_))
    · intro y0 y1 y2 y3
      unfold impl_dominators.l1
      repeat' first
      | (with_reducible exact ih0 _ _ _ _)
      | (with_reducible exact ih1 _ _ _ _)
      | (with_reducible exact ih2 _ _ _ _ _ _)
      | (with_reducible exact impl_reach.mono _ _ _ _)
      | (with_reducible exact LeO.refl _)
      | (with_reducible exact LeO.none _)
      | (with_reducible refine LeO.ite ?_ ?_)
      | (with_reducible refine LeO.bind ?_ (fun _ => ?_))
    · intro y0 y1 y2 y3 y4 y5
      unfold impl_dominators.l2
      repeat' first
      | (with_reducible exact ih0 _ _ _ _)
      | (with_reducible exact ih1 _ _ _ _)
      | (with_reducible exact ih2 _ _ _ _ _ _)
      | (with_reducible exact impl_reach.mono _ _ _ _)
      | (with_reducible exact LeO.refl _)
      | (with_reducible exact LeO.none _)
      | (with_reducible refine LeO.ite ?_ ?_)
      | (with_reducible refine LeO.bind ?_ (fun _ => ?_))
theorem impl_dominators.mono : ∀ a0 k, LeO (impl_dominators.f k a0) (impl_dominators.f (k + 1) a0) := by
  intro a0 k
  obtain ⟨ih0, ih1, ih2⟩ := impl_dominators.mono_l k
  unfold impl_dominators.f
  repeat' first
      | (with_reducible exact ih0 _ _ _ _)
      | (with_reducible exact ih1 _ _ _ _)
      | (with_reducible exact ih2 _ _ _ _ _ _)
      | (with_reducible exact impl_reach.mono _ _ _ _)
      | (with_reducible exact LeO.refl _)
      | (with_reducible exact LeO.none _)
      | (with_reducible refine LeO.ite ?_ ?_)
      | (with_reducible refine LeO.bind ?_ (fun _ => ?_))
set_option maxHeartbeats 8000000 in
set_option maxRecDepth 100000 in
theorem impl_dominators.calls (k : Nat) (A0 : Option Addr) (c0 : Nat) (l0 : List (List Int)) (r : List (List Bool)) (w : World) (hr0 : Kd.C (Kd.slice 3 (Kd.int .i64)) w A0 l0.length l0) (hc0 : l0.length ≤ c0) (h : impl_dominators.f k l0 = some r) :
    Calls Try.prog 52 #[.slice A0 l0.length c0] w fun e w' => ∃ v0_ : Value, e = .returned (v0_) ∧ Kd.S (Kd.slice 4 Kd.bool) 63 w' w.heap.size (fun _ => True) v0_ r ∧ Below w.heap.size w w' := by
  have HR0 := Aside0.mk hr0
  have HC0 := Aside0.mk hc0
  clear hr0 hc0
  unfold impl_dominators.f at h
  by_cases c1 : l0.length ≤ 11728124029610
  rotate_left
  · rw [if_neg c1] at h; exact absurd h (by simp)
  rw [if_pos c1] at h
  obtain ⟨a, A1, H⟩ := Option.bind_eq_some_iff.mp h
  have A := Aside0.mk A1
  have H' := Aside0.mk H
  clear h A1 H
  have c2 : decide (0 ≤ (l0.length : Int)) = true := decide_eq_true (by omega)
  have c3 : (0 ≤ (l0.length : Int)) = True := eq_true (by omega)
  obtain ⟨y, hy⟩ : ∃ y : List (List Bool), y = List.replicate (l0.length : Int).toNat [] := ⟨_, rfl⟩
  have HY := Aside0.mk hy
  rw [Int.toNat_natCast] at hy
  rw [← hy] at H'
  have HM := Aside0.mk c1
  clear c1 hy
  have hmk61 := fun W => run_make_row' (P := Try.prog) 61 63 (.slice none 0 0) 24 Try.underlying61 (by kernel_rfl) rfl .i64 .i64 l0.length (by have := HM.out; omega) (by have := HM.out; omega) W
  have hmk63 := fun W => run_make_row' (P := Try.prog) 63 4 (.bool false) 1 Try.underlying63 (by kernel_rfl) rfl .i64 .i64 l0.length (by have := HM.out; omega) (by have := HM.out; omega) W
  go_enter Try.func52, Try.ntmps52
  go_upto_region 1 with (fail)
  go_cut [3, 4] (fun v3 v4 wc => ∃ (go : Nat), v3 = .slice (some ⟨go, 0, none⟩) l0.length l0.length ∧ Aside0 (RInv Kd.bool 4 63 Kd.bool 4 w wc v3 v4 y a (fun k_ => some k_ = v4.ownBlock)))
  case first =>
    go_region_with (go_at_call 55; refine (impl_reach.calls k _ _ l0 0 none 0 [] a _ (Kd.C_below HR0.out (by first | exact below_drew (Below.refl _ _) | exact below_alloc (below_drew (Below.refl _ _)) _)) HC0.out (Kd.C_nil _ _) (Nat.le_refl _) A.out).mono ?_; rintro e w3 ⟨va, rfl, ho, hb⟩)
    · go_wp2
      go_meet
      exact ⟨_, rfl, ⟨by have e1 := HY.out; rw [Int.toNat_natCast] at e1; rw [e1]; exact RInv.first rfl (Below.refl _ _) (by have := HM.out; omega) (below_then (below_drew (Below.refl _ _)) (Nat.le_refl _) hb) ho⟩⟩
    · go_wp2
      go_meet
      exact ⟨_, rfl, ⟨by have e1 := HY.out; rw [Int.toNat_natCast] at e1; rw [e1]; exact RInv.second rfl (below_drew (Below.refl _ _)) (by have := HM.out; omega) hb ho⟩⟩
  case rest =>
    obtain ⟨go, rfl, HI⟩ := hcut
    obtain ⟨Aa, ca, ea⟩ := Kd.R_slice HI.out.row
    subst ea
    obtain ⟨F, HI, hF⟩ : ∃ F : Nat → Prop, Aside0 (RInv Kd.bool 4 63 Kd.bool 4 w wc (.slice (some ⟨go, 0, none⟩) l0.length l0.length) (.slice Aa a.length ca) y a F) ∧ Aside0 (∀ k_, some k_ = (.slice Aa a.length ca : Value).ownBlock → F k_) := ⟨_, HI, ⟨fun _ h => h⟩⟩
    have HF := hF
    clear hF
    clear HY hmk61
    go_wp2
    go_loopg [17] k (fun kq v17 w' => ∃ (x : List (List Bool)) (i : Int), v17 = .int .i64 i ∧ Aside0 (impl_dominators.l0 kq l0 a x i = some r) ∧ Aside0 (kq ≤ k) ∧ Aside0 (RInv Kd.bool 4 63 Kd.bool 4 w w' (.slice (some ⟨go, 0, none⟩) l0.length l0.length) (.slice Aa a.length ca) x a F))
    case atStart => exact ⟨y, 0, rfl, H', ⟨Nat.le_refl _⟩, HI⟩
    case round =>
      clear H' HI
      obtain ⟨x, i, rfl, HA, HK1, HI⟩ := hrel
      cases gk with
      | zero => exact absurd HA.out (by simp [impl_dominators.l0])
      | succ k1 =>
        have H := HA.out
        clear HA
        simp only [impl_dominators.l0] at H
        by_cases c4 : i < (l0.length : Int)
        · rw [if_pos c4] at H
          by_cases c5 : 0 ≤ i
          · rw [if_pos c5] at H
            have H' := Aside0.mk H
            obtain ⟨g', oki, ve, hg, hx0, hf0, _, _, _, _, _⟩ := S_row HI.out.out i c5 c4
            injection hg with hg
            injection hg with hg _ _
            subst hg
            have HI2 := Aside0.mk (HI.out.fill c5 c4 (below_alloc (Below.refl _ _) _) (R_made (β := Bool) (enc := Value.bool) (h1 := fun _ => rfl) false rfl 4 wr l0.length (by have := HM.out; omega)))
            have c4b : decide (i < (l0.length : Int)) = true := decide_eq_true c4
            have c5b : decide (0 ≤ i) = true := decide_eq_true c5
            have p4 := eq_true c4
            have p5 := eq_true c5
            have hlt := World.block_lt_of_cell? wr _ hx0
            have hx1 : (wr.alloc (.cells (madeCells #[.bool false] l0.length) 4)).cell? ⟨go, i.toNat, none⟩ = some ve := pw_cell_below (below_alloc (Below.refl _ _) _) hx0
            have hf1 : (wr.alloc (.cells (madeCells #[.bool false] l0.length) 4)).frozen? ⟨go, i.toNat, none⟩ = false := (frozen_below (below_alloc (Below.refl _ _) _) hlt).trans hf0
            clear H HI c4 c5 hlt hx0 hf0
            go_wp2
            go_roundg k1
            case measure => have := HK1.out; omega
            case rel => exact ⟨_, _, rfl, H', ⟨by have := HK1.out; omega⟩, HI2⟩
          · rw [if_neg c5] at H; exact absurd H (by simp)
        · rw [if_neg c4] at H
          have H' := Aside0.mk H
          have c4b : decide (i < (l0.length : Int)) = false := decide_eq_false c4
          have hra := Kd.R_reads' HI.out.row
          clear H c4 hmk63
          go_wp2
          go_loopg [29] k1 (fun kq v29 w' => ∃ (x : List (List Bool)) (i : Int), v29 = .int .i64 i ∧ Aside0 (impl_dominators.l1 kq l0 a x i = some r) ∧ Aside0 (kq ≤ k) ∧ Aside0 (RInv Kd.bool 4 63 Kd.bool 4 w w' (.slice (some ⟨go, 0, none⟩) l0.length l0.length) (.slice Aa a.length ca) x a F))
          case atStart => exact ⟨x, 0, rfl, H', ⟨by have := HK1.out; omega⟩, HI⟩
          case round =>
            clear H' HI hra HK1
            obtain ⟨x, i, rfl, HA, HK1, HI⟩ := hrel
            cases gk with
            | zero => exact absurd HA.out (by simp [impl_dominators.l1])
            | succ k2 =>
              have H := HA.out
              clear HA
              simp only [impl_dominators.l1] at H
              by_cases c4 : i < (a.length : Int)
              · rw [if_pos c4] at H
                by_cases c5 : 0 ≤ i
                · rw [if_pos c5] at H
                  have hra := Kd.R_reads' HI.out.row
                  obtain ⟨ad, e1, hx1⟩ := Kd.at_bool hra.2.2 i c5 c4
                  cases e1
                  have c4b : decide (i < (a.length : Int)) = true := decide_eq_true c4
                  have c5b : decide (0 ≤ i) = true := decide_eq_true c5
                  have p4 := eq_true c4
                  have p5 := eq_true c5
                  clear c4 c5 hra
                  by_cases c6 : rdOf false a i = true
                  · rw [if_pos c6] at H
                    obtain ⟨l, A1, H⟩ := Option.bind_eq_some_iff.mp H
                    have A7 := Aside0.mk A1
                    have H' := Aside0.mk H
                    rw [c6] at hx1
                    have HIA := Aside0.mk (HI.out.step (below_alloc (Below.refl _ _) (.cells #[.int .i64 i] 3)))
                    clear H A1 c6
                    go_wp2_with (first | (go_at_call 55; (refine (impl_reach.calls k2 _ _ l0 0 _ 1 [i] l _ (Kd.C_below HR0.out HIA.out.below) HC0.out (C_lit1 wr 3 i) (by simp) A7.out).mono ?_); rintro e w4 ⟨vl, rfl, ho, hb⟩; have HI2 := Aside0.mk (HIA.out.more hb ho); have HL := Aside0.mk (Kd.R_tight rfl (Kd.R_lower ho HIA.out.below.size)); clear ho hb HIA HI hx1))
                    obtain ⟨Al, cl, el⟩ := Kd.R_slice HL.out
                    subst el
                    go_loopg [42] k2 (fun kq v42 w' => ∃ (x : List (List Bool)) (b : Int), v42 = .int .i64 b ∧ Aside0 (impl_dominators.l2 kq l0 a l x i b = some r) ∧ Aside0 (kq ≤ k2) ∧ Aside0 (RInv Kd.bool 4 63 Kd.bool 4 w w' (.slice (some ⟨go, 0, none⟩) l0.length l0.length) (.slice (some ad) a.length ca) x a (fun k_ => F k_ ∨ some k_ = (.slice Al l.length cl : Value).ownBlock)) ∧ Aside0 (Kd.bool.R 4 w' w.heap.size (fun k_ => some k_ = (.slice Al l.length cl : Value).ownBlock) (.slice Al l.length cl) l))
                    case atStart => exact ⟨x, 0, rfl, H', ⟨Nat.le_refl _⟩, HI2, HL⟩
                    case round =>
                      clear H' HI2 HL
                      obtain ⟨x, b, rfl, HA, HK2, HI, HL⟩ := hrel
                      cases gk with
                      | zero => exact absurd HA.out (by simp [impl_dominators.l2])
                      | succ k3 =>
                        have H := HA.out
                        clear HA
                        simp only [impl_dominators.l2] at H
                        by_cases d1 : b < (l0.length : Int)
                        · rw [if_pos d1] at H
                          by_cases d2 : 0 ≤ b
                          · rw [if_pos d2] at H
                            by_cases d3 : b < (a.length : Int)
                            · rw [if_pos d3] at H
                              by_cases d4 : b < (l.length : Int)
                              · rw [if_pos d4] at H
                                by_cases d5 : i < ((x.getD b.toNat []).length : Int)
                                · rw [if_pos d5] at H
                                  obtain ⟨y2, hy2⟩ : ∃ y2, y2 = x.getD b.toNat [] := ⟨_, rfl⟩
                                  have d6 : 0 ≤ i := of_decide_eq_true c5b
                                  obtain ⟨g2, c2', hx2, hx3, hf3, hF2, hset⟩ := HI.out.cell false d2 d1 d6 d5
                                  rw [← hy2] at H d5 hx2 hx3 hset
                                  obtain ⟨u, hu⟩ : ∃ u, u = (rdOf false a b && !rdOf false l b) := ⟨_, rfl⟩
                                  rw [← hu] at H
                                  have HS := Aside0.mk (hset u)
                                  have HLs := Aside0.mk (R_same HL.out (F := fun k_ => F k_ ∨ some k_ = (.slice Al l.length cl : Value).ownBlock) (w' := wr.setCell ⟨g2, i.toNat, none⟩ (.bool u)) (fun _ e_ => .inr e_) (fun k_ h_ => Below.heap_setCell wr ⟨g2, i.toNat, none⟩ (.bool u) k_ (fun e_ => hF2 (by have e2_ : k_ = g2 := e_; exact e2_ ▸ h_))))
                                  have hra := Kd.R_reads' HI.out.row
                                  obtain ⟨ad1, e1, hxa⟩ := Kd.at_bool hra.2.2 b d2 d3
                                  injection e1 with e1
                                  subst e1
                                  have hrl := Kd.R_reads' HL.out
                                  obtain ⟨ad2, e2, hxl⟩ := Kd.at_bool hrl.2.2 b d2 d4
                                  cases e2
                                  have H' := Aside0.mk H
                                  have HU := Aside0.mk hu
                                  have q1 : decide (b < (l0.length : Int)) = true := decide_eq_true d1
                                  have q2 : decide (0 ≤ b) = true := decide_eq_true d2
                                  have p1 := eq_true d1
                                  have p2 := eq_true d2
                                  have p3 := eq_true d3
                                  have p4' := eq_true d4
                                  have p5' := eq_true d5
                                  have p6 := eq_true d6
                                  clear H hra hrl HI HL hset hF2 hy2 hu d1 d2 d3 d4 d5 d6
                                  cases hab : rdOf false a b with
                                  | true =>
                                    rw [hab] at hxa
                                    have hu2 : u = !rdOf false l b := by rw [HU.out, hab]; rfl
                                    subst hu2
                                    clear HU hab
                                    go_wp2
                                    go_still_tail 17, (by kernel_rfl)
                                    change wpList _ _ _ _ _ (World.drew wr)
                                    go_wp2
                                    go_roundg k3
                                    case measure => have := HK2.out; omega
                                    case rel => exact ⟨_, _, rfl, H', ⟨by have := HK2.out; omega⟩, ⟨HS.out.drew⟩, ⟨Kd.R_drew HLs.out⟩⟩
                                  | false =>
                                    rw [hab] at hxa
                                    have hu2 : u = false := by rw [HU.out, hab]; rfl
                                    subst hu2
                                    clear HU hab
                                    go_wp2
                                    go_still_tail 17, (by kernel_rfl)
                                    change wpList _ _ _ _ _ (World.drew wr)
                                    go_wp2
                                    go_roundg k3
                                    case measure => have := HK2.out; omega
                                    case rel => exact ⟨_, _, rfl, H', ⟨by have := HK2.out; omega⟩, ⟨HS.out.drew⟩, ⟨Kd.R_drew HLs.out⟩⟩
                                · rw [if_neg d5] at H; exact absurd H (by simp)
                              · rw [if_neg d4] at H; exact absurd H (by simp)
                            · rw [if_neg d3] at H; exact absurd H (by simp)
                          · rw [if_neg d2] at H; exact absurd H (by simp)
                        · rw [if_neg d1] at H
                          have H' := Aside0.mk H
                          have q1 : decide (b < (l0.length : Int)) = false := decide_eq_false d1
                          clear H d1
                          go_wp2
                          go_roundg k3
                          case measure => have := HK2.out; have := HK1.out; omega
                          case rel => exact ⟨x, _, rfl, H', ⟨by have := HK2.out; have := HK1.out; omega⟩, ⟨HI.out.less HF.out⟩⟩
                  · rw [if_neg c6] at H
                    have H' := Aside0.mk H
                    have c6b : rdOf false a i = false := by simpa using c6
                    rw [c6b] at hx1
                    clear H c6 c6b
                    go_wp2
                    go_roundg k2
                    case measure => have := HK1.out; omega
                    case rel => exact ⟨x, _, rfl, H', ⟨by have := HK1.out; omega⟩, HI⟩
                · rw [if_neg c5] at H; exact absurd H (by simp)
              · rw [if_neg c4] at H
                obtain rfl := Option.some.inj H
                have c4b : decide (i < (a.length : Int)) = false := decide_eq_false c4
                clear c4
                go_wp2
                go_ret
                exact ⟨_, rfl, Kd.S_mono HI.out.out (fun _ _ => trivial), HI.out.below⟩

end Go.Proofs.Ytbagmhcdhemopaa.Q
