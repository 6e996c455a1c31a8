-- WRITTEN BY A PROGRAM OF THIS SESSION
import Derived.Test.YtmljikgegclolaaQ0
import Derived.Test.YtmljikgegclolaaQ1
import Derived.Test.YtmljikgegclolaaQ2
import Derived.Test.YtmljikgegclolaaQ3
import Derived.Test.YtmljikgegclolaaQ4
import Derived.Test.YtmljikgegclolaaQ7
namespace Go.Proofs.Ytmljikgegclolaa.Q
open Go.RowKit Go.Proofs.YtmljikgegclolaaW.PrintWords Go.Proofs.YtmljikgegclolaaW.PrintLast Go.Proofs.YtmljikgegclolaaW.PrintMore
attribute [local go_sem] max2_int min2_int max_two min_two max_three min_three max_four min_four   -- for this text's walks alone
set_option linter.unusedVariables false
set_option linter.unusedSimpArgs false

/-! ### laws_markIntS: function 23 -/
def laws_markIntS.l0 : Nat → List Int → Int → Int → Option (Int × List Int)
  | 0, _, _, _ => none
  | k + 1, x0, x1, x5 => if x5 < (x0.length : Int) then (if 0 ≤ x5 then (laws_markIntS.l0 k (x0.set (x5 : Int).toNat x1) (wrap64 (x1 + 1)) (wrap64 (x5 + 1))) else (none)) else (some (x1, x0))
def laws_markIntS.f (k : Nat) (l0 : List Int) (a1 : Int) : Option (Int × List Int) := laws_markIntS.l0 k l0 a1 0
theorem laws_markIntS.mono_l : ∀ k, (∀ y0 y1 y2, LeO (laws_markIntS.l0 k y0 y1 y2) (laws_markIntS.l0 (k + 1) y0 y1 y2))
  | 0 => fun _ _ _ r h => by simp [laws_markIntS.l0] at h
  | k + 1 => by
    have ih0 := laws_markIntS.mono_l k
    · intro y0 y1 y2
      unfold laws_markIntS.l0
      repeat' first
      | (with_reducible exact ih0 _ _ _)
      | (with_reducible exact LeO.refl _)
      | (with_reducible exact LeO.none _)
      | (with_reducible refine LeO.ite ?_ ?_)
      | (with_reducible refine LeO.bind ?_ (fun _ => ?_))
      | exact ih0 _ _ _
      | exact LeO.none _
      | refine LeO.ite ?_ ?_
      | refine LeO.bind ?_ (fun _ => ?_)
theorem laws_markIntS.mono : ∀ a0 a1 k, LeO (laws_markIntS.f k a0 a1) (laws_markIntS.f (k + 1) a0 a1) := by
  intro a0 a1 k
  have ih0 := laws_markIntS.mono_l k
  unfold laws_markIntS.f
  repeat' first
      | (with_reducible exact ih0 _ _ _)
      | (with_reducible exact LeO.refl _)
      | (with_reducible exact LeO.none _)
      | (with_reducible refine LeO.ite ?_ ?_)
      | (with_reducible refine LeO.bind ?_ (fun _ => ?_))
      | exact ih0 _ _ _
      | exact LeO.none _
      | refine LeO.ite ?_ ?_
      | refine LeO.bind ?_ (fun _ => ?_)
set_option maxHeartbeats 8000000 in
set_option maxRecDepth 100000 in
theorem laws_markIntS.calls (k : Nat) (P0_ : Nat → Prop) (u9000_ : Value) (l0 : List Int) (a1 : Int) (r1 : Int) (r2 : List Int) (w0 w : World) (hB : Below w0.heap.size w0 w) (ho0 : Kd.R (Kd.int .i64) 3 w w0.heap.size P0_ u9000_ l0) (h : laws_markIntS.f k l0 a1 = some (r1, r2)) :
    Calls Try.prog 23 #[u9000_, .int .i64 a1] w fun e w' => e = .returned (.int .i64 r1) ∧ Kd.R (Kd.int .i64) 3 w' w0.heap.size (fun k_ => (P0_ k_ ∨ w.heap.size ≤ k_)) u9000_ r2 ∧ Below w0.heap.size w0 w' ∧ Kept w w' (fun k_ => P0_ k_) := by
  have HO0 := Aside0.mk (show Kd.R (Kd.int .i64) 3 w w0.heap.size (fun k_ => (P0_ k_ ∨ w.heap.size ≤ k_)) u9000_ l0 from Kd.R_mono ho0 (fun k_ hk => (.inl hk)))
  have HK := Aside0.mk (Kept.refl w (fun k_ => P0_ k_))
  have HW0 := Aside0.mk hB.size
  have HB := Aside0.mk hB
  clear hB
  have H : (laws_markIntS.l0 k l0 a1 0) = some (r1, r2) := h
  clear h
  have H' := Aside0.mk H
  clear H
  go_enter Try.func23, Try.ntmps23
  go_wp2
  go_loopg [1, 5] k (fun kq v1 v5 w' => ∃ (x0_1 : List Int) (x1_1 : Int) (x5_1 : Int), v1 = .int .i64 x1_1 ∧ v5 = .int .i64 x5_1 ∧ Aside0 (laws_markIntS.l0 kq x0_1 x1_1 x5_1 = some (r1, r2)) ∧ Aside0 (kq ≤ k) ∧ Aside0 (Kd.R (Kd.int .i64) 3 w' w0.heap.size (fun k_ => (P0_ k_ ∨ w.heap.size ≤ k_)) u9000_ x0_1) ∧ Aside0 (Kept w w' (fun k_ => P0_ k_)) ∧ Aside0 (Below w0.heap.size w0 w'))
  case atStart => exact ⟨(l0), (a1), (0), (by first | rfl | (simp; done) | (simp [*]; done)), (by first | rfl | (simp; done) | (simp [*]; done)), H', ⟨Nat.le_refl _⟩, ⟨by (with_reducible repeat (first | apply Kd.R_alloc | apply Kd.R_drewN | apply Kd.R_drew)); exact HO0.out⟩, ⟨by repeat (first | (with_reducible first | exact HK.out | apply Kept.alloc | apply Kept.drewN | apply Kept.drew) | exact HK.out)⟩, ⟨by repeat (first | (with_reducible first | exact HB.out | apply below_alloc | apply pw_below_drewN | apply below_drew1) | exact HB.out)⟩⟩
  case round =>
    clear H'
    try clear c2
    try clear p2
    obtain ⟨x0_1, x1_1, x5_1, rfl, rfl, HA, HK1, HO_0, HK, HB⟩ := hrel
    cases gk with
    | zero => exact absurd HA.out (by simp [laws_markIntS.l0])
    | succ k1 =>
      have H := HA.out
      clear HA
      simp only [laws_markIntS.l0] at H
      by_cases c3 : x5_1 < (x0_1.length : Int)
      · rw [if_pos c3] at H
        have c3b0 : decide (x5_1 < (x0_1.length : Int)) = true := decide_eq_true c3
        clear c3
        by_cases c4 : 0 ≤ x5_1
        · rw [if_pos c4] at H
          have c4b0 : decide (0 ≤ x5_1) = true := decide_eq_true c4
          clear c4
          obtain ⟨y203, hy203⟩ : ∃ y_ : List Int, y_ = (x0_1.set (x5_1 : Int).toNat x1_1) := ⟨_, rfl⟩
          replace H : (laws_markIntS.l0 k1 y203 (wrap64 (x1_1 + 1)) (wrap64 (x5_1 + 1))) = some (r1, r2) := by first | (rw [hy203]; with_reducible exact H) | (have H2_ := (Option.bind_some _ _).symm.trans H; rw [hy203]; with_reducible exact H2_) | (have H2_ := (Option.bind_some _ _).symm.trans H; with_reducible exact H2_) | with_reducible exact H | (rw [hy203]; exact H) | exact H
          have Ny203 := Aside0.mk hy203
          clear hy203
          have H' := Aside0.mk H
          clear H
          obtain ⟨Ao6, co6, eo6⟩ := Kd.R_slice HO_0.out
          subst eo6
          have p5 : 0 ≤ (x5_1 : Int) := of_decide_eq_true (by first | (with_reducible assumption) | assumption)
          have q5 : (x5_1 : Int) < ((x0_1.length : Int) : Int) := of_decide_eq_true (by first | (with_reducible assumption) | assumption)
          obtain ⟨go5, co5, eo5, gb5, gl5, cl5, HG5⟩ := Kd.R_form HO_0.out (by omega)
          (first | cases eo5 | (injection eo5 with ea_ en_ ec_; (first | subst ea_ | (injection ea_ with ea_; subst ea_)); subst ec_; clear en_))
          have GB5 := Aside0.mk gb5
          have GG5 := Aside0.mk HG5
          clear gb5 gl5 HG5
          have HMgo5 := Aside0.mk (show (P0_ go5 ∨ w.heap.size ≤ go5) from (HO_0.out.1 _ rfl))
          obtain ⟨hx5_0, hf5_0⟩ := Kd.R_celln 0 HO_0.out (x5_1 : Int) p5 q5
          replace p5 := eq_true p5
          replace q5 := eq_true q5
          have HP7 := Kd.R_putg HO_0.out (x5_1 : Int) x1_1
          go_wp2_with (first | ((with_reducible refine gate_store (t := 3) (p := 15) rfl ?_); refine store_event (t := 3) (p := 15) (v := ?vo_w8) (w1 := (wr.setCell ⟨go5, (x5_1 : Int).toNat, none⟩ (.int .i64 x1_1))) ?hg ?ho ?hn ?hr ?_; (case ho => rfl); (case hg => rfl); (case hn => rfl); (case hr => first | (go_simp; done) | (go_simp; rfl)); intro w8 hw; have hg : wr.grownBy w8 (some go5) := (by rw [hw]; exact HP7.2); have hp_ : Kd.R (Kd.int .i64) 3 w8 w0.heap.size (fun k_ => (P0_ k_ ∨ w.heap.size ≤ k_)) (.slice (some ⟨go5, 0, none⟩) x0_1.length co6) y203 := (by rw [hw, Ny203.out]; exact HP7.1); clear HP7; have n0_ := Aside0.mk (hp_); have n1_ := Aside0.mk ((by rw [hw]; exact below_set (HB.out) GB5.out : Below w0.heap.size w0 w8)); have n2_ := Aside0.mk (Kept.of_grown (S := (fun k_ => P0_ k_)) hg (by repeat (first | (with_reducible first | exact HK.out | apply Kept.alloc | apply Kept.drewN | apply Kept.drew) | exact HK.out)) (fun k_ e_ => (HO_0.out.1 k_ e_))); clear HO_0; clear HB; clear HK; have HO_0 := n0_; have HB := n1_; have HK := n2_; clear n0_ n1_ n2_; clear hg hw hp_))
          go_roundg k1
          case measure => have := HK1.out; omega
          case rel => exact ⟨(y203), (wrap64 (x1_1 + 1)), (wrap64 (x5_1 + 1)), (by first | rfl | (simp; done) | (simp [*]; done)), (by first | rfl | (simp; done) | (simp [*]; done)), H', ⟨by have := HK1.out; omega⟩, ⟨by (with_reducible repeat (first | apply Kd.R_alloc | apply Kd.R_drewN | apply Kd.R_drew)); exact HO_0.out⟩, ⟨by repeat (first | (with_reducible first | exact HK.out | apply Kept.alloc | apply Kept.drewN | apply Kept.drew) | exact HK.out)⟩, ⟨by repeat (first | (with_reducible first | exact HB.out | apply below_alloc | apply pw_below_drewN | apply below_drew1) | exact HB.out)⟩⟩
        · rw [if_neg c4] at H
          exact absurd H (by simp)
      · rw [if_neg c3] at H
        have c3b0 : decide (x5_1 < (x0_1.length : Int)) = false := decide_eq_false c3
        clear c3
        simp only [Option.some.injEq, Prod.mk.injEq] at H
        obtain ⟨rfl, rfl⟩ := H
        obtain ⟨Ao9, co9, eo9⟩ := Kd.R_slice HO_0.out
        subst eo9
        go_wp2
        go_ret
        exact ⟨by first | rfl | (simp [errW_none, errW_some] <;> rfl) | (simp [*, errW_none, errW_some] <;> rfl), by (with_reducible repeat (first | apply Kd.R_alloc | apply Kd.R_drewN | apply Kd.R_drew)); exact HO_0.out, by repeat (first | (with_reducible first | exact HB.out | apply below_alloc | apply pw_below_drewN | apply below_drew1) | exact HB.out), by repeat (first | (with_reducible first | exact HK.out | apply Kept.alloc | apply Kept.drewN | apply Kept.drew) | exact HK.out)⟩

/-! ### laws_markStepS: function 22 (by hand: fields of structs in a row that came in are written, and a row in them) -/
/-- A step of a row of steps of the call's own, lent; its two numbers are written. -/
theorem StepS.row {w : World} {base n cap : Nat} {P : Nat → Prop} {A : Option Addr} {xs : List S56} (h : Kd.S k56 56 w base P (.slice A n cap) xs) (i : Int) (h0 : 0 ≤ i) (h1 : i < n) (u1 u2 : Int) :
    ∃ g oki v2, A = some ⟨g, 0, none⟩ ∧ (∃ q, w.cell? ⟨g, i.toNat * 3, none⟩ = some q) ∧ w.frozen? ⟨g, i.toNat * 3, none⟩ = false ∧
      (∃ q, (w.setCell ⟨g, i.toNat * 3, none⟩ (.int .i64 u1)).cell? ⟨g, i.toNat * 3 + 1, none⟩ = some q) ∧ (w.setCell ⟨g, i.toNat * 3, none⟩ (.int .i64 u1)).frozen? ⟨g, i.toNat * 3 + 1, none⟩ = false ∧
      ((w.setCell ⟨g, i.toNat * 3, none⟩ (.int .i64 u1)).setCell ⟨g, i.toNat * 3 + 1, none⟩ (.int .i64 u2)).cell? ⟨g, i.toNat * 3 + 2, none⟩ = some v2 ∧
      (Kd.int .i64).R 3 ((w.setCell ⟨g, i.toNat * 3, none⟩ (.int .i64 u1)).setCell ⟨g, i.toNat * 3 + 1, none⟩ (.int .i64 u2)) base oki v2 (rd_T56 xs i).f2 ∧
      Kd.H k56 56 ((w.setCell ⟨g, i.toNat * 3, none⟩ (.int .i64 u1)).setCell ⟨g, i.toNat * 3 + 1, none⟩ (.int .i64 u2)) base P (.slice (some ⟨g, 0, none⟩) n cap) xs i oki [.int .i64 u1, .int .i64 u2, v2] ∧
      (∀ k, oki k → P k ∧ k ≠ g) ∧ base ≤ g ∧ Kept w ((w.setCell ⟨g, i.toNat * 3, none⟩ (.int .i64 u1)).setCell ⟨g, i.toNat * 3 + 1, none⟩ (.int .i64 u2)) P := by
  have hn := (Kd.S_reads' h).1
  obtain ⟨g, cap', hv, hbg, _⟩ := Kd.S_form h (by omega)
  injection hv with ha _ _
  subst ha
  obtain ⟨oki, c, hcl, hM, hcc, hfr, hoki, hH⟩ := Kd.S_elem h z56 i h0 h1
  obtain ⟨v2, rfl, hR⟩ := k56_openM hM
  have hPg : P g := (Kd.S_R h).1 g (by simp [Value.ownBlock])
  obtain ⟨ha, ga⟩ := Kd.H_seg hH h0 h1 (seg := [.int .i64 u1]) (j := 0) (by show 0 + 1 ≤ 3; omega) (by intro q hq; rw [List.mem_singleton.1 hq]; rfl)
  have e1 : w.setCells g (i.toNat * k56.sz + 0) [.int .i64 u1] = w.setCell ⟨g, i.toNat * 3, none⟩ (.int .i64 u1) := by
    simp [World.setCells, show k56.sz = 3 from rfl]
  rw [e1] at ha ga
  have ha' : Kd.H k56 56 (w.setCell ⟨g, i.toNat * 3, none⟩ (.int .i64 u1)) base P (.slice (some ⟨g, 0, none⟩) n cap) xs i oki [.int .i64 u1, .int .i64 (rd_T56 xs i).f1, v2] := ha
  obtain ⟨hb, gb⟩ := Kd.H_seg ha' h0 h1 (seg := [.int .i64 u2]) (j := 1) (by show 1 + 1 ≤ 3; omega) (by intro q hq; rw [List.mem_singleton.1 hq]; rfl)
  have e2 : (w.setCell ⟨g, i.toNat * 3, none⟩ (.int .i64 u1)).setCells g (i.toNat * k56.sz + 1) [.int .i64 u2] = (w.setCell ⟨g, i.toNat * 3, none⟩ (.int .i64 u1)).setCell ⟨g, i.toNat * 3 + 1, none⟩ (.int .i64 u2) := by
    simp [World.setCells, show k56.sz = 3 from rfl]
  rw [e2] at hb gb
  have hb' : Kd.H k56 56 ((w.setCell ⟨g, i.toNat * 3, none⟩ (.int .i64 u1)).setCell ⟨g, i.toNat * 3 + 1, none⟩ (.int .i64 u2)) base P (.slice (some ⟨g, 0, none⟩) n cap) xs i oki [.int .i64 u1, .int .i64 u2, v2] := hb
  have c0 := hcc 0 _ rfl
  have f0 := hfr 0
  have c1 := (Kd.H_at ha' h0 h1).1 1 _ rfl
  have f1 := (Kd.H_at ha' h0 h1).2 1
  have c2 := (Kd.H_at hb' h0 h1).1 2 _ rfl
  simp only [show k56.sz = 3 from rfl, Nat.add_zero] at c0 f0 c1 f1 c2
  have hne : ∀ k, oki k → some k ≠ some g := fun k hk he => (hoki k hk).2 (by injection he)
  have kg : ∀ k, some g = some k → P k := fun k e => by injection e with e; exact e ▸ hPg
  refine ⟨g, oki, v2, rfl, ⟨_, c0⟩, f0, ⟨_, c1⟩, f1, c2, Kd.R_grown (Kd.R_grown hR ga hne) gb hne, hb', hoki, hbg, ?_⟩
  exact Kept.of_grown gb (Kept.of_grown ga (Kept.refl _ _) (fun k e => .inl (kg k e))) (fun k e => .inl (kg k e))
theorem StepS.back {w w' : World} {base : Nat} {P oki : Nat → Prop} {v v2 : Value} {xs : List S56} {i u1 u2 : Int} {y : List Int} (hH : Kd.H k56 56 w base P v xs i oki [.int .i64 u1, .int .i64 u2, v2]) (hk : Kept w w' oki) (hr : (Kd.int .i64).R 3 w' base oki v2 y) : Kd.S k56 56 w' base P v (xs.set i.toNat ⟨u1, u2, y⟩) :=
  Kd.H_back (Kd.H_kept hH hk (fun _ _ h => h)) (k56_mkM w' base oki ⟨u1, u2, y⟩ hr) (fun _ h => h)
def laws_markStepS.l0 : Nat → List S56 → Int → Int → Option (Int × List S56)
  | 0, _, _, _ => none
  | k + 1, x, a, i => if i < (x.length : Int) then (if 0 ≤ i then ((laws_markIntS.f k (rd_T56 x i).f2 (wrap64 (wrap64 (a + 1) + 1))).bind fun b => (laws_markStepS.l0 k (x.set i.toNat ⟨a, wrap64 (a + 1), b.2⟩) b.1 (wrap64 (i + 1)))) else none) else some (a, x)
def laws_markStepS.f (k : Nat) (x : List S56) (a : Int) : Option (Int × List S56) := laws_markStepS.l0 k x a 0
theorem laws_markStepS.mono_l : ∀ k, ∀ y0 y1 y2, LeO (laws_markStepS.l0 k y0 y1 y2) (laws_markStepS.l0 (k + 1) y0 y1 y2)
  | 0 => fun _ _ _ r h => by simp [laws_markStepS.l0] at h
  | k + 1 => by
    have ih0 := laws_markStepS.mono_l k
    intro y0 y1 y2
    unfold laws_markStepS.l0
    repeat' first
      | (with_reducible exact ih0 _ _ _)
      | (with_reducible exact laws_markIntS.mono _ _ _)
      | (with_reducible exact LeO.refl _)
      | (with_reducible exact LeO.none _)
      | (with_reducible refine LeO.ite ?_ ?_)
      | (with_reducible refine LeO.bind ?_ (fun _ => ?_))
theorem laws_markStepS.mono : ∀ a0 a1 k, LeO (laws_markStepS.f k a0 a1) (laws_markStepS.f (k + 1) a0 a1) := fun _ _ k => laws_markStepS.mono_l k _ _ _
set_option maxHeartbeats 8000000 in
set_option maxRecDepth 100000 in
theorem laws_markStepS.calls (k : Nat) (P0_ : Nat → Prop) (u9000_ : Value) (l0 : List S56) (a1 : Int) (r1 : Int) (r2 : List S56) (w0 w : World) (hB : Below w0.heap.size w0 w) (ho0 : Kd.S k56 56 w w0.heap.size P0_ u9000_ l0) (h : laws_markStepS.f k l0 a1 = some (r1, r2)) :
    Calls Try.prog 22 #[u9000_, .int .i64 a1] w fun e w' => e = .returned (.int .i64 r1) ∧ Kd.S k56 56 w' w0.heap.size P0_ u9000_ r2 ∧ Below w0.heap.size w0 w' ∧ Kept w w' P0_ := by
  have hu56 := Try.underlying56
  obtain ⟨A0, c0, rfl⟩ := Kd.S_slice ho0
  have HO0 := Aside0.mk ho0
  have HB0 := Aside0.mk hB
  have H' := Aside0.mk h
  have HK0 := Aside0.mk (Kept.refl w P0_)
  have HL := Aside0.mk (rfl : l0.length = l0.length)
  clear ho0 hB h
  unfold laws_markStepS.f at H'
  go_enter Try.func22, Try.ntmps22
  go_wp2
  go_loopg [1, 5] k (fun kq v1 v5 w' => ∃ (x : List S56) (x1 x5 : Int), v1 = .int .i64 x1 ∧ v5 = .int .i64 x5 ∧ Aside0 (laws_markStepS.l0 kq x x1 x5 = some (r1, r2)) ∧ Aside0 (kq ≤ k) ∧ Aside0 (Kd.S k56 56 w' w0.heap.size P0_ (.slice A0 l0.length c0) x) ∧ Aside0 (Below w0.heap.size w0 w') ∧ Aside0 (Kept w w' P0_))
  case atStart => exact ⟨l0, a1, 0, rfl, rfl, H', ⟨Nat.le_refl _⟩, HO0, HB0, HK0⟩
  case round =>
    clear H' HO0 HB0 HK0
    obtain ⟨x, x1, x5, rfl, rfl, HA, HK1, HO, HB, HK⟩ := hrel
    cases gk with
    | zero => exact absurd HA.out (by simp [laws_markStepS.l0])
    | succ k1 =>
      have H := HA.out
      clear HA
      simp only [laws_markStepS.l0] at H
      have hlen := (Kd.S_reads' HO.out).1
      rw [← hlen] at H
      have HLN := Aside0.mk hlen
      clear hlen
      by_cases c3 : x5 < (l0.length : Int)
      · rw [if_pos c3] at H
        by_cases c4 : 0 ≤ x5
        · rw [if_pos c4] at H
          obtain ⟨⟨b1, b2⟩, A60, H⟩ := Option.bind_eq_some_iff.mp H
          obtain ⟨g, oki, v2, rfl, ⟨q0, hx0⟩, hf0, ⟨q1, hx1⟩, hf1, hx2, hR, hH, hoki, hbg, hK⟩ := StepS.row HO.out x5 c4 c3 x1 (wrap64 (x1 + 1))
          have A6 := Aside0.mk A60
          have HR := Aside0.mk hR
          have HH := Aside0.mk hH
          have HKI := Aside0.mk hoki
          have HB2 := Aside0.mk (below_set (j := x5.toNat * 3 + 1) (v := .int .i64 (wrap64 (x1 + 1))) (below_set (j := x5.toNat * 3) (v := .int .i64 x1) HB.out hbg) hbg)
          have HK2 := Aside0.mk (HK.out.then_ hK (fun k_ h_ => .inl h_))
          have H' := Aside0.mk H
          have c3b0 : decide (x5 < (l0.length : Int)) = true := decide_eq_true c3
          have c4b0 : decide (0 ≤ x5) = true := decide_eq_true c4
          have p3 := eq_true c3
          have p4 := eq_true c4
          clear A60 hR hH hoki H c3 c4 hK hbg HB HK HO
          go_wp2_with (first | (go_at_call 23; (with_reducible refine (laws_markIntS.calls k1 oki v2 (rd_T56 x x5).f2 _ b1 b2 w0 _ HB2.out HR.out A6.out).mono ?_); rintro e w4 ⟨rfl, hr2, hb, hkp⟩; have HB4 := Aside0.mk hb; have HO4 := Aside0.mk (StepS.back HH.out hkp (Kd.R_reok rfl hr2 HR.out.1)); have HK4 := Aside0.mk (HK2.out.then_ hkp (fun k_ h_ => .inl (HKI.out k_ h_).1)); clear hb hr2 hkp HB2 HK2 HR HH HKI A6 hx0 hf0 hx1 hf1 hx2))
          go_roundg k1
          case measure => have := HK1.out; omega
          case rel => exact ⟨_, _, _, rfl, rfl, H', ⟨by have := HK1.out; omega⟩, HO4, HB4, HK4⟩
        · rw [if_neg c4] at H
          exact absurd H (by simp)
      · rw [if_neg c3] at H
        have c3b0 : decide (x5 < (l0.length : Int)) = false := decide_eq_false c3
        clear c3
        simp only [Option.some.injEq, Prod.mk.injEq] at H
        obtain ⟨rfl, rfl⟩ := H
        go_wp2
        go_ret
        exact ⟨rfl, HO.out, HB.out, HK.out⟩

/-! ### laws_heldIntS: function 24 -/
def laws_heldIntS.l0 : Nat → List Int → Int → Int → Option (Int)
  | 0, _, _, _ => none
  | k + 1, x0, x1, x5 => if x5 < (x0.length : Int) then (if 0 ≤ x5 then (if (rd x0 x5) = x1 then (laws_heldIntS.l0 k x0 (wrap64 (x1 + 1)) (wrap64 (x5 + 1))) else (some (-1))) else (none)) else (some x1)
def laws_heldIntS.f (k : Nat) (l0 : List Int) (a1 : Int) : Option (Int) := laws_heldIntS.l0 k l0 a1 0
theorem laws_heldIntS.mono_l : ∀ k, (∀ y0 y1 y2, LeO (laws_heldIntS.l0 k y0 y1 y2) (laws_heldIntS.l0 (k + 1) y0 y1 y2))
  | 0 => fun _ _ _ r h => by simp [laws_heldIntS.l0] at h
  | k + 1 => by
    have ih0 := laws_heldIntS.mono_l k
    · intro y0 y1 y2
      unfold laws_heldIntS.l0
      repeat' first
      | (with_reducible exact ih0 _ _ _)
      | (with_reducible exact LeO.refl _)
      | (with_reducible exact LeO.none _)
      | (with_reducible refine LeO.ite ?_ ?_)
      | (with_reducible refine LeO.bind ?_ (fun _ => ?_))
      | exact ih0 _ _ _
      | exact LeO.none _
      | refine LeO.ite ?_ ?_
      | refine LeO.bind ?_ (fun _ => ?_)
theorem laws_heldIntS.mono : ∀ a0 a1 k, LeO (laws_heldIntS.f k a0 a1) (laws_heldIntS.f (k + 1) a0 a1) := by
  intro a0 a1 k
  have ih0 := laws_heldIntS.mono_l k
  unfold laws_heldIntS.f
  repeat' first
      | (with_reducible exact ih0 _ _ _)
      | (with_reducible exact LeO.refl _)
      | (with_reducible exact LeO.none _)
      | (with_reducible refine LeO.ite ?_ ?_)
      | (with_reducible refine LeO.bind ?_ (fun _ => ?_))
      | exact ih0 _ _ _
      | exact LeO.none _
      | refine LeO.ite ?_ ?_
      | refine LeO.bind ?_ (fun _ => ?_)
set_option maxHeartbeats 8000000 in
set_option maxRecDepth 100000 in
theorem laws_heldIntS.calls (k : Nat) (A0 : Option Addr) (c0 : Nat) (l0 : List Int) (a1 : Int) (r : Int) (w : World) (hr0 : Kd.C (Kd.int .i64) w A0 l0.length l0) (hc0 : l0.length ≤ c0) (h : laws_heldIntS.f k l0 a1 = some r) :
    Calls Try.prog 24 #[.slice A0 l0.length c0, .int .i64 a1] w fun e w' => e = .returned (.int .i64 r) ∧ Drawn0 w w' := by
  have HR0 := Aside0.mk hr0
  have HC0 := Aside0.mk hc0
  clear hr0 hc0
  have H : (laws_heldIntS.l0 k l0 a1 0) = some r := h
  clear h
  have H' := Aside0.mk H
  clear H
  go_enter Try.func24, Try.ntmps24
  go_wp2
  go_loopg [1, 5] k (fun kq v1 v5 w' => ∃ (x1_1 : Int) (x5_1 : Int), v1 = .int .i64 x1_1 ∧ v5 = .int .i64 x5_1 ∧ Aside0 (laws_heldIntS.l0 kq l0 x1_1 x5_1 = some r) ∧ Aside0 (kq ≤ k) ∧ Drawn0 w w')
  case atStart => exact ⟨(a1), (0), (by first | rfl | (simp; done) | (simp [*]; done)), (by first | rfl | (simp; done) | (simp [*]; done)), H', ⟨Nat.le_refl _⟩, by repeat (first | exact Drawn0.refl _ | apply Drawn0.step)⟩
  case round =>
    clear H'
    try clear c2
    try clear p2
    obtain ⟨x1_1, x5_1, rfl, rfl, HA, HK1, ⟨m1, rfl⟩⟩ := hrel
    cases gk with
    | zero => exact absurd HA.out (by simp [laws_heldIntS.l0])
    | succ k1 =>
      have H := HA.out
      clear HA
      simp only [laws_heldIntS.l0] at H
      by_cases c3 : x5_1 < (l0.length : Int)
      · rw [if_pos c3] at H
        have c3b0 : decide (x5_1 < (l0.length : Int)) = true := decide_eq_true c3
        clear c3
        by_cases c4 : 0 ≤ x5_1
        · rw [if_pos c4] at H
          have c4b0 : decide (0 ≤ x5_1) = true := decide_eq_true c4
          clear c4
          by_cases c5 : (rd l0 x5_1) = x1_1
          · rw [if_pos c5] at H
            have c5b0 : ((rd l0 x5_1) == x1_1) = true := beq_iff_eq.mpr c5
            have c5b1 : ((rd l0 x5_1) != x1_1) = false := bne_eq_false_iff_eq.mpr c5
            clear c5
            have H' := Aside0.mk H
            clear H
            have p204 : 0 ≤ (x5_1 : Int) := of_decide_eq_true (by first | (with_reducible assumption) | assumption)
            have q204 : x5_1 < (l0.length : Int) := of_decide_eq_true (by first | (with_reducible assumption) | assumption)
            obtain ⟨ad204, e204, hx204_0⟩ := Kd.at_int HR0.out x5_1 p204 q204
            cases e204
            replace p204 := eq_true p204
            replace q204 := eq_true q204
            go_wp2
            go_roundg k1
            case measure => have := HK1.out; omega
            case rel => exact ⟨(wrap64 (x1_1 + 1)), (wrap64 (x5_1 + 1)), (by first | rfl | (simp; done) | (simp [*]; done)), (by first | rfl | (simp; done) | (simp [*]; done)), H', ⟨by have := HK1.out; omega⟩, by repeat (first | exact Drawn0.refl _ | apply Drawn0.step)⟩
          · rw [if_neg c5] at H
            have c5b0 : ((rd l0 x5_1) == x1_1) = false := beq_eq_false_iff_ne.mpr c5
            have c5b1 : ((rd l0 x5_1) != x1_1) = true := bne_iff_ne.mpr c5
            obtain rfl := Option.some.inj H
            have p204 : 0 ≤ (x5_1 : Int) := of_decide_eq_true (by first | (with_reducible assumption) | assumption)
            have q204 : x5_1 < (l0.length : Int) := of_decide_eq_true (by first | (with_reducible assumption) | assumption)
            obtain ⟨ad204, e204, hx204_0⟩ := Kd.at_int HR0.out x5_1 p204 q204
            cases e204
            replace p204 := eq_true p204
            replace q204 := eq_true q204
            go_wp2
            go_ret
            exact ⟨by first | rfl | (simp; done) | (simp [*]; done), by repeat (first | exact Drawn0.refl _ | apply Drawn0.step)⟩
        · rw [if_neg c4] at H
          exact absurd H (by simp)
      · rw [if_neg c3] at H
        have c3b0 : decide (x5_1 < (l0.length : Int)) = false := decide_eq_false c3
        clear c3
        obtain rfl := Option.some.inj H
        go_wp2
        go_ret
        exact ⟨by first | rfl | (simp; done) | (simp [*]; done), by repeat (first | exact Drawn0.refl _ | apply Drawn0.step)⟩

-- WRITTEN BY lawgen.py
/-! ### laws_FnExactEndsOf: function 4 (by lawgen.py: rows in rows are marked) -/
def laws_FnExactEndsOf.f (k : Nat) (l0 : List (S55)) : Option Bool := (laws_szStepS.f k l0 1048576).bind fun t2 => (if t2 < 0 then (some true) else ((laws_toStepS.f k l0).bind fun t7 => ((spec_EndsOf.f k t7).bind fun bt16 => ((laws_toStepS.f k l0).bind fun t26 => ((impl_EndsOf.f k t26).bind fun bt35 => ((laws_eqIntS.f k bt35.1 bt16.1).bind fun t45 => (if t45 = true then (if bt35.2 = bt16.2 then ((laws_toStepS.f k l0).bind fun t50 => ((laws_eqStepS.f k t26 t50).bind fun t59 => (if t59 = true then ((laws_markStepS.f k t26 1).bind fun bt64 => (if bt64.1 < 0 then (none) else ((laws_eqIntS.f k bt35.1 bt16.1).bind fun t71 => (if t71 = true then (if bt35.2 = bt16.2 then ((laws_markIntS.f k bt35.1 1).bind fun bt76 => ((laws_heldIntS.f k bt76.2 1).bind fun t83 => (if t83 < 0 then (none) else (if t83 = bt76.1 then ((laws_toStepS.f k l0).bind fun t88 => ((impl_EndsOf.f k t88).bind fun bt97 => ((laws_eqIntS.f k bt97.1 bt16.1).bind fun t107 => (if t107 = true then (if bt97.2 = bt16.2 then ((laws_heldIntS.f k bt76.2 1).bind fun t112 => (if t112 < 0 then (none) else (if t112 = bt76.1 then (some true) else none))) else none) else none)))) else none)))) else none) else none)))) else none))) else none) else none)))))))
theorem laws_FnExactEndsOf.mono : ∀ a0 k, LeO (laws_FnExactEndsOf.f k a0) (laws_FnExactEndsOf.f (k + 1) a0) := by
  intro a0 k
  unfold laws_FnExactEndsOf.f
  repeat' first
      | (with_reducible exact laws_szStepS.mono _ _ _)
      | (with_reducible exact laws_toStepS.mono _ _)
      | (with_reducible exact spec_EndsOf.mono _ _)
      | (with_reducible exact impl_EndsOf.mono _ _)
      | (with_reducible exact laws_eqIntS.mono _ _ _)
      | (with_reducible exact laws_eqStepS.mono _ _ _)
      | (with_reducible exact laws_markStepS.mono _ _ _)
      | (with_reducible exact laws_markIntS.mono _ _ _)
      | (with_reducible exact laws_heldIntS.mono _ _ _)
      | (with_reducible exact LeO.refl _)
      | (with_reducible exact LeO.none _)
      | (with_reducible refine LeO.ite ?_ ?_)
      | (with_reducible refine LeO.bind ?_ (fun _ => ?_))
set_option maxHeartbeats 8000000 in
set_option maxRecDepth 100000 in
theorem laws_FnExactEndsOf.calls (k : Nat) (A0 : Option Addr) (c0 : Nat) (l0 : List (S55)) (r : Bool) (w : World) (hr0 : Kd.C k55 w A0 l0.length l0) (hc0 : l0.length ≤ c0) (h : laws_FnExactEndsOf.f k l0 = some r) :
    Calls Try.prog 4 #[.slice A0 l0.length c0] w fun e w' => e = .returned (.bool r) ∧ Below w.heap.size w w' := by
  have HR0 := Aside0.mk hr0
  have HC0 := Aside0.mk hc0
  clear hr0 hc0
  have tok4 : Aside0 True := ⟨trivial⟩
  have tok9 : Aside0 True := ⟨trivial⟩
  have tok19 : Aside0 True := ⟨trivial⟩
  have tok28 : Aside0 True := ⟨trivial⟩
  have tok38 : Aside0 True := ⟨trivial⟩
  have tok47 : Aside0 True := ⟨trivial⟩
  have tok52 : Aside0 True := ⟨trivial⟩
  have tok61 : Aside0 True := ⟨trivial⟩
  have tok67 : Aside0 True := ⟨trivial⟩
  have tok73 : Aside0 True := ⟨trivial⟩
  have tok79 : Aside0 True := ⟨trivial⟩
  have tok85 : Aside0 True := ⟨trivial⟩
  have tok90 : Aside0 True := ⟨trivial⟩
  have tok100 : Aside0 True := ⟨trivial⟩
  have tok109 : Aside0 True := ⟨trivial⟩
  have tok114 : Aside0 True := ⟨trivial⟩
  have HB := Aside0.mk (Below.refl w.heap.size w)
  unfold laws_FnExactEndsOf.f at h
  have bq_ : ∀ b_ : Bool, (b_ != b_) = false := by decide
  replace h := Option.bind_eq_some_iff.mp h
  obtain ⟨t2, A10, h⟩ := h
  (try dsimp only at h)
  have A1 := Aside0.mk A10
  clear A10
  by_cases c1 : t2 < 0
  · rw [if_pos c1] at h
    obtain rfl := Option.some.inj h
    have c1b : decide (t2 < 0) = true := decide_eq_true c1
    clear c1
    go_enter Try.func4, Try.ntmps4
    go_wp2_with (first | (go_at_call 14; have u_ := tok4; clear u_; ((with_reducible refine (laws_szStepS.calls k _ _ l0 1048576 t2 _ (Kd.C_below HR0.out HB.out) HC0.out A1.out).mono ?_)); rintro e w3 ⟨rfl, hb⟩; have nb_ := Aside0.mk (below_step HB.out hb); clear HB; have HB := nb_; clear nb_; have Z5 := Aside0.mk hb.size; clear hb tok4))
    go_ret
    exact ⟨rfl, HB.out⟩
  rw [if_neg c1] at h
  have c1b : decide (t2 < 0) = false := decide_eq_false c1
  clear c1
  replace h := Option.bind_eq_some_iff.mp h
  obtain ⟨t7, A60, h⟩ := h
  (try dsimp only at h)
  have A6 := Aside0.mk A60
  clear A60
  replace h := Option.bind_eq_some_iff.mp h
  obtain ⟨⟨t16, t17⟩, A150, h⟩ := h
  (try dsimp only at h)
  have A15 := Aside0.mk A150
  clear A150
  replace h := Option.bind_eq_some_iff.mp h
  obtain ⟨t26, A250, h⟩ := h
  (try dsimp only at h)
  have A25 := Aside0.mk A250
  clear A250
  replace h := Option.bind_eq_some_iff.mp h
  obtain ⟨⟨t35, t36⟩, A340, h⟩ := h
  (try dsimp only at h)
  have A34 := Aside0.mk A340
  clear A340
  replace h := Option.bind_eq_some_iff.mp h
  obtain ⟨t45, A440, h⟩ := h
  (try dsimp only at h)
  have A44 := Aside0.mk A440
  clear A440
  cases t45 with
  | false => exact absurd h (by simp)
  | true =>
    rw [if_pos rfl] at h
    by_cases c2 : t36 = t17
    rotate_left
    · rw [if_neg c2] at h; exact absurd h (by simp)
    rw [if_pos c2] at h
    have c2b : (t36 != t17) = false := by rw [c2]; simp
    have c2d : (t36 == t17) = true := by rw [c2]; simp
    have C2 := Aside0.mk c2
    clear c2
    replace h := Option.bind_eq_some_iff.mp h
    obtain ⟨t50, A490, h⟩ := h
    (try dsimp only at h)
    have A49 := Aside0.mk A490
    clear A490
    replace h := Option.bind_eq_some_iff.mp h
    obtain ⟨t59, A580, h⟩ := h
    (try dsimp only at h)
    have A58 := Aside0.mk A580
    clear A580
    cases t59 with
    | false => exact absurd h (by simp)
    | true =>
      rw [if_pos rfl] at h
      replace h := Option.bind_eq_some_iff.mp h
      obtain ⟨⟨t64, t65⟩, A630, h⟩ := h
      (try dsimp only at h)
      have A63 := Aside0.mk A630
      clear A630
      by_cases c3 : t64 < 0
      · rw [if_pos c3] at h; exact absurd h (by simp)
      rw [if_neg c3] at h
      have c3b : decide (t64 < 0) = false := decide_eq_false c3
      clear c3
      replace h := Option.bind_eq_some_iff.mp h
      obtain ⟨t71, A700, h⟩ := h
      (try dsimp only at h)
      have A70 := Aside0.mk A700
      clear A700
      cases t71 with
      | false => exact absurd h (by simp)
      | true =>
        rw [if_pos rfl] at h
        by_cases c4 : t36 = t17
        rotate_left
        · rw [if_neg c4] at h; exact absurd h (by simp)
        rw [if_pos c4] at h
        have c4b : (t36 != t17) = false := by rw [c4]; simp
        have c4d : (t36 == t17) = true := by rw [c4]; simp
        have C4 := Aside0.mk c4
        clear c4
        replace h := Option.bind_eq_some_iff.mp h
        obtain ⟨⟨t76, t77⟩, A750, h⟩ := h
        (try dsimp only at h)
        have A75 := Aside0.mk A750
        clear A750
        replace h := Option.bind_eq_some_iff.mp h
        obtain ⟨t83, A820, h⟩ := h
        (try dsimp only at h)
        have A82 := Aside0.mk A820
        clear A820
        by_cases c5 : t83 < 0
        · rw [if_pos c5] at h; exact absurd h (by simp)
        rw [if_neg c5] at h
        have c5b : decide (t83 < 0) = false := decide_eq_false c5
        clear c5
        by_cases c6 : t83 = t76
        rotate_left
        · rw [if_neg c6] at h; exact absurd h (by simp)
        rw [if_pos c6] at h
        have c6b : (t83 != t76) = false := by rw [c6]; simp
        have c6d : (t83 == t76) = true := by rw [c6]; simp
        have C6 := Aside0.mk c6
        clear c6
        replace h := Option.bind_eq_some_iff.mp h
        obtain ⟨t88, A870, h⟩ := h
        (try dsimp only at h)
        have A87 := Aside0.mk A870
        clear A870
        replace h := Option.bind_eq_some_iff.mp h
        obtain ⟨⟨t97, t98⟩, A960, h⟩ := h
        (try dsimp only at h)
        have A96 := Aside0.mk A960
        clear A960
        replace h := Option.bind_eq_some_iff.mp h
        obtain ⟨t107, A1060, h⟩ := h
        (try dsimp only at h)
        have A106 := Aside0.mk A1060
        clear A1060
        cases t107 with
        | false => exact absurd h (by simp)
        | true =>
          rw [if_pos rfl] at h
          by_cases c7 : t98 = t17
          rotate_left
          · rw [if_neg c7] at h; exact absurd h (by simp)
          rw [if_pos c7] at h
          have c7b : (t98 != t17) = false := by rw [c7]; simp
          have c7d : (t98 == t17) = true := by rw [c7]; simp
          have C7 := Aside0.mk c7
          clear c7
          replace h := Option.bind_eq_some_iff.mp h
          obtain ⟨t112, A1110, h⟩ := h
          (try dsimp only at h)
          have A111 := Aside0.mk A1110
          clear A1110
          by_cases c8 : t112 < 0
          · rw [if_pos c8] at h; exact absurd h (by simp)
          rw [if_neg c8] at h
          have c8b : decide (t112 < 0) = false := decide_eq_false c8
          clear c8
          by_cases c9 : t112 = t76
          rotate_left
          · rw [if_neg c9] at h; exact absurd h (by simp)
          rw [if_pos c9] at h
          have c9b : (t112 != t76) = false := by rw [c9]; simp
          have c9d : (t112 == t76) = true := by rw [c9]; simp
          have C9 := Aside0.mk c9
          clear c9
          obtain rfl := Option.some.inj h
          go_enter Try.func4, Try.ntmps4
          go_wp2_with (first | (go_at_call 14; have u_ := tok4; clear u_; ((with_reducible refine (laws_szStepS.calls k _ _ l0 1048576 t2 _ (Kd.C_below HR0.out HB.out) HC0.out A1.out).mono ?_)); rintro e w3 ⟨rfl, hb⟩; have nb_ := Aside0.mk (below_step HB.out hb); clear HB; have HB := nb_; clear nb_; have Z5 := Aside0.mk hb.size; clear hb tok4) | (go_at_call 16; have u_ := tok9; clear u_; ((with_reducible refine (laws_toStepS.calls k _ _ l0 t7 _ (Kd.C_below HR0.out HB.out) HC0.out A6.out).mono ?_)); rintro e w8 ⟨v10, rfl, ho0, hb⟩; have nF11_ := Aside0.mk (OwnS.make HB.out hb ho0); have nb_ := Aside0.mk (below_step HB.out hb); clear HB; have HB := nb_; clear nb_; have Z12 := Aside0.mk hb.size; have F11 := nF11_; clear nF11_; obtain ⟨Ao14, co14, eo14⟩ := Kd.S_slice F11.out; subst eo14; clear hb tok9 ho0) | (go_at_call 19; have u_ := tok19; clear u_; ((with_reducible refine (spec_EndsOf.calls k _ _ t7 t16 t17 _ (Kd.S_reads' F11.out).2.2 (S_cap F11.out) A15.out).mono ?_)); rintro e w18 ⟨v20, rfl, ho0, hb⟩; have nF21_ := Aside0.mk (OwnR.make HB.out hb ho0); have n0_ := Aside0.mk (OwnS.below F11.out hb); have nb_ := Aside0.mk (below_step HB.out hb); clear F11 HB; have F11 := n0_; have HB := nb_; clear n0_ nb_; have Z22 := Aside0.mk hb.size; have F21 := nF21_; clear nF21_; obtain ⟨Ao24, co24, eo24⟩ := Kd.R_slice F21.out; subst eo24; clear hb tok19 ho0) | (go_at_call 16; have u_ := tok28; clear u_; ((with_reducible refine (laws_toStepS.calls k _ _ l0 t26 _ (Kd.C_below HR0.out HB.out) HC0.out A25.out).mono ?_)); rintro e w27 ⟨v29, rfl, ho0, hb⟩; have nF30_ := Aside0.mk (OwnS.make HB.out hb ho0); have n0_ := Aside0.mk (OwnS.below F11.out hb); have n1_ := Aside0.mk (OwnR.below F21.out hb); have nb_ := Aside0.mk (below_step HB.out hb); clear F11 F21 HB; have F11 := n0_; have F21 := n1_; have HB := nb_; clear n0_ n1_ nb_; have Z31 := Aside0.mk hb.size; have F30 := nF30_; clear nF30_; obtain ⟨Ao33, co33, eo33⟩ := Kd.S_slice F30.out; subst eo33; clear hb tok28 ho0) | (go_at_call 20; have u_ := tok38; clear u_; ((with_reducible refine (impl_EndsOf.calls k _ _ t26 t35 t36 _ (Kd.S_reads' F30.out).2.2 (S_cap F30.out) A34.out).mono ?_)); rintro e w37 ⟨v39, rfl, ho0, hb⟩; have nF40_ := Aside0.mk (OwnR.make HB.out hb ho0); have n0_ := Aside0.mk (OwnS.below F11.out hb); have n1_ := Aside0.mk (OwnR.below F21.out hb); have n2_ := Aside0.mk (OwnS.below F30.out hb); have nb_ := Aside0.mk (below_step HB.out hb); clear F11 F21 F30 HB; have F11 := n0_; have F21 := n1_; have F30 := n2_; have HB := nb_; clear n0_ n1_ n2_ nb_; have Z41 := Aside0.mk hb.size; have F40 := nF40_; clear nF40_; obtain ⟨Ao43, co43, eo43⟩ := Kd.R_slice F40.out; subst eo43; clear hb tok38 ho0) | (go_at_call 21; have u_ := tok47; clear u_; ((with_reducible refine (laws_eqIntS.calls k _ _ t35 _ _ t16 true _ (Kd.R_reads' F40.out).2.2 (R_cap F40.out) (Kd.R_reads' F21.out).2.2 (R_cap F21.out) A44.out).mono ?_)); rintro e w46 ⟨rfl, hd⟩; have hb := hd.below; clear hd; have n0_ := Aside0.mk (OwnS.below F11.out hb); have n1_ := Aside0.mk (OwnR.below F21.out hb); have n2_ := Aside0.mk (OwnS.below F30.out hb); have n3_ := Aside0.mk (OwnR.below F40.out hb); have nb_ := Aside0.mk (below_step HB.out hb); clear F11 F21 F30 F40 HB; have F11 := n0_; have F21 := n1_; have F30 := n2_; have F40 := n3_; have HB := nb_; clear n0_ n1_ n2_ n3_ nb_; have Z48 := Aside0.mk hb.size; clear hb tok47) | (go_at_call 16; have u_ := tok52; clear u_; ((with_reducible refine (laws_toStepS.calls k _ _ l0 t50 _ (Kd.C_below HR0.out HB.out) HC0.out A49.out).mono ?_)); rintro e w51 ⟨v53, rfl, ho0, hb⟩; have nF54_ := Aside0.mk (OwnS.make HB.out hb ho0); have n0_ := Aside0.mk (OwnS.below F11.out hb); have n1_ := Aside0.mk (OwnR.below F21.out hb); have n2_ := Aside0.mk (OwnS.below F30.out hb); have n3_ := Aside0.mk (OwnR.below F40.out hb); have nb_ := Aside0.mk (below_step HB.out hb); clear F11 F21 F30 F40 HB; have F11 := n0_; have F21 := n1_; have F30 := n2_; have F40 := n3_; have HB := nb_; clear n0_ n1_ n2_ n3_ nb_; have Z55 := Aside0.mk hb.size; have F54 := nF54_; clear nF54_; obtain ⟨Ao57, co57, eo57⟩ := Kd.S_slice F54.out; subst eo57; clear hb tok52 ho0) | (go_at_call 18; have u_ := tok61; clear u_; ((with_reducible refine (laws_eqStepS.calls k _ _ t26 _ _ t50 true _ (Kd.S_reads' F30.out).2.2 (S_cap F30.out) (Kd.S_reads' F54.out).2.2 (S_cap F54.out) A58.out).mono ?_)); rintro e w60 ⟨rfl, hb⟩; have n0_ := Aside0.mk (OwnS.below F11.out hb); have n1_ := Aside0.mk (OwnR.below F21.out hb); have n2_ := Aside0.mk (OwnS.below F30.out hb); have n3_ := Aside0.mk (OwnR.below F40.out hb); have n4_ := Aside0.mk (OwnS.below F54.out hb); have nb_ := Aside0.mk (below_step HB.out hb); clear F11 F21 F30 F40 F54 HB; have F11 := n0_; have F21 := n1_; have F30 := n2_; have F40 := n3_; have F54 := n4_; have HB := nb_; clear n0_ n1_ n2_ n3_ n4_ nb_; have Z62 := Aside0.mk hb.size; clear hb tok61) | (go_at_call 22; have u_ := tok67; clear u_; ((with_reducible refine (laws_markStepS.calls k (fun k_ => w18.heap.size ≤ k_ ∧ k_ < w27.heap.size) (.slice Ao33 t26.length co33) t26 1 t64 t65 w _ HB.out F30.out A63.out).mono ?_)); rintro e w66 ⟨rfl, hy, hb, hkp⟩; have Z68 := Aside0.mk hkp.1; have ny_ : Aside0 (OwnS k56 56 w w66 w18.heap.size w27.heap.size (.slice Ao33 t26.length co33) t65) := ⟨hy⟩; have n0_ := Aside0.mk (OwnS.kept F11.out hkp (by have := Z5.out; have := Z12.out; have := Z22.out; have := Z31.out; have := Z41.out; have := Z48.out; have := Z55.out; have := Z62.out; omega)); have n1_ := Aside0.mk (OwnR.kept F21.out hkp (by have := Z5.out; have := Z12.out; have := Z22.out; have := Z31.out; have := Z41.out; have := Z48.out; have := Z55.out; have := Z62.out; omega)); have n3_ := Aside0.mk (OwnR.kept F40.out hkp (by have := Z5.out; have := Z12.out; have := Z22.out; have := Z31.out; have := Z41.out; have := Z48.out; have := Z55.out; have := Z62.out; omega)); have n4_ := Aside0.mk (OwnS.kept F54.out hkp (by have := Z5.out; have := Z12.out; have := Z22.out; have := Z31.out; have := Z41.out; have := Z48.out; have := Z55.out; have := Z62.out; omega)); have nb_ := Aside0.mk (hb); clear F11 F21 F40 F54 HB; have F11 := n0_; have F21 := n1_; have F40 := n3_; have F54 := n4_; have HB := nb_; clear n0_ n1_ n3_ n4_ nb_; have F69 := ny_; clear ny_ hy hb hkp F30; clear tok67) | (go_at_call 21; have u_ := tok73; clear u_; ((with_reducible refine (laws_eqIntS.calls k _ _ t35 _ _ t16 true _ (Kd.R_reads' F40.out).2.2 (R_cap F40.out) (Kd.R_reads' F21.out).2.2 (R_cap F21.out) A70.out).mono ?_)); rintro e w72 ⟨rfl, hd⟩; have hb := hd.below; clear hd; have n0_ := Aside0.mk (OwnS.below F11.out hb); have n1_ := Aside0.mk (OwnR.below F21.out hb); have n2_ := Aside0.mk (OwnS.below F69.out hb); have n3_ := Aside0.mk (OwnR.below F40.out hb); have n4_ := Aside0.mk (OwnS.below F54.out hb); have nb_ := Aside0.mk (below_step HB.out hb); clear F11 F21 F69 F40 F54 HB; have F11 := n0_; have F21 := n1_; have F69 := n2_; have F40 := n3_; have F54 := n4_; have HB := nb_; clear n0_ n1_ n2_ n3_ n4_ nb_; have Z74 := Aside0.mk hb.size; clear hb tok73) | (go_at_call 23; have u_ := tok79; clear u_; ((with_reducible refine (laws_markIntS.calls k (fun k_ => w27.heap.size ≤ k_ ∧ k_ < w37.heap.size) (.slice Ao43 t35.length co43) t35 1 t76 t77 w _ HB.out F40.out A75.out).mono ?_)); rintro e w78 ⟨rfl, hy, hb, hkp⟩; have Z80 := Aside0.mk hkp.1; have ny_ : Aside0 (OwnR (Kd.int .i64) 3 w w78 w27.heap.size w37.heap.size (.slice Ao43 t35.length co43) t77) := ⟨Kd.R_reok rfl hy (fun k_ e_ => F40.out.1 k_ e_)⟩; have n0_ := Aside0.mk (OwnS.kept F11.out hkp (by have := Z5.out; have := Z12.out; have := Z22.out; have := Z31.out; have := Z41.out; have := Z48.out; have := Z55.out; have := Z62.out; have := Z68.out; have := Z74.out; omega)); have n1_ := Aside0.mk (OwnR.kept F21.out hkp (by have := Z5.out; have := Z12.out; have := Z22.out; have := Z31.out; have := Z41.out; have := Z48.out; have := Z55.out; have := Z62.out; have := Z68.out; have := Z74.out; omega)); have n2_ := Aside0.mk (OwnS.kept F69.out hkp (by have := Z5.out; have := Z12.out; have := Z22.out; have := Z31.out; have := Z41.out; have := Z48.out; have := Z55.out; have := Z62.out; have := Z68.out; have := Z74.out; omega)); have n4_ := Aside0.mk (OwnS.kept F54.out hkp (by have := Z5.out; have := Z12.out; have := Z22.out; have := Z31.out; have := Z41.out; have := Z48.out; have := Z55.out; have := Z62.out; have := Z68.out; have := Z74.out; omega)); have nb_ := Aside0.mk (hb); clear F11 F21 F69 F54 HB; have F11 := n0_; have F21 := n1_; have F69 := n2_; have F54 := n4_; have HB := nb_; clear n0_ n1_ n2_ n4_ nb_; have F81 := ny_; clear ny_ hy hb hkp F40; clear tok79) | (go_at_call 24; have u_ := tok85; clear u_; refine calls_of_args (args' := #[.slice Ao43 t77.length co43, .int .i64 1]) (by first | (rw [show t77.length = t35.length from (Kd.R_reads' F81.out).1.symm]; done) | (rw [show t77.length = t35.length from (Kd.R_reads' F81.out).1.symm]; rfl)) ?_; ((with_reducible refine (laws_heldIntS.calls k _ _ t77 1 t83 _ (Kd.R_reads' F81.out).2.2 (R_cap F81.out) A82.out).mono ?_)); rintro e w84 ⟨rfl, hd⟩; have hb := hd.below; clear hd; have n0_ := Aside0.mk (OwnS.below F11.out hb); have n1_ := Aside0.mk (OwnR.below F21.out hb); have n2_ := Aside0.mk (OwnS.below F69.out hb); have n3_ := Aside0.mk (OwnR.below F81.out hb); have n4_ := Aside0.mk (OwnS.below F54.out hb); have nb_ := Aside0.mk (below_step HB.out hb); clear F11 F21 F69 F81 F54 HB; have F11 := n0_; have F21 := n1_; have F69 := n2_; have F81 := n3_; have F54 := n4_; have HB := nb_; clear n0_ n1_ n2_ n3_ n4_ nb_; have Z86 := Aside0.mk hb.size; clear hb tok85) | (go_at_call 16; have u_ := tok90; clear u_; ((with_reducible refine (laws_toStepS.calls k _ _ l0 t88 _ (Kd.C_below HR0.out HB.out) HC0.out A87.out).mono ?_)); rintro e w89 ⟨v91, rfl, ho0, hb⟩; have nF92_ := Aside0.mk (OwnS.make HB.out hb ho0); have n0_ := Aside0.mk (OwnS.below F11.out hb); have n1_ := Aside0.mk (OwnR.below F21.out hb); have n2_ := Aside0.mk (OwnS.below F69.out hb); have n3_ := Aside0.mk (OwnR.below F81.out hb); have n4_ := Aside0.mk (OwnS.below F54.out hb); have nb_ := Aside0.mk (below_step HB.out hb); clear F11 F21 F69 F81 F54 HB; have F11 := n0_; have F21 := n1_; have F69 := n2_; have F81 := n3_; have F54 := n4_; have HB := nb_; clear n0_ n1_ n2_ n3_ n4_ nb_; have Z93 := Aside0.mk hb.size; have F92 := nF92_; clear nF92_; obtain ⟨Ao95, co95, eo95⟩ := Kd.S_slice F92.out; subst eo95; clear hb tok90 ho0) | (go_at_call 20; have u_ := tok100; clear u_; ((with_reducible refine (impl_EndsOf.calls k _ _ t88 t97 t98 _ (Kd.S_reads' F92.out).2.2 (S_cap F92.out) A96.out).mono ?_)); rintro e w99 ⟨v101, rfl, ho0, hb⟩; have nF102_ := Aside0.mk (OwnR.make HB.out hb ho0); have n0_ := Aside0.mk (OwnS.below F11.out hb); have n1_ := Aside0.mk (OwnR.below F21.out hb); have n2_ := Aside0.mk (OwnS.below F69.out hb); have n3_ := Aside0.mk (OwnR.below F81.out hb); have n4_ := Aside0.mk (OwnS.below F54.out hb); have n5_ := Aside0.mk (OwnS.below F92.out hb); have nb_ := Aside0.mk (below_step HB.out hb); clear F11 F21 F69 F81 F54 F92 HB; have F11 := n0_; have F21 := n1_; have F69 := n2_; have F81 := n3_; have F54 := n4_; have F92 := n5_; have HB := nb_; clear n0_ n1_ n2_ n3_ n4_ n5_ nb_; have Z103 := Aside0.mk hb.size; have F102 := nF102_; clear nF102_; obtain ⟨Ao105, co105, eo105⟩ := Kd.R_slice F102.out; subst eo105; clear hb tok100 ho0) | (go_at_call 21; have u_ := tok109; clear u_; ((with_reducible refine (laws_eqIntS.calls k _ _ t97 _ _ t16 true _ (Kd.R_reads' F102.out).2.2 (R_cap F102.out) (Kd.R_reads' F21.out).2.2 (R_cap F21.out) A106.out).mono ?_)); rintro e w108 ⟨rfl, hd⟩; have hb := hd.below; clear hd; have n0_ := Aside0.mk (OwnS.below F11.out hb); have n1_ := Aside0.mk (OwnR.below F21.out hb); have n2_ := Aside0.mk (OwnS.below F69.out hb); have n3_ := Aside0.mk (OwnR.below F81.out hb); have n4_ := Aside0.mk (OwnS.below F54.out hb); have n5_ := Aside0.mk (OwnS.below F92.out hb); have n6_ := Aside0.mk (OwnR.below F102.out hb); have nb_ := Aside0.mk (below_step HB.out hb); clear F11 F21 F69 F81 F54 F92 F102 HB; have F11 := n0_; have F21 := n1_; have F69 := n2_; have F81 := n3_; have F54 := n4_; have F92 := n5_; have F102 := n6_; have HB := nb_; clear n0_ n1_ n2_ n3_ n4_ n5_ n6_ nb_; have Z110 := Aside0.mk hb.size; clear hb tok109) | (go_at_call 24; have u_ := tok114; clear u_; refine calls_of_args (args' := #[.slice Ao43 t77.length co43, .int .i64 1]) (by first | (rw [show t77.length = t35.length from (Kd.R_reads' F81.out).1.symm]; done) | (rw [show t77.length = t35.length from (Kd.R_reads' F81.out).1.symm]; rfl)) ?_; ((with_reducible refine (laws_heldIntS.calls k _ _ t77 1 t112 _ (Kd.R_reads' F81.out).2.2 (R_cap F81.out) A111.out).mono ?_)); rintro e w113 ⟨rfl, hd⟩; have hb := hd.below; clear hd; have n0_ := Aside0.mk (OwnS.below F11.out hb); have n1_ := Aside0.mk (OwnR.below F21.out hb); have n2_ := Aside0.mk (OwnS.below F69.out hb); have n3_ := Aside0.mk (OwnR.below F81.out hb); have n4_ := Aside0.mk (OwnS.below F54.out hb); have n5_ := Aside0.mk (OwnS.below F92.out hb); have n6_ := Aside0.mk (OwnR.below F102.out hb); have nb_ := Aside0.mk (below_step HB.out hb); clear F11 F21 F69 F81 F54 F92 F102 HB; have F11 := n0_; have F21 := n1_; have F69 := n2_; have F81 := n3_; have F54 := n4_; have F92 := n5_; have F102 := n6_; have HB := nb_; clear n0_ n1_ n2_ n3_ n4_ n5_ n6_ nb_; have Z115 := Aside0.mk hb.size; clear hb tok114))
          go_ret
          exact ⟨rfl, HB.out⟩

/-- THE ONE PURE STATEMENT of laws_FnExactEndsOf: yours. -/
def laws_FnExactEndsOf.Pure : Prop := ∀ (l0 : List (S55)), l0.length ≤ maxLen → (∀ x ∈ l0, Good55 x) → ∃ k, laws_FnExactEndsOf.f k l0 = some true

/-! ### spec_GoodSteps: function 15 -/
def spec_GoodSteps.f (k : Nat) (l0 : List (S56)) : Option (Bool) := (spec_l3Ends.f k l0).bind fun bt205 => (some bt205.2)
theorem spec_GoodSteps.mono : ∀ a0 k, LeO (spec_GoodSteps.f k a0) (spec_GoodSteps.f (k + 1) a0) := by
  intro a0 k
  unfold spec_GoodSteps.f
  repeat' first
      | (with_reducible exact spec_l3Ends.mono _ _)
      | (with_reducible exact LeO.refl _)
      | (with_reducible exact LeO.none _)
      | (with_reducible refine LeO.ite ?_ ?_)
      | (with_reducible refine LeO.bind ?_ (fun _ => ?_))
      | exact spec_l3Ends.mono _ _
      | exact LeO.none _
      | refine LeO.ite ?_ ?_
      | refine LeO.bind ?_ (fun _ => ?_)
set_option maxHeartbeats 8000000 in
set_option maxRecDepth 100000 in
theorem spec_GoodSteps.calls (k : Nat) (A0 : Option Addr) (c0 : Nat) (l0 : List (S56)) (r : Bool) (w : World) (hr0 : Kd.C k56 w A0 l0.length l0) (hc0 : l0.length ≤ c0) (h : spec_GoodSteps.f k l0 = some r) :
    Calls Try.prog 15 #[.slice A0 l0.length c0] w fun e w' => e = .returned (.bool r) ∧ Below w.heap.size w w' := by
  have HR0 := Aside0.mk hr0
  have HC0 := Aside0.mk hc0
  clear hr0 hc0
  have HB := Aside0.mk (Below.refl w.heap.size w)
  have H : ((spec_l3Ends.f k l0).bind fun bt205 => (some bt205.2)) = some r := h
  clear h
  replace H := Option.bind_eq_some_iff.mp H
  obtain ⟨⟨t205, t206⟩, A20, H⟩ := H
  replace H : (some t206) = some r := H
  have A2 := Aside0.mk A20
  clear A20
  obtain rfl := Option.some.inj H
  go_enter Try.func15, Try.ntmps15
  go_wp2_with (first | ((with_reducible refine gate_callee (f := 48) rfl ?_); refine goesL_ (some 7) rfl rfl Try.func48 (by kernel_rfl) rfl #[.slice A0 l0.length c0] rfl (by (try simp only [List.map_toArray, List.map_cons, List.map_nil]); first | done | rfl | (simp only [List.length_drop, List.length_take]; rfl)) ?_; (with_reducible refine (spec_l3Ends.calls k _ _ l0 t205 t206 _ ?side1 ?side2 A2.out).mono ?_); (case side1 => repeat (first | exact HR0.out | (with_reducible refine Kd.C_alloc ?_ _) | (with_reducible refine Kd.C_drewN ?_ _) | (with_reducible refine Kd.C_drew ?_))); (case side2 => exact HC0.out); rintro e w3 ⟨v207, rfl, ho0, hb⟩; refine ⟨_, rfl, ?_⟩; have n0_ := Aside0.mk (Kd.R_lower ho0 (below_size (by repeat (first | (with_reducible first | exact HB.out | apply below_alloc | apply pw_below_drewN | apply below_drew1) | exact HB.out)))); have n1_ := Aside0.mk (below_step (by repeat (first | (with_reducible first | exact HB.out | apply below_alloc | apply pw_below_drewN | apply below_drew1) | exact HB.out)) hb); clear HB; have HO208 := n0_; have HB := n1_; clear n0_ n1_; (try clear hb); (try clear hb2); (try clear hk); (try clear hi); (try clear ho0)))
  go_ret
  exact ⟨by first | rfl | (simp [errW_none, errW_some] <;> rfl) | (simp [*, errW_none, errW_some] <;> rfl), by repeat (first | (with_reducible first | exact HB.out | apply below_alloc | apply pw_below_drewN | apply below_drew1) | exact HB.out)⟩

/-! ### spec_l3Depths: function 52 -/
def spec_l3Depths.l0 : Nat → List Int → Int → List (S56) → Int → Int → Option (List Int)
  | 0, _, _, _, _, _ => none
  | k + 1, x3, x4, x7, x8, x9 => if x9 < x8 then (if 0 ≤ x9 then (if x9 < (x7.length : Int) then (if x3.length < 17592186044416 then ((some (x3 ++ [x4] : List Int)).bind fun y211 => ((spec_l3Opens.f ((rd_T56 x7 x9).f0)).bind fun t214 => (if t214 = true then (spec_l3Depths.l0 k y211 (wrap64 (x4 + 1)) x7 x8 (wrap64 (x9 + 1))) else (if ((rd_T56 x7 x9).f0) = 19 then (spec_l3Depths.l0 k y211 (wrap64 (x4 - 1)) x7 x8 (wrap64 (x9 + 1))) else (spec_l3Depths.l0 k y211 x4 x7 x8 (wrap64 (x9 + 1))))))) else (none)) else (none)) else (none)) else (some x3)
def spec_l3Depths.f (k : Nat) (l0 : List (S56)) : Option (List Int) := spec_l3Depths.l0 k ([] : List Int) 0 l0 (l0.length : Int) 0
theorem spec_l3Depths.mono_l : ∀ k, (∀ y0 y1 y2 y3 y4, LeO (spec_l3Depths.l0 k y0 y1 y2 y3 y4) (spec_l3Depths.l0 (k + 1) y0 y1 y2 y3 y4))
  | 0 => fun _ _ _ _ _ r h => by simp [spec_l3Depths.l0] at h
  | k + 1 => by
    have ih0 := spec_l3Depths.mono_l k
    · intro y0 y1 y2 y3 y4
      unfold spec_l3Depths.l0
      repeat' first
      | (with_reducible exact ih0 _ _ _ _ _)
      | (with_reducible exact LeO.refl _)
      | (with_reducible exact LeO.none _)
      | (with_reducible refine LeO.ite ?_ ?_)
      | (with_reducible refine LeO.bind ?_ (fun _ => ?_))
      | exact ih0 _ _ _ _ _
      | exact LeO.none _
      | refine LeO.ite ?_ ?_
      | refine LeO.bind ?_ (fun _ => ?_)
theorem spec_l3Depths.mono : ∀ a0 k, LeO (spec_l3Depths.f k a0) (spec_l3Depths.f (k + 1) a0) := by
  intro a0 k
  have ih0 := spec_l3Depths.mono_l k
  unfold spec_l3Depths.f
  repeat' first
      | (with_reducible exact ih0 _ _ _ _ _)
      | (with_reducible exact LeO.refl _)
      | (with_reducible exact LeO.none _)
      | (with_reducible refine LeO.ite ?_ ?_)
      | (with_reducible refine LeO.bind ?_ (fun _ => ?_))
      | exact ih0 _ _ _ _ _
      | exact LeO.none _
      | refine LeO.ite ?_ ?_
      | refine LeO.bind ?_ (fun _ => ?_)
set_option maxHeartbeats 8000000 in
set_option maxRecDepth 100000 in
theorem spec_l3Depths.calls (k : Nat) (A0 : Option Addr) (c0 : Nat) (l0 : List (S56)) (r : List Int) (w : World) (hr0 : Kd.C k56 w A0 l0.length l0) (hc0 : l0.length ≤ c0) (h : spec_l3Depths.f k l0 = some r) :
    Calls Try.prog 52 #[.slice A0 l0.length c0] w fun e w' => ∃ v0_ : Value, e = .returned (v0_) ∧ Kd.R (Kd.int .i64) 3 w' w.heap.size (fun _ => True) v0_ r ∧ Below w.heap.size w w' := by
  have hu56 := Try.underlying56
  have HR0 := Aside0.mk hr0
  have HC0 := Aside0.mk hc0
  clear hr0 hc0
  have HB := Aside0.mk (Below.refl w.heap.size w)
  have H : (spec_l3Depths.l0 k ([] : List Int) 0 l0 (l0.length : Int) 0) = some r := h
  clear h
  have H' := Aside0.mk H
  clear H
  go_enter Try.func52, Try.ntmps52
  go_wp2
  go_loopg [3, 4, 9] k (fun kq v3 v4 v9 w' => ∃ (x3_1 : List Int) (x4_1 : Int) (x9_1 : Int), v4 = .int .i64 x4_1 ∧ v9 = .int .i64 x9_1 ∧ Aside0 (spec_l3Depths.l0 kq x3_1 x4_1 l0 (l0.length : Int) x9_1 = some r) ∧ Aside0 (kq ≤ k) ∧ Aside0 (Kd.R (Kd.int .i64) 3 w' w.heap.size (fun _ => True) v3 x3_1) ∧ Aside0 (Below w.heap.size w w'))
  case atStart => exact ⟨(([] : List Int)), (0), (0), (by first | rfl | (simp; done) | (simp [*]; done)), (by first | rfl | (simp; done) | (simp [*]; done)), H', ⟨Nat.le_refl _⟩, ⟨by first | exact Kd.R_nil _ _ _ _ _ | exact Kd.N_nil _ _ _ _ _ | exact Kd.V_nil _ _ _ _ _ | exact Kd.Q_nil _ _ _ _ _ | exact Kd.S_nil _ _ _ _ _⟩, ⟨by repeat (first | (with_reducible first | exact HB.out | apply below_alloc | apply pw_below_drewN | apply below_drew1) | exact HB.out)⟩⟩
  case round =>
    clear H'
    obtain ⟨x3_1, x4_1, x9_1, rfl, rfl, HA, HK1, HO_3, HB⟩ := hrel
    cases gk with
    | zero => exact absurd HA.out (by simp [spec_l3Depths.l0])
    | succ k1 =>
      have H := HA.out
      clear HA
      simp only [spec_l3Depths.l0] at H
      by_cases c2 : x9_1 < (l0.length : Int)
      · rw [if_pos c2] at H
        have c2b0 : decide (x9_1 < (l0.length : Int)) = true := decide_eq_true c2
        clear c2
        by_cases c3 : 0 ≤ x9_1
        · rw [if_pos c3] at H
          have c3b0 : decide (0 ≤ x9_1) = true := decide_eq_true c3
          clear c3
          by_cases c4 : x9_1 < (l0.length : Int)
          · rw [if_pos c4] at H
            have c4b0 : decide (x9_1 < (l0.length : Int)) = true := decide_eq_true c4
            clear c4
            by_cases c5 : x3_1.length < 17592186044416
            · rw [if_pos c5] at H
              have LMc5 := Aside0.mk c5
              clear c5
              obtain ⟨y211, hy211⟩ : ∃ y_ : List Int, y_ = (x3_1 ++ [x4_1]) := ⟨_, rfl⟩
              replace H : ((spec_l3Opens.f ((rd_T56 l0 x9_1).f0)).bind fun t214 => (if t214 = true then (spec_l3Depths.l0 k1 y211 (wrap64 (x4_1 + 1)) l0 (l0.length : Int) (wrap64 (x9_1 + 1))) else (if ((rd_T56 l0 x9_1).f0) = 19 then (spec_l3Depths.l0 k1 y211 (wrap64 (x4_1 - 1)) l0 (l0.length : Int) (wrap64 (x9_1 + 1))) else (spec_l3Depths.l0 k1 y211 x4_1 l0 (l0.length : Int) (wrap64 (x9_1 + 1)))))) = some r := by first | (rw [hy211]; with_reducible exact H) | (have H2_ := (Option.bind_some _ _).symm.trans H; rw [hy211]; with_reducible exact H2_) | (have H2_ := (Option.bind_some _ _).symm.trans H; with_reducible exact H2_) | with_reducible exact H | (rw [hy211]; exact H) | exact H
              have Ny211 := Aside0.mk hy211
              clear hy211
              replace H := Option.bind_eq_some_iff.mp H
              obtain ⟨t214, A60, H⟩ := H
              replace H : (if t214 = true then (spec_l3Depths.l0 k1 y211 (wrap64 (x4_1 + 1)) l0 (l0.length : Int) (wrap64 (x9_1 + 1))) else (if ((rd_T56 l0 x9_1).f0) = 19 then (spec_l3Depths.l0 k1 y211 (wrap64 (x4_1 - 1)) l0 (l0.length : Int) (wrap64 (x9_1 + 1))) else (spec_l3Depths.l0 k1 y211 x4_1 l0 (l0.length : Int) (wrap64 (x9_1 + 1))))) = some r := H
              have A6 := Aside0.mk A60
              clear A60
              by_cases c7 : t214 = true
              · subst c7
                have H1 : (spec_l3Depths.l0 k1 y211 (wrap64 (x4_1 + 1)) l0 (l0.length : Int) (wrap64 (x9_1 + 1))) = some r := by rw [if_pos rfl] at H; exact H
                clear H
                have H := H1
                clear H1
                have H' := Aside0.mk H
                clear H
                have p209 : 0 ≤ (x9_1 : Int) := of_decide_eq_true (by first | (with_reducible assumption) | assumption)
                have q209 : x9_1 < (l0.length : Int) := of_decide_eq_true (by first | (with_reducible assumption) | assumption)
                obtain ⟨ad209, A209_2, c209_2, e209, hx209_0, hx209_1, hx209_2, hl209_2, hi209_2⟩ := at_T56 HR0.out x9_1 p209 q209
                cases e209
                replace hx209_0 := (HB.out.cell (World.block_lt_of_cell? w _ hx209_0)).trans hx209_0
                replace hx209_1 := (HB.out.cell (World.block_lt_of_cell? w _ hx209_1)).trans hx209_1
                replace hx209_2 := (HB.out.cell (World.block_lt_of_cell? w _ hx209_2)).trans hx209_2
                have HR209_2 := Aside0.mk hi209_2
                have HC209_2 := Aside0.mk hl209_2
                clear hi209_2 hl209_2
                replace p209 := eq_true p209
                replace q209 := eq_true q209
                go_wp2_with (first | ((with_reducible refine gate_dst (N := 6) rfl ?_); refine box_event ?hg (N := 6) ?hd (cs := #[.int .i64 0, .int .i64 0, .slice none 0 0]) (t := 56) ?hr ?_; (case hd => rfl); (case hg => rfl); (case hr => first | (go_simp; done) | (go_simp; rfl)); intro gb210 hg w8 hbox hb; have n0_ := Aside0.mk (Kd.R_below (by (with_reducible repeat (first | apply Kd.R_alloc | apply Kd.R_drewN | apply Kd.R_drew)); exact HO_3.out) hb); have n1_ := Aside0.mk (below_step (by repeat (first | (with_reducible first | exact HB.out | apply below_alloc | apply pw_below_drewN | apply below_drew1) | exact HB.out)) hb); have n2_ := Aside0.mk (hbox); have n3_ := Aside0.mk ((by rw [hg]; exact (below_size (by repeat (first | (with_reducible first | exact HB.out | apply below_alloc | apply pw_below_drewN | apply below_drew1) | exact HB.out))) : w.heap.size ≤ gb210)); have n4_ := Aside0.mk ((by rw [hg]; exact (below_size (by repeat (first | (with_reducible first | exact HB.out | apply below_alloc | apply pw_below_drewN | apply below_drew1) | exact HB.out))) : w.heap.size ≤ gb210)); clear HO_3; clear HB; have HO_3 := n0_; have HB := n1_; have BK210 := n2_; have GW210 := n3_; have GE210 := n4_; clear n0_ n1_ n2_ n3_ n4_; clear hb hbox hg; have hcz9_0 : w8.cell? ⟨gb210, 0, none⟩ = some (.int .i64 0) := (blk_cell BK210.out 0).trans rfl; have hcz9_1 : w8.cell? ⟨gb210, 1, none⟩ = some (.int .i64 0) := (blk_cell BK210.out 1).trans rfl; have hcz9_2 : w8.cell? ⟨gb210, 2, none⟩ = some (.slice none 0 0) := (blk_cell BK210.out 2).trans rfl; have hfz9_0 := blk_frozen BK210.out 0; have hfz9_1 := blk_frozen BK210.out 1; have hfz9_2 := blk_frozen BK210.out 2) | ((with_reducible refine gate_builtin (b := .append) (xs := #[.tmp 13, .tmp 15]) rfl ?_); at_builtin; refine Kd.R_append (Kd.int .i64) (w0 := w) w.heap.size rfl (.tmp 13) (.tmp 15) 29 3 (.int .i64 0) 8 rfl Try.underlying29 info3 rfl (by decide) (by omega) u3 x3_1 x4_1 [.int .i64 x4_1] (fun _ => True) (fun _ => False) rfl (by first | (go_simp; done) | (go_simp; rfl)) ?aP (fun _ hk => hk.elim) ?aF ?aO ?aB ?aS ?aL ?_; (case aP => exact rfl); (case aB => exact (by repeat (first | (with_reducible first | exact HB.out | apply below_alloc | apply pw_below_drewN | apply below_drew1 | refine below_set ?_ GE210.out) | exact HB.out))); (case aF => exact (fun _ _ => trivial)); (case aO => exact (by (with_reducible repeat (first | apply Kd.R_alloc | apply Kd.R_drewN | apply Kd.R_drew)); exact Kd.R_mono (Kd.R_far (p := ⟨gb210, 2, none⟩) (Kd.R_far (p := ⟨gb210, 1, none⟩) (Kd.R_far (p := ⟨gb210, 0, none⟩) (Kd.R_types HO_3.out BK210.out (by decide)) (fun _ hk => hk.2) (.int .i64 ((rd_T56 l0 x9_1).f0))) (fun _ hk => hk.2) (.int .i64 ((rd_T56 l0 x9_1).f1))) (fun _ hk => hk.2) (.slice A209_2 ((rd_T56 l0 x9_1).f2).length c209_2)) (fun _ hk => trivial))); (case aS => exact (below_size (by repeat (first | (with_reducible first | exact HB.out | apply below_alloc | apply pw_below_drewN | apply below_drew1 | refine below_set ?_ GE210.out) | exact HB.out)))); (case aL => have := LMc5.out; omega); intro v212 w10 ho hb hg hat; rw [← Ny211.out] at ho; have n0_ := Aside0.mk (blk_grown (g := gb210) (o := .cells #[.int .i64 ((rd_T56 l0 x9_1).f0), .int .i64 ((rd_T56 l0 x9_1).f1), .slice A209_2 ((rd_T56 l0 x9_1).f2).length c209_2] 56 (0, 0)) (by (with_reducible repeat (first | refine blk_drewN ?_ _ | refine blk_drew ?_ | refine blk_alloc ?_ _)); refine blk_put (cs := #[.int .i64 ((rd_T56 l0 x9_1).f0), .int .i64 ((rd_T56 l0 x9_1).f1), .slice none 0 0]) ?_ 2 _ rfl; (with_reducible repeat (first | refine blk_drewN ?_ _ | refine blk_drew ?_ | refine blk_alloc ?_ _)); refine blk_put (cs := #[.int .i64 ((rd_T56 l0 x9_1).f0), .int .i64 0, .slice none 0 0]) ?_ 1 _ rfl; (with_reducible repeat (first | refine blk_drewN ?_ _ | refine blk_drew ?_ | refine blk_alloc ?_ _)); refine blk_put (cs := #[.int .i64 0, .int .i64 0, .slice none 0 0]) ?_ 0 _ rfl; (with_reducible repeat (first | refine blk_drewN ?_ _ | refine blk_drew ?_ | refine blk_alloc ?_ _)); exact BK210.out) hg (Kd.R_ne HO_3.out BK210.out (by decide))); have n1_ := Aside0.mk (hb); have n2_ := Aside0.mk (ho); clear BK210; clear HB; clear HO_3; have BK210 := n0_; have HB := n1_; have HO213 := n2_; clear n0_ n1_ n2_; clear ho hb hg hat; have hcz11_0 : w10.cell? ⟨gb210, 0, none⟩ = some (.int .i64 ((rd_T56 l0 x9_1).f0)) := (blk_cell BK210.out 0).trans rfl; have hcz11_1 : w10.cell? ⟨gb210, 1, none⟩ = some (.int .i64 ((rd_T56 l0 x9_1).f1)) := (blk_cell BK210.out 1).trans rfl; have hcz11_2 : w10.cell? ⟨gb210, 2, none⟩ = some (.slice A209_2 ((rd_T56 l0 x9_1).f2).length c209_2) := (blk_cell BK210.out 2).trans rfl; have hfz11_0 := blk_frozen BK210.out 0; have hfz11_1 := blk_frozen BK210.out 1; have hfz11_2 := blk_frozen BK210.out 2) | ((with_reducible refine gate_callee (f := 74) rfl ?_); refine goesL_ (some 20) rfl rfl Try.func74 (by kernel_rfl) rfl #[.int .i64 ((rd_T56 l0 x9_1).f0)] rfl (by (try simp only [List.map_toArray, List.map_cons, List.map_nil]); first | done | rfl | (simp only [List.length_drop, List.length_take]; rfl)) ?_; (with_reducible refine (spec_l3Opens.calls ((rd_T56 l0 x9_1).f0) true _ A6.out).mono ?_); rintro e w' ⟨rfl, ⟨nd, rfl⟩⟩; refine ⟨_, rfl, ?_⟩))
                go_roundg k1
                case measure => have := HK1.out; omega
                case rel => exact ⟨(y211), (wrap64 (x4_1 + 1)), (wrap64 (x9_1 + 1)), (by first | rfl | (simp; done) | (simp [*]; done)), (by first | rfl | (simp; done) | (simp [*]; done)), H', ⟨by have := HK1.out; omega⟩, ⟨by (with_reducible repeat (first | apply Kd.R_alloc | apply Kd.R_drewN | apply Kd.R_drew)); exact HO213.out⟩, ⟨by repeat (first | (with_reducible first | exact HB.out | apply below_alloc | apply pw_below_drewN | apply below_drew1 | refine below_set ?_ GE210.out) | exact HB.out)⟩⟩
              · replace c7 := Bool.eq_false_iff.mpr c7
                subst c7
                have H1 : (if ((rd_T56 l0 x9_1).f0) = 19 then (spec_l3Depths.l0 k1 y211 (wrap64 (x4_1 - 1)) l0 (l0.length : Int) (wrap64 (x9_1 + 1))) else (spec_l3Depths.l0 k1 y211 x4_1 l0 (l0.length : Int) (wrap64 (x9_1 + 1)))) = some r := by rw [if_neg (show ¬ (false = true) by decide)] at H; exact H
                clear H
                have H := H1
                clear H1
                by_cases c12 : ((rd_T56 l0 x9_1).f0) = 19
                · rw [if_pos c12] at H
                  have c12b0 : (((rd_T56 l0 x9_1).f0) == 19) = true := beq_iff_eq.mpr c12
                  have c12b1 : (((rd_T56 l0 x9_1).f0) != 19) = false := bne_eq_false_iff_eq.mpr c12
                  clear c12
                  have H' := Aside0.mk H
                  clear H
                  have p209 : 0 ≤ (x9_1 : Int) := of_decide_eq_true (by first | (with_reducible assumption) | assumption)
                  have q209 : x9_1 < (l0.length : Int) := of_decide_eq_true (by first | (with_reducible assumption) | assumption)
                  obtain ⟨ad209, A209_2, c209_2, e209, hx209_0, hx209_1, hx209_2, hl209_2, hi209_2⟩ := at_T56 HR0.out x9_1 p209 q209
                  cases e209
                  replace hx209_0 := (HB.out.cell (World.block_lt_of_cell? w _ hx209_0)).trans hx209_0
                  replace hx209_1 := (HB.out.cell (World.block_lt_of_cell? w _ hx209_1)).trans hx209_1
                  replace hx209_2 := (HB.out.cell (World.block_lt_of_cell? w _ hx209_2)).trans hx209_2
                  have HR209_2 := Aside0.mk hi209_2
                  have HC209_2 := Aside0.mk hl209_2
                  clear hi209_2 hl209_2
                  replace p209 := eq_true p209
                  replace q209 := eq_true q209
                  go_wp2_with (first | ((with_reducible refine gate_dst (N := 6) rfl ?_); refine box_event ?hg (N := 6) ?hd (cs := #[.int .i64 0, .int .i64 0, .slice none 0 0]) (t := 56) ?hr ?_; (case hd => rfl); (case hg => rfl); (case hr => first | (go_simp; done) | (go_simp; rfl)); intro gb210 hg w13 hbox hb; have n0_ := Aside0.mk (Kd.R_below (by (with_reducible repeat (first | apply Kd.R_alloc | apply Kd.R_drewN | apply Kd.R_drew)); exact HO_3.out) hb); have n1_ := Aside0.mk (below_step (by repeat (first | (with_reducible first | exact HB.out | apply below_alloc | apply pw_below_drewN | apply below_drew1) | exact HB.out)) hb); have n2_ := Aside0.mk (hbox); have n3_ := Aside0.mk ((by rw [hg]; exact (below_size (by repeat (first | (with_reducible first | exact HB.out | apply below_alloc | apply pw_below_drewN | apply below_drew1) | exact HB.out))) : w.heap.size ≤ gb210)); have n4_ := Aside0.mk ((by rw [hg]; exact (below_size (by repeat (first | (with_reducible first | exact HB.out | apply below_alloc | apply pw_below_drewN | apply below_drew1) | exact HB.out))) : w.heap.size ≤ gb210)); clear HO_3; clear HB; have HO_3 := n0_; have HB := n1_; have BK210 := n2_; have GW210 := n3_; have GE210 := n4_; clear n0_ n1_ n2_ n3_ n4_; clear hb hbox hg; have hcz14_0 : w13.cell? ⟨gb210, 0, none⟩ = some (.int .i64 0) := (blk_cell BK210.out 0).trans rfl; have hcz14_1 : w13.cell? ⟨gb210, 1, none⟩ = some (.int .i64 0) := (blk_cell BK210.out 1).trans rfl; have hcz14_2 : w13.cell? ⟨gb210, 2, none⟩ = some (.slice none 0 0) := (blk_cell BK210.out 2).trans rfl; have hfz14_0 := blk_frozen BK210.out 0; have hfz14_1 := blk_frozen BK210.out 1; have hfz14_2 := blk_frozen BK210.out 2) | ((with_reducible refine gate_builtin (b := .append) (xs := #[.tmp 13, .tmp 15]) rfl ?_); at_builtin; refine Kd.R_append (Kd.int .i64) (w0 := w) w.heap.size rfl (.tmp 13) (.tmp 15) 29 3 (.int .i64 0) 8 rfl Try.underlying29 info3 rfl (by decide) (by omega) u3 x3_1 x4_1 [.int .i64 x4_1] (fun _ => True) (fun _ => False) rfl (by first | (go_simp; done) | (go_simp; rfl)) ?aP (fun _ hk => hk.elim) ?aF ?aO ?aB ?aS ?aL ?_; (case aP => exact rfl); (case aB => exact (by repeat (first | (with_reducible first | exact HB.out | apply below_alloc | apply pw_below_drewN | apply below_drew1 | refine below_set ?_ GE210.out) | exact HB.out))); (case aF => exact (fun _ _ => trivial)); (case aO => exact (by (with_reducible repeat (first | apply Kd.R_alloc | apply Kd.R_drewN | apply Kd.R_drew)); exact Kd.R_mono (Kd.R_far (p := ⟨gb210, 2, none⟩) (Kd.R_far (p := ⟨gb210, 1, none⟩) (Kd.R_far (p := ⟨gb210, 0, none⟩) (Kd.R_types HO_3.out BK210.out (by decide)) (fun _ hk => hk.2) (.int .i64 ((rd_T56 l0 x9_1).f0))) (fun _ hk => hk.2) (.int .i64 ((rd_T56 l0 x9_1).f1))) (fun _ hk => hk.2) (.slice A209_2 ((rd_T56 l0 x9_1).f2).length c209_2)) (fun _ hk => trivial))); (case aS => exact (below_size (by repeat (first | (with_reducible first | exact HB.out | apply below_alloc | apply pw_below_drewN | apply below_drew1 | refine below_set ?_ GE210.out) | exact HB.out)))); (case aL => have := LMc5.out; omega); intro v212 w15 ho hb hg hat; rw [← Ny211.out] at ho; have n0_ := Aside0.mk (blk_grown (g := gb210) (o := .cells #[.int .i64 ((rd_T56 l0 x9_1).f0), .int .i64 ((rd_T56 l0 x9_1).f1), .slice A209_2 ((rd_T56 l0 x9_1).f2).length c209_2] 56 (0, 0)) (by (with_reducible repeat (first | refine blk_drewN ?_ _ | refine blk_drew ?_ | refine blk_alloc ?_ _)); refine blk_put (cs := #[.int .i64 ((rd_T56 l0 x9_1).f0), .int .i64 ((rd_T56 l0 x9_1).f1), .slice none 0 0]) ?_ 2 _ rfl; (with_reducible repeat (first | refine blk_drewN ?_ _ | refine blk_drew ?_ | refine blk_alloc ?_ _)); refine blk_put (cs := #[.int .i64 ((rd_T56 l0 x9_1).f0), .int .i64 0, .slice none 0 0]) ?_ 1 _ rfl; (with_reducible repeat (first | refine blk_drewN ?_ _ | refine blk_drew ?_ | refine blk_alloc ?_ _)); refine blk_put (cs := #[.int .i64 0, .int .i64 0, .slice none 0 0]) ?_ 0 _ rfl; (with_reducible repeat (first | refine blk_drewN ?_ _ | refine blk_drew ?_ | refine blk_alloc ?_ _)); exact BK210.out) hg (Kd.R_ne HO_3.out BK210.out (by decide))); have n1_ := Aside0.mk (hb); have n2_ := Aside0.mk (ho); clear BK210; clear HB; clear HO_3; have BK210 := n0_; have HB := n1_; have HO213 := n2_; clear n0_ n1_ n2_; clear ho hb hg hat; have hcz16_0 : w15.cell? ⟨gb210, 0, none⟩ = some (.int .i64 ((rd_T56 l0 x9_1).f0)) := (blk_cell BK210.out 0).trans rfl; have hcz16_1 : w15.cell? ⟨gb210, 1, none⟩ = some (.int .i64 ((rd_T56 l0 x9_1).f1)) := (blk_cell BK210.out 1).trans rfl; have hcz16_2 : w15.cell? ⟨gb210, 2, none⟩ = some (.slice A209_2 ((rd_T56 l0 x9_1).f2).length c209_2) := (blk_cell BK210.out 2).trans rfl; have hfz16_0 := blk_frozen BK210.out 0; have hfz16_1 := blk_frozen BK210.out 1; have hfz16_2 := blk_frozen BK210.out 2) | ((with_reducible refine gate_callee (f := 74) rfl ?_); refine goesL_ (some 20) rfl rfl Try.func74 (by kernel_rfl) rfl #[.int .i64 ((rd_T56 l0 x9_1).f0)] rfl (by (try simp only [List.map_toArray, List.map_cons, List.map_nil]); first | done | rfl | (simp only [List.length_drop, List.length_take]; rfl)) ?_; (with_reducible refine (spec_l3Opens.calls ((rd_T56 l0 x9_1).f0) false _ A6.out).mono ?_); rintro e w' ⟨rfl, ⟨nd, rfl⟩⟩; refine ⟨_, rfl, ?_⟩))
                  go_roundg k1
                  case measure => have := HK1.out; omega
                  case rel => exact ⟨(y211), (wrap64 (x4_1 - 1)), (wrap64 (x9_1 + 1)), (by first | rfl | (simp; done) | (simp [*]; done)), (by first | rfl | (simp; done) | (simp [*]; done)), H', ⟨by have := HK1.out; omega⟩, ⟨by (with_reducible repeat (first | apply Kd.R_alloc | apply Kd.R_drewN | apply Kd.R_drew)); exact HO213.out⟩, ⟨by repeat (first | (with_reducible first | exact HB.out | apply below_alloc | apply pw_below_drewN | apply below_drew1 | refine below_set ?_ GE210.out) | exact HB.out)⟩⟩
                · rw [if_neg c12] at H
                  have c12b0 : (((rd_T56 l0 x9_1).f0) == 19) = false := beq_eq_false_iff_ne.mpr c12
                  have c12b1 : (((rd_T56 l0 x9_1).f0) != 19) = true := bne_iff_ne.mpr c12
                  have H' := Aside0.mk H
                  clear H
                  have p209 : 0 ≤ (x9_1 : Int) := of_decide_eq_true (by first | (with_reducible assumption) | assumption)
                  have q209 : x9_1 < (l0.length : Int) := of_decide_eq_true (by first | (with_reducible assumption) | assumption)
                  obtain ⟨ad209, A209_2, c209_2, e209, hx209_0, hx209_1, hx209_2, hl209_2, hi209_2⟩ := at_T56 HR0.out x9_1 p209 q209
                  cases e209
                  replace hx209_0 := (HB.out.cell (World.block_lt_of_cell? w _ hx209_0)).trans hx209_0
                  replace hx209_1 := (HB.out.cell (World.block_lt_of_cell? w _ hx209_1)).trans hx209_1
                  replace hx209_2 := (HB.out.cell (World.block_lt_of_cell? w _ hx209_2)).trans hx209_2
                  have HR209_2 := Aside0.mk hi209_2
                  have HC209_2 := Aside0.mk hl209_2
                  clear hi209_2 hl209_2
                  replace p209 := eq_true p209
                  replace q209 := eq_true q209
                  go_wp2_with (first | ((with_reducible refine gate_dst (N := 6) rfl ?_); refine box_event ?hg (N := 6) ?hd (cs := #[.int .i64 0, .int .i64 0, .slice none 0 0]) (t := 56) ?hr ?_; (case hd => rfl); (case hg => rfl); (case hr => first | (go_simp; done) | (go_simp; rfl)); intro gb210 hg w17 hbox hb; have n0_ := Aside0.mk (Kd.R_below (by (with_reducible repeat (first | apply Kd.R_alloc | apply Kd.R_drewN | apply Kd.R_drew)); exact HO_3.out) hb); have n1_ := Aside0.mk (below_step (by repeat (first | (with_reducible first | exact HB.out | apply below_alloc | apply pw_below_drewN | apply below_drew1) | exact HB.out)) hb); have n2_ := Aside0.mk (hbox); have n3_ := Aside0.mk ((by rw [hg]; exact (below_size (by repeat (first | (with_reducible first | exact HB.out | apply below_alloc | apply pw_below_drewN | apply below_drew1) | exact HB.out))) : w.heap.size ≤ gb210)); have n4_ := Aside0.mk ((by rw [hg]; exact (below_size (by repeat (first | (with_reducible first | exact HB.out | apply below_alloc | apply pw_below_drewN | apply below_drew1) | exact HB.out))) : w.heap.size ≤ gb210)); clear HO_3; clear HB; have HO_3 := n0_; have HB := n1_; have BK210 := n2_; have GW210 := n3_; have GE210 := n4_; clear n0_ n1_ n2_ n3_ n4_; clear hb hbox hg; have hcz18_0 : w17.cell? ⟨gb210, 0, none⟩ = some (.int .i64 0) := (blk_cell BK210.out 0).trans rfl; have hcz18_1 : w17.cell? ⟨gb210, 1, none⟩ = some (.int .i64 0) := (blk_cell BK210.out 1).trans rfl; have hcz18_2 : w17.cell? ⟨gb210, 2, none⟩ = some (.slice none 0 0) := (blk_cell BK210.out 2).trans rfl; have hfz18_0 := blk_frozen BK210.out 0; have hfz18_1 := blk_frozen BK210.out 1; have hfz18_2 := blk_frozen BK210.out 2) | ((with_reducible refine gate_builtin (b := .append) (xs := #[.tmp 13, .tmp 15]) rfl ?_); at_builtin; refine Kd.R_append (Kd.int .i64) (w0 := w) w.heap.size rfl (.tmp 13) (.tmp 15) 29 3 (.int .i64 0) 8 rfl Try.underlying29 info3 rfl (by decide) (by omega) u3 x3_1 x4_1 [.int .i64 x4_1] (fun _ => True) (fun _ => False) rfl (by first | (go_simp; done) | (go_simp; rfl)) ?aP (fun _ hk => hk.elim) ?aF ?aO ?aB ?aS ?aL ?_; (case aP => exact rfl); (case aB => exact (by repeat (first | (with_reducible first | exact HB.out | apply below_alloc | apply pw_below_drewN | apply below_drew1 | refine below_set ?_ GE210.out) | exact HB.out))); (case aF => exact (fun _ _ => trivial)); (case aO => exact (by (with_reducible repeat (first | apply Kd.R_alloc | apply Kd.R_drewN | apply Kd.R_drew)); exact Kd.R_mono (Kd.R_far (p := ⟨gb210, 2, none⟩) (Kd.R_far (p := ⟨gb210, 1, none⟩) (Kd.R_far (p := ⟨gb210, 0, none⟩) (Kd.R_types HO_3.out BK210.out (by decide)) (fun _ hk => hk.2) (.int .i64 ((rd_T56 l0 x9_1).f0))) (fun _ hk => hk.2) (.int .i64 ((rd_T56 l0 x9_1).f1))) (fun _ hk => hk.2) (.slice A209_2 ((rd_T56 l0 x9_1).f2).length c209_2)) (fun _ hk => trivial))); (case aS => exact (below_size (by repeat (first | (with_reducible first | exact HB.out | apply below_alloc | apply pw_below_drewN | apply below_drew1 | refine below_set ?_ GE210.out) | exact HB.out)))); (case aL => have := LMc5.out; omega); intro v212 w19 ho hb hg hat; rw [← Ny211.out] at ho; have n0_ := Aside0.mk (blk_grown (g := gb210) (o := .cells #[.int .i64 ((rd_T56 l0 x9_1).f0), .int .i64 ((rd_T56 l0 x9_1).f1), .slice A209_2 ((rd_T56 l0 x9_1).f2).length c209_2] 56 (0, 0)) (by (with_reducible repeat (first | refine blk_drewN ?_ _ | refine blk_drew ?_ | refine blk_alloc ?_ _)); refine blk_put (cs := #[.int .i64 ((rd_T56 l0 x9_1).f0), .int .i64 ((rd_T56 l0 x9_1).f1), .slice none 0 0]) ?_ 2 _ rfl; (with_reducible repeat (first | refine blk_drewN ?_ _ | refine blk_drew ?_ | refine blk_alloc ?_ _)); refine blk_put (cs := #[.int .i64 ((rd_T56 l0 x9_1).f0), .int .i64 0, .slice none 0 0]) ?_ 1 _ rfl; (with_reducible repeat (first | refine blk_drewN ?_ _ | refine blk_drew ?_ | refine blk_alloc ?_ _)); refine blk_put (cs := #[.int .i64 0, .int .i64 0, .slice none 0 0]) ?_ 0 _ rfl; (with_reducible repeat (first | refine blk_drewN ?_ _ | refine blk_drew ?_ | refine blk_alloc ?_ _)); exact BK210.out) hg (Kd.R_ne HO_3.out BK210.out (by decide))); have n1_ := Aside0.mk (hb); have n2_ := Aside0.mk (ho); clear BK210; clear HB; clear HO_3; have BK210 := n0_; have HB := n1_; have HO213 := n2_; clear n0_ n1_ n2_; clear ho hb hg hat; have hcz20_0 : w19.cell? ⟨gb210, 0, none⟩ = some (.int .i64 ((rd_T56 l0 x9_1).f0)) := (blk_cell BK210.out 0).trans rfl; have hcz20_1 : w19.cell? ⟨gb210, 1, none⟩ = some (.int .i64 ((rd_T56 l0 x9_1).f1)) := (blk_cell BK210.out 1).trans rfl; have hcz20_2 : w19.cell? ⟨gb210, 2, none⟩ = some (.slice A209_2 ((rd_T56 l0 x9_1).f2).length c209_2) := (blk_cell BK210.out 2).trans rfl; have hfz20_0 := blk_frozen BK210.out 0; have hfz20_1 := blk_frozen BK210.out 1; have hfz20_2 := blk_frozen BK210.out 2) | ((with_reducible refine gate_callee (f := 74) rfl ?_); refine goesL_ (some 20) rfl rfl Try.func74 (by kernel_rfl) rfl #[.int .i64 ((rd_T56 l0 x9_1).f0)] rfl (by (try simp only [List.map_toArray, List.map_cons, List.map_nil]); first | done | rfl | (simp only [List.length_drop, List.length_take]; rfl)) ?_; (with_reducible refine (spec_l3Opens.calls ((rd_T56 l0 x9_1).f0) false _ A6.out).mono ?_); rintro e w' ⟨rfl, ⟨nd, rfl⟩⟩; refine ⟨_, rfl, ?_⟩))
                  go_roundg k1
                  case measure => have := HK1.out; omega
                  case rel => exact ⟨(y211), (x4_1), (wrap64 (x9_1 + 1)), (by first | rfl | (simp; done) | (simp [*]; done)), (by first | rfl | (simp; done) | (simp [*]; done)), H', ⟨by have := HK1.out; omega⟩, ⟨by (with_reducible repeat (first | apply Kd.R_alloc | apply Kd.R_drewN | apply Kd.R_drew)); exact HO213.out⟩, ⟨by repeat (first | (with_reducible first | exact HB.out | apply below_alloc | apply pw_below_drewN | apply below_drew1 | refine below_set ?_ GE210.out) | exact HB.out)⟩⟩
            · rw [if_neg c5] at H
              exact absurd H (by simp)
          · rw [if_neg c4] at H
            exact absurd H (by simp)
        · rw [if_neg c3] at H
          exact absurd H (by simp)
      · rw [if_neg c2] at H
        have c2b0 : decide (x9_1 < (l0.length : Int)) = false := decide_eq_false c2
        clear c2
        obtain rfl := Option.some.inj H
        go_wp2
        go_ret
        exact ⟨_, by first | rfl | (simp [errW_none, errW_some] <;> rfl) | (simp [*, errW_none, errW_some] <;> rfl), by (with_reducible repeat (first | apply Kd.R_alloc | apply Kd.R_drewN | apply Kd.R_drew)); exact HO_3.out, by repeat (first | (with_reducible first | exact HB.out | apply below_alloc | apply pw_below_drewN | apply below_drew1) | exact HB.out)⟩

end Go.Proofs.Ytmljikgegclolaa.Q
