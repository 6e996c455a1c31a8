-- WRITTEN BY A PROGRAM OF THIS SESSION
import Derived.Test.YtofokedphkmfnaaQ0
import Derived.Test.YtofokedphkmfnaaQ1
import Derived.Test.YtofokedphkmfnaaQ2
namespace Go.Proofs.Ytofokedphkmfnaa.Q
open Go.RowKit Go.Proofs.YtofokedphkmfnaaW.PrintWords Go.Proofs.YtofokedphkmfnaaW.PrintLast Go.Proofs.YtofokedphkmfnaaW.PrintMore
attribute [local go_sem] max2_int min2_int max_two min_two max_three min_three max_four min_four   -- for this text's walks alone
set_option linter.unusedVariables false
set_option linter.unusedSimpArgs false

/-! ### impl_PadU32: function 25 (by hand: '[]byte(s)' is a row of a mark of its own, so its cells are told one by one) -/
/-- A row of bytes that a call has made, told by its cells. -/
def padRow (w : World) (base : Nat) (v : Value) (xs : List Int) : Prop :=
  ∃ g cap, v = .slice (some ⟨g, 0, none⟩) xs.length cap ∧ base ≤ g ∧ g < w.heap.size ∧ xs.length ≤ cap ∧
    (∀ j, j < cap → (w.cell? ⟨g, j, none⟩).isSome = true ∧ w.frozen? ⟨g, j, none⟩ = false) ∧
    (∀ j, j < xs.length → w.cell? ⟨g, j, none⟩ = some (.int .u8 (xs.getD j 0)))
theorem padRow.below {w w1 : World} {base : Nat} {v : Value} {xs : List Int} (h : padRow w base v xs) (hb : Below w.heap.size w w1) : padRow w1 base v xs := by
  obtain ⟨g, cap, hv, h1, h2, h3, h4, h5⟩ := h
  have hg : w1.heap[g]? = w.heap[g]? := hb.block g h2
  have hc : ∀ j, w1.cell? ⟨g, j, none⟩ = w.cell? ⟨g, j, none⟩ := fun j => by simp only [World.cell?, hg]
  have hf : ∀ j, w1.frozen? ⟨g, j, none⟩ = w.frozen? ⟨g, j, none⟩ := fun j => by simp only [World.frozen?, hg]
  exact ⟨g, cap, hv, h1, Nat.lt_of_lt_of_le h2 hb.size, h3, fun j hj => by rw [hc, hf]; exact h4 j hj, fun j hj => by rw [hc]; exact h5 j hj⟩
theorem padRow.of_own {w : World} {base : Nat} {v : Value} {xs : List Int} (h : w.ownsRow base 5 1 v xs.length (xs.map fun x => Value.int .u8 x)) (hp : 0 < xs.length) : padRow w base v xs := by
  rcases h.2 with ⟨_, hn⟩ | ⟨g, cap, cur, hv, hb, hg, hnc, _, hcs, htake⟩
  · omega
  · have hlt := (Array.getElem?_eq_some_iff.1 hg).1
    have hcell := fun j => cell_of_row w g j cur 5 (0, 0) hg
    refine ⟨g, cap, hv, hb, hlt, hnc, fun j hj => ⟨?_, by simp [World.frozen?, hg]⟩, fun j hj => ?_⟩
    · rw [hcell j, Array.getElem?_eq_getElem (by omega)]; rfl
    · rw [hcell j]
      have e1 : (cur.toList.take (xs.length * 1))[j]? = some (.int .u8 (xs.getD j 0)) := by
        rw [htake, List.getElem?_map, List.getElem?_eq_getElem hj]; simp [List.getD_eq_getElem?_getD, List.getElem?_eq_getElem hj]
      rw [List.getElem?_take, if_pos (by omega)] at e1
      simpa using e1
theorem padRow.bytes (W : World) (base : Nat) (hb : base ≤ W.heap.size) (s : ByteArray) : padRow (Lib.bytesWorld W 5 s) base (.slice (some ⟨W.heap.size, 0, none⟩) s.size (grownCap W s.size 0 5)) (bytesOf s) := by
  have hge := grownCap_ge W s.size 0 5
  have hat := Lib.bytesWorld_at_new W 5 s
  have hsz : (Lib.bytesCells W 5 s).size = grownCap W s.size 0 5 := by simp [Lib.bytesCells]; show s.size + _ = _; omega
  have hcell := fun j => cell_of_row (Lib.bytesWorld W 5 s) W.heap.size j _ 5 _ hat
  refine ⟨W.heap.size, _, by rw [bytesOf_length], hb, by rw [Lib.bytesWorld_size]; omega, by rw [bytesOf_length]; exact hge, fun j hj => ⟨?_, ?_⟩, fun j hj => ?_⟩
  · rw [hcell j, Array.getElem?_eq_getElem (by omega)]; rfl
  · simp only [World.frozen?, hat, Bool.and_eq_false_iff, decide_eq_false_iff_not]; left; omega
  · rw [bytesOf_length] at hj
    rw [Lib.bytesWorld_cell W 5 s j hj]
    have h' : j < s.data.toList.length := by rw [data_length]; exact hj
    simp [bytesOf, List.getD_eq_getElem?_getD, List.getElem?_eq_getElem h']
theorem padRow.put {w : World} {base g n cap : Nat} {xs : List Int} (h : padRow w base (.slice (some ⟨g, 0, none⟩) n cap) xs) (i : Nat) (hi : i < xs.length) (x : Int) : padRow (w.setCell ⟨g, i, none⟩ (.int .u8 x)) base (.slice (some ⟨g, 0, none⟩) n cap) (xs.set i x) := by
  obtain ⟨g', cap', hv, h1, h2, h3, h4, h5⟩ := h
  injection hv with ha hn hc
  injection ha with ha
  injection ha with ha _ _
  subst ha; subst hc
  refine ⟨g, cap, by rw [hn, List.length_set], h1, by simpa [World.setCell] using h2, by rw [List.length_set]; exact h3, fun j hj => ?_, fun j hj => ?_⟩
  · rw [World.frozen?_setCell]
    refine ⟨?_, (h4 j hj).2⟩
    by_cases hji : j = i
    · subst hji
      rw [World.cell?_setCell_same _ _ _ (u := .int .u8 (xs.getD j 0)) (h5 j hi)]; rfl
    · rw [World.cell?_setCell_other _ _ _ _ (by intro e; injection e with _ e2 _; exact hji e2.symm)]
      exact (h4 j hj).1
  · rw [List.length_set] at hj
    by_cases hji : j = i
    · subst hji
      rw [World.cell?_setCell_same _ _ _ (u := .int .u8 (xs.getD j 0)) (h5 j hi)]
      simp [List.getD_eq_getElem?_getD, List.getElem?_set, hi]
    · rw [World.cell?_setCell_other _ _ _ _ (by intro e; injection e with _ e2 _; exact hji e2.symm), h5 j hj]
      simp [List.getD_eq_getElem?_getD, List.getElem?_set, Ne.symm hji]
theorem padRow.form {w : World} {base : Nat} {v : Value} {xs : List Int} (h : padRow w base v xs) : ∃ g cap, v = .slice (some ⟨g, 0, none⟩) xs.length cap := by
  obtain ⟨g, cap, hv, _⟩ := h; exact ⟨g, cap, hv⟩
theorem padRow.cells {w : World} {base g n cap : Nat} {xs : List Int} (h : padRow w base (.slice (some ⟨g, 0, none⟩) n cap) xs) : base ≤ g ∧ g < w.heap.size ∧ n = xs.length ∧ xs.length ≤ cap ∧ (∀ j, j < cap → (w.cell? ⟨g, j, none⟩).isSome = true ∧ w.frozen? ⟨g, j, none⟩ = false) ∧ (∀ j, j < xs.length → w.cell? ⟨g, j, none⟩ = some (.int .u8 (xs.getD j 0))) := by
  obtain ⟨g', cap', hv, h1, h2, h3, h4, h5⟩ := h
  injection hv with ha hn hc
  injection ha with ha
  injection ha with ha _ _
  subst ha; subst hc
  exact ⟨h1, h2, hn, h3, h4, h5⟩
def impl_PadU32.l0 : Nat → Int → List Int → Option (List Int)
  | 0, _, _ => none
  | k + 1, a1, x => if (x.length : Int) < a1 then (if 0 < x.length then (if x.length < 70368744177664 then (impl_PadU32.l0 k a1 ((x.set (x.length - 1) (Go.bits .or .u8 (x.getD (x.length - 1) 0) 128)) ++ [0])) else none) else none) else some x
def impl_PadU32.f (k : Nat) (a0 a1 : Int) : Option (ByteArray × Bool) := (impl_PutU32.f k a0).bind fun b => (if b.2 = true then ((impl_within.f a1 (b.1.size : Int) 5).bind fun t => (if t = true then ((impl_PadU32.l0 k a1 (bytesOf b.1)).bind fun x => (some (strOfNums x, true))) else (some ((⟨#[]⟩ : ByteArray), false)))) else (some ((⟨#[]⟩ : ByteArray), false)))
theorem impl_PadU32.mono_l : ∀ k, ∀ y0 y1, LeO (impl_PadU32.l0 k y0 y1) (impl_PadU32.l0 (k + 1) y0 y1)
  | 0 => fun _ _ r h => by simp [impl_PadU32.l0] at h
  | k + 1 => by
    have ih0 := impl_PadU32.mono_l k
    intro y0 y1
    unfold impl_PadU32.l0
    repeat' first
      | (with_reducible exact ih0 _ _)
      | (with_reducible exact LeO.refl _)
      | (with_reducible exact LeO.none _)
      | (with_reducible refine LeO.ite ?_ ?_)
theorem impl_PadU32.mono : ∀ a0 a1 k, LeO (impl_PadU32.f k a0 a1) (impl_PadU32.f (k + 1) a0 a1) := by
  intro a0 a1 k
  have ih0 := impl_PadU32.mono_l k
  unfold impl_PadU32.f
  repeat' first
      | (with_reducible exact ih0 _ _)
      | (with_reducible exact impl_PutU32.mono _ _)
      | (with_reducible exact LeO.refl _)
      | (with_reducible exact LeO.none _)
      | (with_reducible refine LeO.ite ?_ ?_)
      | (with_reducible refine LeO.bind ?_ (fun _ => ?_))
      | refine LeO.ite ?_ ?_
      | refine LeO.bind ?_ (fun _ => ?_)
/-- The append of one byte, in both its ways. -/
theorem padRow.append {P : Program} {ops : Array Oper} {rest : List Oper} {o : Oper} {a : Act} {Q : Exit → Act → World → Prop} {w0 W : World} (base : Nat) (hgd : o.guard = none) (s x : Operand)
    (ho : o.op = .call { callee := .builtin .append, args := #[s, x], argTypes := #[42, 42] }) (ht : P.underlying 42 = some (.slice 5)) (hinfo : (P.info? 5).map (fun i => (i.zero, i.size, i.bytes)) = some (some (.int .u8 0), 1, 1))
    (v : Value) (xs : List Int) (y : Int) (hs : a.eval s = v) (m : Nat) (hx : a.eval x = .slice (some ⟨m, 0, none⟩) 1 1) (hm : m = W.heap.size) (HO : padRow W base v xs) (HB : Below base w0 W) (hbase : base ≤ W.heap.size) (hl : xs.length < 70368744177664)
    (h : ∀ v1 w1, padRow w1 base v1 (xs ++ [y]) → Below base w0 w1 → wpList P ops Q rest (a.put o.dst v1) w1) :
    wpList P ops Q (o :: rest) a (W.alloc (.cells #[.int .u8 y] 5)) := by
  subst hm
  obtain ⟨i0, hi, hzz⟩ := Option.map_eq_some_iff.1 hinfo
  simp only [Prod.mk.injEq] at hzz
  obtain ⟨hz0, hz1, hz2⟩ := hzz
  obtain ⟨g, cap, hv⟩ := HO.form
  subst hv
  have HO2 := HO.below (below_alloc (Below.refl _ _) (.cells #[.int .u8 y] 5))
  obtain ⟨c1, c2, _, c3, c4, c5⟩ := HO2.cells
  obtain ⟨d1, d2, _⟩ := HO.cells
  have hnew : ∀ j u, [Value.int .u8 y][j]? = some u → (W.alloc (.cells #[.int .u8 y] 5)).cell? ((⟨W.heap.size, 0, none⟩ : Addr).add j) = some u := by
    simpa using World.news_of_block (cs := #[Value.int .u8 y]) (t := 5) (fr := (0, 0)) (heap_alloc_new W (.cells #[.int .u8 y] 5))
  refine wpList_append_arg (W.alloc (.cells #[.int .u8 y] 5)) hgd s x 42 ho 5 i0 (.int .u8 0) 1 1 ht hi hz0 hz1 hz2 rfl (by omega) g 0 xs.length cap (xs.map fun x => Value.int .u8 x) hs (by simp) ?_ ⟨W.heap.size, 0, none⟩ 1 1 [.int .u8 y] hx (by simp) hnew (by simp [Value.oneCell']) ?_ (by simp only [maxLen]; omega) (by omega) ?_ ?_
  · intro j u hu
    rw [List.getElem?_map] at hu
    by_cases hj : j < xs.length
    · rw [List.getElem?_eq_getElem hj] at hu
      simp only [Option.map_some, Option.some.injEq] at hu
      rw [Nat.zero_add, c5 j hj, ← hu]
      simp [List.getD_eq_getElem?_getD, List.getElem?_eq_getElem hj]
    · rw [List.getElem?_eq_none (by omega)] at hu; simp at hu
  · intro hr j hj
    simp only [List.length_cons, List.length_nil] at hj
    exact c4 _ (by omega)
  · intro hr
    have e1 : (W.alloc (.cells #[.int .u8 y] 5)).setCells g (0 + xs.length * 1) [.int .u8 y] = (W.alloc (.cells #[.int .u8 y] 5)).setCell ⟨g, xs.length, none⟩ (.int .u8 y) := by
      simp [World.setCells]
    rw [e1]
    have hc := (c4 xs.length (by omega))
    obtain ⟨u0, hu0⟩ := Option.isSome_iff_exists.1 hc.1
    refine h _ _ ⟨g, cap, by simp, c1, by simpa [World.setCell] using c2, by simp; omega, fun j hj => ?_, fun j hj => ?_⟩ ?_
    · rw [World.frozen?_setCell]
      refine ⟨?_, (c4 j hj).2⟩
      by_cases hji : j = xs.length
      · subst hji
        rw [World.cell?_setCell_same _ _ _ (u := u0) hu0]; rfl
      · rw [World.cell?_setCell_other _ _ _ _ (by intro e; injection e with _ e2 _; exact hji e2.symm)]
        exact (c4 j hj).1
    · by_cases hji : j = xs.length
      · subst hji
        rw [World.cell?_setCell_same _ _ _ (u := u0) hu0]
        simp [List.getD_eq_getElem?_getD]
      · rw [List.length_append, List.length_singleton] at hj
        rw [World.cell?_setCell_other _ _ _ _ (by intro e; injection e with _ e2 _; exact hji e2.symm), c5 j (by omega)]
        simp [List.getD_eq_getElem?_getD, List.getElem?_append_left (show j < xs.length by omega)]
    · exact (HB.alloc hbase _).setCell c1 _
  · intro hr v1 w1 hown hg
    refine h v1 w1 (padRow.of_own ?_ (by simp)) ?_
    · have e1 : (xs ++ [y]).map (fun x => Value.int .u8 x) = xs.map (fun x => Value.int .u8 x) ++ [.int .u8 y] := by simp
      rw [e1, List.length_append, List.length_singleton]
      exact own_weaken hown (by simp; omega)
    · exact (HB.alloc hbase _).grown hg (by simp; omega) (by simp)
set_option maxHeartbeats 8000000 in
set_option maxRecDepth 100000 in
theorem impl_PadU32.calls (k : Nat) (a0 a1 : Int) (r1 : ByteArray) (r2 : Bool) (w : World) (h : impl_PadU32.f k a0 a1 = some (r1, r2)) :
    Calls Try.prog 25 #[.int .i64 a0, .int .i64 a1] w fun e w' => e = .returned (.tuple #[.string r1, .bool r2]) ∧ Below w.heap.size w w' := by
  have HB := Aside0.mk (Below.refl w.heap.size w)
  unfold impl_PadU32.f at h
  obtain ⟨⟨b1, b2⟩, A1, H⟩ := Option.bind_eq_some_iff.mp h
  clear h
  have A := Aside0.mk A1
  clear A1
  dsimp only at H
  cases b2 with
  | false =>
    rw [if_neg (by decide)] at H
    simp only [Option.some.injEq, Prod.mk.injEq] at H
    obtain ⟨rfl, rfl⟩ := H
    go_enter Try.func25, Try.ntmps25
    go_wp2_with (first | ((with_reducible refine gate_callee (f := 19) rfl ?_); refine goesL_ (some 11) rfl rfl Try.func19 (by kernel_rfl) rfl #[.int .i64 a0] rfl (by (try simp only [List.map_toArray, List.map_cons, List.map_nil]); first | done | rfl) ?_; (with_reducible refine (impl_PutU32.calls k a0 b1 false w A.out).mono ?_); rintro e w6 ⟨rfl, hb⟩; refine ⟨_, rfl, ?_⟩))
    go_ret2
    exact ⟨by first | rfl | (simp [*]; done), hb⟩
  | true =>
    rw [if_pos rfl] at H
    obtain ⟨t, B1, H⟩ := Option.bind_eq_some_iff.mp H
    have B := Aside0.mk B1
    clear B1
    cases t with
    | false =>
      rw [if_neg (by decide)] at H
      simp only [Option.some.injEq, Prod.mk.injEq] at H
      obtain ⟨rfl, rfl⟩ := H
      go_enter Try.func25, Try.ntmps25
      go_wp2_with (first | ((with_reducible refine gate_callee (f := 19) rfl ?_); refine goesL_ (some 11) rfl rfl Try.func19 (by kernel_rfl) rfl #[.int .i64 a0] rfl (by (try simp only [List.map_toArray, List.map_cons, List.map_nil]); first | done | rfl) ?_; (with_reducible refine (impl_PutU32.calls k a0 b1 true w A.out).mono ?_); rintro e w6 ⟨rfl, hb⟩; refine ⟨_, rfl, ?_⟩) | (go_at_call 50; (with_reducible refine (impl_within.calls a1 b1.size 5 false _ B.out).mono ?_); rintro e w' ⟨rfl, ⟨nd, rfl⟩⟩))
      go_ret2
      exact ⟨by first | rfl | (simp [*]; done), by repeat (first | (with_reducible first | exact hb | apply below_alloc | apply pw_below_drewN | apply below_drew1) | exact hb)⟩
    | true =>
      rw [if_pos rfl] at H
      obtain ⟨x, C1, H⟩ := Option.bind_eq_some_iff.mp H
      have C := Aside0.mk C1
      clear C1
      simp only [Option.some.injEq, Prod.mk.injEq] at H
      obtain ⟨rfl, rfl⟩ := H
      have kb := fun W => print_bytes (P := Try.prog) 9 42 5 Try.underlying9 Try.underlying42 Try.underlying5 b1 W
      go_enter Try.func25, Try.ntmps25
      go_wp2_with (first | ((with_reducible refine gate_callee (f := 19) rfl ?_); refine goesL_ (some 11) rfl rfl Try.func19 (by kernel_rfl) rfl #[.int .i64 a0] rfl (by (try simp only [List.map_toArray, List.map_cons, List.map_nil]); first | done | rfl) ?_; (with_reducible refine (impl_PutU32.calls k a0 b1 true w A.out).mono ?_); rintro e w6 ⟨rfl, hb⟩; refine ⟨_, rfl, ?_⟩) | (go_at_call 50; (with_reducible refine (impl_within.calls a1 b1.size 5 true _ B.out).mono ?_); rintro e w' ⟨rfl, ⟨nd, rfl⟩⟩))
      have HBB := Aside0.mk (hb)
      clear hb
      go_loopg [8] k (fun kq v8 w' => ∃ (y : List Int), Aside0 (impl_PadU32.l0 kq a1 y = some x) ∧ Aside0 (kq ≤ k) ∧ Aside0 (padRow w' w.heap.size v8 y) ∧ Aside0 (Below w.heap.size w w'))
      case atStart =>
        have hB2 : Below w.heap.size w (w6.drewN nd) := by repeat (first | (with_reducible first | exact HBB.out | apply below_alloc | apply pw_below_drewN | apply below_drew1) | exact HBB.out)
        exact ⟨bytesOf b1, C, ⟨Nat.le_refl _⟩, ⟨padRow.bytes _ _ hB2.size b1⟩, ⟨bytes_below hB2 hB2.size 5 b1⟩⟩
      case round =>
        obtain ⟨y, HA, HK1, HO, HB2⟩ := hrel
        cases gk with
        | zero => exact absurd HA.out (by simp [impl_PadU32.l0])
        | succ k1 =>
          have H := HA.out
          clear HA
          simp only [impl_PadU32.l0] at H
          obtain ⟨g, cap, hv⟩ := HO.out.form
          subst hv
          have hcs := HO.out.cells
          by_cases c3 : (y.length : Int) < a1
          · rw [if_pos c3] at H
            have c3b0 : decide ((y.length : Int) < a1) = true := decide_eq_true c3
            by_cases c4 : 0 < y.length
            · rw [if_pos c4] at H
              by_cases c5 : y.length < 70368744177664
              · rw [if_pos c5] at H
                obtain ⟨d1, d2, _, d3, d4, d5⟩ := hcs
                have hx1 := d5 (y.length - 1) (by omega)
                have hf1 := (d4 (y.length - 1) (by omega)).2
                obtain ⟨q, hq⟩ : ∃ q, q = y.getD (y.length - 1) 0 := ⟨_, rfl⟩
                rw [← hq] at hx1 H
                have hqa := Aside0.mk hq
                clear hq
                have HP := Aside0.mk (HO.out.put (y.length - 1) (by omega) (Go.bits .or .u8 q 128))
                obtain ⟨z, hz⟩ : ∃ z, z = y.set (y.length - 1) (Go.bits .or .u8 q 128) := ⟨_, rfl⟩
                rw [← hz] at HP H
                have hzl : z.length = y.length := by rw [hz, List.length_set]
                have hza := Aside0.mk hz
                clear hz
                have H' := Aside0.mk H
                clear H d4 d5
                have hB3 := Aside0.mk (HB2.out.setCell (p := ⟨g, y.length - 1, none⟩) d1 (.int .u8 (Go.bits .or .u8 q 128)))
                go_wp2_with (first | ((with_reducible refine gate_builtin (b := .append) (xs := #[.tmp 37, .tmp 38]) rfl ?_); at_builtin; refine padRow.append (w0 := w) w.heap.size rfl (.tmp 37) (.tmp 38) rfl Try.underlying42 info5 (.slice (some ⟨g, 0, none⟩) y.length cap) z 0 rfl _ rfl (by simp [World.setCell]) HP.out hB3.out hB3.out.size (by rw [hzl]; omega) ?_; intro v1 w9 ho hb9; have HO9 := Aside0.mk ho; have HB9 := Aside0.mk hb9; clear ho hb9))
                go_roundg k1
                case measure => have := HK1.out; omega
                case rel => exact ⟨_, H', ⟨by have := HK1.out; omega⟩, HO9, HB9⟩
              · rw [if_neg c5] at H; simp at H
            · rw [if_neg c4] at H; simp at H
          · rw [if_neg c3] at H
            obtain rfl := Option.some.inj H
            have c3b0 : decide ((y.length : Int) < a1) = false := decide_eq_false c3
            obtain ⟨d1, d2, _, d3, d4, d5⟩ := hcs
            have hcv := run_convert_bytes_arg (P := Try.prog) wr 42 5 Try.underlying42 Try.underlying5 g 0 y.length cap y rfl (fun i hi => by rw [Nat.zero_add, d5 i hi]) 9 Try.underlying9
            clear d4 d5
            go_wp2
            go_ret2
            exact ⟨by first | rfl | (simp [*]; done), HB2.out⟩

/-! ### laws_FnExactPadU32: function 8 -/
def laws_FnExactPadU32.f (k : Nat) (a0 : Int) (a1 : Int) : Option (Bool) := (spec_PadU32.f k a0 a1).bind fun bt174 => ((impl_PadU32.f k a0 a1).bind fun bt176 => (if bt176.1.toList = bt174.1.toList then (if (bt176.2 != bt174.2) = true then (some false) else (some true)) else (some false)))
theorem laws_FnExactPadU32.mono : ∀ a0 a1 k, LeO (laws_FnExactPadU32.f k a0 a1) (laws_FnExactPadU32.f (k + 1) a0 a1) := by
  intro a0 a1 k
  unfold laws_FnExactPadU32.f
  repeat' first
      | (with_reducible exact impl_PadU32.mono _ _ _)
      | (with_reducible exact spec_PadU32.mono _ _ _)
      | (with_reducible exact LeO.refl _)
      | (with_reducible exact LeO.none _)
      | (with_reducible refine LeO.ite ?_ ?_)
      | (with_reducible refine LeO.bind ?_ (fun _ => ?_))
      | exact impl_PadU32.mono _ _ _
      | exact spec_PadU32.mono _ _ _
      | exact LeO.none _
      | refine LeO.ite ?_ ?_
      | refine LeO.bind ?_ (fun _ => ?_)
set_option maxHeartbeats 8000000 in
set_option maxRecDepth 100000 in
theorem laws_FnExactPadU32.calls (k : Nat) (a0 : Int) (a1 : Int) (r : Bool) (w : World) (h : laws_FnExactPadU32.f k a0 a1 = some r) :
    Calls Try.prog 8 #[.int .i64 a0, .int .i64 a1] w fun e w' => e = .returned (.bool r) ∧ Below w.heap.size w w' := by
  have HB := Aside0.mk (Below.refl w.heap.size w)
  have H : ((spec_PadU32.f k a0 a1).bind fun bt174 => ((impl_PadU32.f k a0 a1).bind fun bt176 => (if bt176.1.toList = bt174.1.toList then (if (bt176.2 != bt174.2) = true then (some false) else (some true)) else (some false)))) = some r := h
  clear h
  replace H := Option.bind_eq_some_iff.mp H
  obtain ⟨⟨t174, t175⟩, A30, H⟩ := H
  replace H : ((impl_PadU32.f k a0 a1).bind fun bt176 => (if bt176.1.toList = t174.toList then (if (bt176.2 != t175) = true then (some false) else (some true)) else (some false))) = some r := H
  have A3 := Aside0.mk A30
  clear A30
  replace H := Option.bind_eq_some_iff.mp H
  obtain ⟨⟨t176, t177⟩, A40, H⟩ := H
  replace H : (if t176.toList = t174.toList then (if (t177 != t175) = true then (some false) else (some true)) else (some false)) = some r := H
  have A4 := Aside0.mk A40
  clear A40
  by_cases c5 : t176.toList = t174.toList
  · rw [if_pos c5] at H
    have c5b0 : (t176.toList == t174.toList) = true := beq_iff_eq.mpr c5
    have c5b1 : (t176.toList != t174.toList) = false := bne_eq_false_iff_eq.mpr c5
    clear c5
    by_cases c6 : (t177 != t175) = true
    · rw [if_pos c6] at H
      have c6b0 : (t177 != t175) = true := c6
      (try (have c6b1 : decide (t177 = t175) = false := by simpa using c6))
      (try (have c6b2 : (t177 == t175) = false := by simpa using c6))
      (try (have c6b3 : ¬ (t177 = t175) := by simpa using c6))
      clear c6
      obtain rfl := Option.some.inj H
      go_enter Try.func8, Try.ntmps8
      go_wp2_with (first | ((with_reducible refine gate_callee (f := 24) rfl ?_); refine goesL_ (some 12) rfl rfl Try.func24 (by kernel_rfl) rfl #[.int .i64 a0, .int .i64 a1] rfl (by (try simp only [List.map_toArray, List.map_cons, List.map_nil]); first | done | rfl | (simp only [List.length_drop, List.length_take]; rfl)) ?_; (with_reducible refine (spec_PadU32.calls k a0 a1 t174 t175 _ A3.out).mono ?_); rintro e w7 ⟨rfl, hb⟩; refine ⟨_, rfl, ?_⟩; have n0_ := Aside0.mk (below_step (by repeat (first | (with_reducible first | exact HB.out | apply below_alloc | apply pw_below_drewN | apply below_drew1) | exact HB.out)) hb); clear HB; have HB := n0_; clear n0_; (try clear hb); (try clear hb2); (try clear hk); (try clear hi)) | ((with_reducible refine gate_callee (f := 25) rfl ?_); refine goesL_ (some 18) rfl rfl Try.func25 (by kernel_rfl) rfl #[.int .i64 a0, .int .i64 a1] rfl (by (try simp only [List.map_toArray, List.map_cons, List.map_nil]); first | done | rfl | (simp only [List.length_drop, List.length_take]; rfl)) ?_; (with_reducible refine (impl_PadU32.calls k a0 a1 t176 t177 _ A4.out).mono ?_); rintro e w8 ⟨rfl, hb⟩; refine ⟨_, rfl, ?_⟩; have n0_ := Aside0.mk (below_step (by repeat (first | (with_reducible first | exact HB.out | apply below_alloc | apply pw_below_drewN | apply below_drew1) | exact HB.out)) hb); clear HB; have HB := n0_; clear n0_; (try clear hb); (try clear hb2); (try clear hk); (try clear hi)))
      go_ret
      exact ⟨by first | rfl | (simp [errW_none, errW_some] <;> rfl) | (simp [*, errW_none, errW_some] <;> rfl), by repeat (first | (with_reducible first | exact HB.out | apply below_alloc | apply pw_below_drewN | apply below_drew1) | exact HB.out)⟩
    · rw [if_neg c6] at H
      have c6b0 : (t177 != t175) = false := by simpa using c6
      (try (have c6b1 : decide (t177 = t175) = true := by simpa using c6))
      (try (have c6b2 : (t177 == t175) = true := by simpa using c6))
      clear c6
      obtain rfl := Option.some.inj H
      go_enter Try.func8, Try.ntmps8
      go_wp2_with (first | ((with_reducible refine gate_callee (f := 24) rfl ?_); refine goesL_ (some 12) rfl rfl Try.func24 (by kernel_rfl) rfl #[.int .i64 a0, .int .i64 a1] rfl (by (try simp only [List.map_toArray, List.map_cons, List.map_nil]); first | done | rfl | (simp only [List.length_drop, List.length_take]; rfl)) ?_; (with_reducible refine (spec_PadU32.calls k a0 a1 t174 t175 _ A3.out).mono ?_); rintro e w9 ⟨rfl, hb⟩; refine ⟨_, rfl, ?_⟩; have n0_ := Aside0.mk (below_step (by repeat (first | (with_reducible first | exact HB.out | apply below_alloc | apply pw_below_drewN | apply below_drew1) | exact HB.out)) hb); clear HB; have HB := n0_; clear n0_; (try clear hb); (try clear hb2); (try clear hk); (try clear hi)) | ((with_reducible refine gate_callee (f := 25) rfl ?_); refine goesL_ (some 18) rfl rfl Try.func25 (by kernel_rfl) rfl #[.int .i64 a0, .int .i64 a1] rfl (by (try simp only [List.map_toArray, List.map_cons, List.map_nil]); first | done | rfl | (simp only [List.length_drop, List.length_take]; rfl)) ?_; (with_reducible refine (impl_PadU32.calls k a0 a1 t176 t177 _ A4.out).mono ?_); rintro e w10 ⟨rfl, hb⟩; refine ⟨_, rfl, ?_⟩; have n0_ := Aside0.mk (below_step (by repeat (first | (with_reducible first | exact HB.out | apply below_alloc | apply pw_below_drewN | apply below_drew1) | exact HB.out)) hb); clear HB; have HB := n0_; clear n0_; (try clear hb); (try clear hb2); (try clear hk); (try clear hi)))
      go_ret
      exact ⟨by first | rfl | (simp [errW_none, errW_some] <;> rfl) | (simp [*, errW_none, errW_some] <;> rfl), by repeat (first | (with_reducible first | exact HB.out | apply below_alloc | apply pw_below_drewN | apply below_drew1) | exact HB.out)⟩
  · rw [if_neg c5] at H
    have c5b0 : (t176.toList == t174.toList) = false := beq_eq_false_iff_ne.mpr c5
    have c5b1 : (t176.toList != t174.toList) = true := bne_iff_ne.mpr c5
    obtain rfl := Option.some.inj H
    go_enter Try.func8, Try.ntmps8
    go_wp2_with (first | ((with_reducible refine gate_callee (f := 24) rfl ?_); refine goesL_ (some 12) rfl rfl Try.func24 (by kernel_rfl) rfl #[.int .i64 a0, .int .i64 a1] rfl (by (try simp only [List.map_toArray, List.map_cons, List.map_nil]); first | done | rfl | (simp only [List.length_drop, List.length_take]; rfl)) ?_; (with_reducible refine (spec_PadU32.calls k a0 a1 t174 t175 _ A3.out).mono ?_); rintro e w11 ⟨rfl, hb⟩; refine ⟨_, rfl, ?_⟩; have n0_ := Aside0.mk (below_step (by repeat (first | (with_reducible first | exact HB.out | apply below_alloc | apply pw_below_drewN | apply below_drew1) | exact HB.out)) hb); clear HB; have HB := n0_; clear n0_; (try clear hb); (try clear hb2); (try clear hk); (try clear hi)) | ((with_reducible refine gate_callee (f := 25) rfl ?_); refine goesL_ (some 18) rfl rfl Try.func25 (by kernel_rfl) rfl #[.int .i64 a0, .int .i64 a1] rfl (by (try simp only [List.map_toArray, List.map_cons, List.map_nil]); first | done | rfl | (simp only [List.length_drop, List.length_take]; rfl)) ?_; (with_reducible refine (impl_PadU32.calls k a0 a1 t176 t177 _ A4.out).mono ?_); rintro e w12 ⟨rfl, hb⟩; refine ⟨_, rfl, ?_⟩; have n0_ := Aside0.mk (below_step (by repeat (first | (with_reducible first | exact HB.out | apply below_alloc | apply pw_below_drewN | apply below_drew1) | exact HB.out)) hb); clear HB; have HB := n0_; clear n0_; (try clear hb); (try clear hb2); (try clear hk); (try clear hi)))
    go_ret
    exact ⟨by first | rfl | (simp [errW_none, errW_some] <;> rfl) | (simp [*, errW_none, errW_some] <;> rfl), by repeat (first | (with_reducible first | exact HB.out | apply below_alloc | apply pw_below_drewN | apply below_drew1) | exact HB.out)⟩

/-- THE ONE PURE STATEMENT of laws_FnExactPadU32: yours. -/
def laws_FnExactPadU32.Pure : Prop := ∀ (a0 : Int) (a1 : Int), (Lit.int .i64 a0).wf = true → (Lit.int .i64 a1).wf = true → ∃ k, laws_FnExactPadU32.f k a0 a1 = some true
theorem laws_FnExactPadU32.walk (P : laws_FnExactPadU32.Pure) (a0 : Int) (a1 : Int) (w : World) (w0 : (Lit.int .i64 a0).wf = true) (w1 : (Lit.int .i64 a1).wf = true) :
    Calls Try.prog 8 #[.int .i64 a0, .int .i64 a1] w fun e w' => e = .returned (.bool true) ∧ Below w.heap.size w w' := by
  obtain ⟨k, h⟩ := P a0 a1 w0 w1
  refine (laws_FnExactPadU32.calls k a0 a1 true w h).mono ?_
  rintro e w' ⟨rfl, hd⟩
  exact ⟨rfl, hd⟩

/-! ### spec_l1Text: function 55 -/
def spec_l1Text.f (a0 : ByteArray) (a1 : Int) : Option (Bool) := if (a0.size : Int) ≤ 1000 then (if a1 ≥ 0 then (some (decide (a1 < (a0.size : Int)))) else (some false)) else (some false)
set_option maxHeartbeats 8000000 in
set_option maxRecDepth 100000 in
theorem spec_l1Text.calls (a0 : ByteArray) (a1 : Int) (r : Bool) (w : World) (h : spec_l1Text.f a0 a1 = some r) :
    Calls Try.prog 55 #[.string a0, .int .i64 a1] w fun e w' => e = .returned (.bool r) ∧ Drawn0 w w' := by
  have H : (if (a0.size : Int) ≤ 1000 then (if a1 ≥ 0 then (some (decide (a1 < (a0.size : Int)))) else (some false)) else (some false)) = some r := h
  clear h
  by_cases c3 : (a0.size : Int) ≤ 1000
  · rw [if_pos c3] at H
    have c3b0 : decide ((a0.size : Int) ≤ 1000) = true := decide_eq_true c3
    have c3b1 : decide (a0.size ≤ 1000) = true := decide_eq_true (by omega)
    clear c3
    by_cases c4 : a1 ≥ 0
    · rw [if_pos c4] at H
      have c4b0 : decide (0 ≤ a1) = true := decide_eq_true c4
      clear c4
      obtain rfl := Option.some.inj H
      go_enter Try.func55, Try.ntmps55
      go_wp2
      go_ret
      exact ⟨by first | rfl | (simp; done) | (simp [*]; done), by repeat (first | exact Drawn0.refl _ | apply Drawn0.step)⟩
    · rw [if_neg c4] at H
      have c4b0 : decide (0 ≤ a1) = false := decide_eq_false c4
      clear c4
      obtain rfl := Option.some.inj H
      go_enter Try.func55, Try.ntmps55
      go_wp2
      go_ret
      exact ⟨by first | rfl | (simp; done) | (simp [*]; done), by repeat (first | exact Drawn0.refl _ | apply Drawn0.step)⟩
  · rw [if_neg c3] at H
    have c3b0 : decide ((a0.size : Int) ≤ 1000) = false := decide_eq_false c3
    have c3b1 : decide (a0.size ≤ 1000) = false := decide_eq_false (by omega)
    clear c3
    obtain rfl := Option.some.inj H
    go_enter Try.func55, Try.ntmps55
    go_wp2
    go_ret
    exact ⟨by first | rfl | (simp; done) | (simp [*]; done), by repeat (first | exact Drawn0.refl _ | apply Drawn0.step)⟩

/-! ### spec_l1Take: function 56 -/
def spec_l1Take.l0 : Nat → ByteArray → Int → Int → Int → Option (Int × Int × Int)
  | 0, _, _, _, _ => none
  | k + 1, x0, x1, x7, x8 => if x8 < 5 then (if x1 ≥ (x0.size : Int) then (some (0, 0, 0)) else (if 0 ≤ x1 then (if x1 < (x0.size : Int) then (if 0 ≤ (IntKind.u64.wrap (wrap64 (7 * x8))) then (if (wrap64 (bt x0 x1)) < 128 then (some (Go.bits .or .i64 x7 (shl .i64 (Go.bits .and .i64 (wrap64 (bt x0 x1)) 127) (IntKind.u64.wrap (wrap64 (7 * x8)))), wrap64 ((wrap64 (7 * x8)) + 7), wrap64 (x1 + 1))) else (spec_l1Take.l0 k x0 (wrap64 (x1 + 1)) (Go.bits .or .i64 x7 (shl .i64 (Go.bits .and .i64 (wrap64 (bt x0 x1)) 127) (IntKind.u64.wrap (wrap64 (7 * x8))))) (wrap64 (x8 + 1)))) else (none)) else (none)) else (none))) else (some (0, 0, 0))
def spec_l1Take.f (k : Nat) (a0 : ByteArray) (a1 : Int) : Option (Int × Int × Int) := spec_l1Take.l0 k a0 a1 0 0
theorem spec_l1Take.mono_l : ∀ k, (∀ y0 y1 y2 y3, LeO (spec_l1Take.l0 k y0 y1 y2 y3) (spec_l1Take.l0 (k + 1) y0 y1 y2 y3))
  | 0 => fun _ _ _ _ r h => by simp [spec_l1Take.l0] at h
  | k + 1 => by
    have ih0 := spec_l1Take.mono_l k
    · intro y0 y1 y2 y3
      unfold spec_l1Take.l0
      repeat' first
      | (with_reducible exact ih0 _ _ _ _)
      | (with_reducible exact LeO.refl _)
      | (with_reducible exact LeO.none _)
      | (with_reducible refine LeO.ite ?_ ?_)
      | (with_reducible refine LeO.bind ?_ (fun _ => ?_))
      | exact ih0 _ _ _ _
      | exact LeO.none _
      | refine LeO.ite ?_ ?_
      | refine LeO.bind ?_ (fun _ => ?_)
theorem spec_l1Take.mono : ∀ a0 a1 k, LeO (spec_l1Take.f k a0 a1) (spec_l1Take.f (k + 1) a0 a1) := by
  intro a0 a1 k
  have ih0 := spec_l1Take.mono_l k
  unfold spec_l1Take.f
  repeat' first
      | (with_reducible exact ih0 _ _ _ _)
      | (with_reducible exact LeO.refl _)
      | (with_reducible exact LeO.none _)
      | (with_reducible refine LeO.ite ?_ ?_)
      | (with_reducible refine LeO.bind ?_ (fun _ => ?_))
      | exact ih0 _ _ _ _
      | exact LeO.none _
      | refine LeO.ite ?_ ?_
      | refine LeO.bind ?_ (fun _ => ?_)
set_option maxHeartbeats 8000000 in
set_option maxRecDepth 100000 in
theorem spec_l1Take.calls (k : Nat) (a0 : ByteArray) (a1 : Int) (r1 : Int) (r2 : Int) (r3 : Int) (w : World) (h : spec_l1Take.f k a0 a1 = some (r1, r2, r3)) :
    Calls Try.prog 56 #[.string a0, .int .i64 a1] w fun e w' => e = .returned (.tuple #[.int .i64 r1, .int .i64 r2, .int .i64 r3]) ∧ Drawn0 w w' := by
  have H : (spec_l1Take.l0 k a0 a1 0 0) = some (r1, r2, r3) := h
  clear h
  have H' := Aside0.mk H
  clear H
  go_enter Try.func56, Try.ntmps56
  go_wp2
  go_loopg [1, 7, 8] k (fun kq v1 v7 v8 w' => ∃ (x1_1 : Int) (x7_1 : Int) (x8_1 : Int), v1 = .int .i64 x1_1 ∧ v7 = .int .i64 x7_1 ∧ v8 = .int .i64 x8_1 ∧ Aside0 (spec_l1Take.l0 kq a0 x1_1 x7_1 x8_1 = some (r1, r2, r3)) ∧ Aside0 (kq ≤ k) ∧ Drawn0 w w')
  case atStart => exact ⟨(a1), (0), (0), (by first | rfl | (simp; done) | (simp [*]; done)), (by first | rfl | (simp; done) | (simp [*]; done)), (by first | rfl | (simp; done) | (simp [*]; done)), H', ⟨Nat.le_refl _⟩, by repeat (first | exact Drawn0.refl _ | apply Drawn0.step)⟩
  case round =>
    clear H'
    try clear p2
    obtain ⟨x1_1, x7_1, x8_1, rfl, rfl, rfl, HA, HK1, ⟨m1, rfl⟩⟩ := hrel
    cases gk with
    | zero => exact absurd HA.out (by simp [spec_l1Take.l0])
    | succ k1 =>
      have H := HA.out
      clear HA
      simp only [spec_l1Take.l0] at H
      by_cases c3 : x8_1 < 5
      · rw [if_pos c3] at H
        have c3b0 : decide (x8_1 < 5) = true := decide_eq_true c3
        clear c3
        by_cases c4 : x1_1 ≥ (a0.size : Int)
        · rw [if_pos c4] at H
          have c4b0 : decide ((a0.size : Int) ≤ x1_1) = true := decide_eq_true c4
          clear c4
          simp only [Option.some.injEq, Prod.mk.injEq] at H
          obtain ⟨rfl, rfl, rfl⟩ := H
          go_wp2
          go_ret3
          exact ⟨by first | rfl | (simp; done) | (simp [*]; done), by repeat (first | exact Drawn0.refl _ | apply Drawn0.step)⟩
        · rw [if_neg c4] at H
          have c4b0 : decide ((a0.size : Int) ≤ x1_1) = false := decide_eq_false c4
          clear c4
          by_cases c5 : 0 ≤ x1_1
          · rw [if_pos c5] at H
            have c5b0 : decide (0 ≤ x1_1) = true := decide_eq_true c5
            clear c5
            by_cases c6 : x1_1 < (a0.size : Int)
            · rw [if_pos c6] at H
              have c6b0 : decide (x1_1 < (a0.size : Int)) = true := decide_eq_true c6
              clear c6
              obtain ⟨ji8, hji8⟩ : ∃ j_ : Int, (IntKind.u64.wrap (wrap64 (7 * x8_1))) = j_ := ⟨_, rfl⟩
              replace H : (if 0 ≤ (ji8) then (if (wrap64 (bt a0 x1_1)) < 128 then (some (Go.bits .or .i64 x7_1 (shl .i64 (Go.bits .and .i64 (wrap64 (bt a0 x1_1)) 127) (ji8)), wrap64 ((wrap64 (7 * x8_1)) + 7), wrap64 (x1_1 + 1))) else (spec_l1Take.l0 k1 a0 (wrap64 (x1_1 + 1)) (Go.bits .or .i64 x7_1 (shl .i64 (Go.bits .and .i64 (wrap64 (bt a0 x1_1)) 127) (ji8))) (wrap64 (x8_1 + 1)))) else (none)) = some (r1, r2, r3) := by first | (rw [hji8] at H; exact H) | (simp only [hji8] at H ⊢; exact H)
              by_cases c9 : 0 ≤ (ji8)
              · rw [if_pos c9] at H
                have c9b0 := eq_true c9
                have c9b1 : decide (0 ≤ (ji8)) = true := decide_eq_true c9
                clear c9
                obtain ⟨ji10, hji10⟩ : ∃ j_ : Int, (shl .i64 (Go.bits .and .i64 (wrap64 (bt a0 x1_1)) 127) (ji8)) = j_ := ⟨_, rfl⟩
                replace H : (if (wrap64 (bt a0 x1_1)) < 128 then (some (Go.bits .or .i64 x7_1 (ji10), wrap64 ((wrap64 (7 * x8_1)) + 7), wrap64 (x1_1 + 1))) else (spec_l1Take.l0 k1 a0 (wrap64 (x1_1 + 1)) (Go.bits .or .i64 x7_1 (ji10)) (wrap64 (x8_1 + 1)))) = some (r1, r2, r3) := by first | (rw [hji10] at H; exact H) | (simp only [hji10] at H ⊢; exact H)
                have hji10_ : (IntKind.i64.wrap ((Go.bits .and .i64 (wrap64 (bt a0 x1_1)) 127) * 2 ^ min (ji8).toNat 64)) = ji10 := hji10
                have hji10z : (ji8) ≤ 64 → (IntKind.i64.wrap ((Go.bits .and .i64 (wrap64 (bt a0 x1_1)) 127) * 2 ^ (ji8).toNat)) = ji10 := shl_small hji10
                have hji10y : (wrap64 ((Go.bits .and .i64 (wrap64 (bt a0 x1_1)) 127) * 2 ^ min (ji8).toNat 64)) = ji10 := (i64_w _).symm.trans hji10_
                have hji10x : (ji8) ≤ 64 → (wrap64 ((Go.bits .and .i64 (wrap64 (bt a0 x1_1)) 127) * 2 ^ (ji8).toNat)) = ji10 := fun h_ => (i64_w _).symm.trans (hji10z h_)
                by_cases c11 : (wrap64 (bt a0 x1_1)) < 128
                · rw [if_pos c11] at H
                  have c11b0 : decide ((wrap64 (bt a0 x1_1)) < 128) = true := decide_eq_true c11
                  clear c11
                  simp only [Option.some.injEq, Prod.mk.injEq] at H
                  obtain ⟨rfl, rfl, rfl⟩ := H
                  have p7 : 0 ≤ (x1_1 : Int) := of_decide_eq_true (by first | (with_reducible assumption) | assumption)
                  have q7 : x1_1 < (a0.size : Int) := of_decide_eq_true (by first | (with_reducible assumption) | assumption)
                  have hx7 := bt_at a0 x1_1
                  replace p7 := eq_true p7
                  replace q7 := eq_true q7
                  go_wp2
                  go_ret3
                  exact ⟨by first | rfl | (simp; done) | (simp only [← hji8, ← hji10] <;> (first | rfl | simp)) | (simp [*]; done), by repeat (first | exact Drawn0.refl _ | apply Drawn0.step)⟩
                · rw [if_neg c11] at H
                  have c11b0 : decide ((wrap64 (bt a0 x1_1)) < 128) = false := decide_eq_false c11
                  clear c11
                  have H' := Aside0.mk H
                  clear H
                  have p7 : 0 ≤ (x1_1 : Int) := of_decide_eq_true (by first | (with_reducible assumption) | assumption)
                  have q7 : x1_1 < (a0.size : Int) := of_decide_eq_true (by first | (with_reducible assumption) | assumption)
                  have hx7 := bt_at a0 x1_1
                  replace p7 := eq_true p7
                  replace q7 := eq_true q7
                  go_wp2
                  go_roundg k1
                  case measure => have := HK1.out; omega
                  case rel => exact ⟨(wrap64 (x1_1 + 1)), (Go.bits .or .i64 x7_1 (ji10)), (wrap64 (x8_1 + 1)), (by first | rfl | (simp; done) | (simp [*]; done)), (by first | rfl | (simp; done) | (simp only [← hji10] <;> (first | rfl | simp)) | (simp [*]; done)), (by first | rfl | (simp; done) | (simp [*]; done)), H', ⟨by have := HK1.out; omega⟩, by repeat (first | exact Drawn0.refl _ | apply Drawn0.step)⟩
              · rw [if_neg c9] at H
                exact absurd H (by simp)
            · rw [if_neg c6] at H
              exact absurd H (by simp)
          · rw [if_neg c5] at H
            exact absurd H (by simp)
      · rw [if_neg c3] at H
        have c3b0 : decide (x8_1 < 5) = false := decide_eq_false c3
        clear c3
        simp only [Option.some.injEq, Prod.mk.injEq] at H
        obtain ⟨rfl, rfl, rfl⟩ := H
        go_wp2
        go_ret3
        exact ⟨by first | rfl | (simp; done) | (simp [*]; done), by repeat (first | exact Drawn0.refl _ | apply Drawn0.step)⟩

/-! ### spec_TakeU32: function 26 -/
def spec_TakeU32.f (k : Nat) (a0 : ByteArray) (a1 : Int) : Option (Int × Int × Bool) := (spec_l1Text.f a0 a1).bind fun t178 => (if t178 = true then ((spec_l1Take.f k a0 a1).bind fun bt179 => (if bt179.2.2 = 0 then (some (0, 0, false)) else ((spec_l1U32.f bt179.1).bind fun t182 => (if t182 = true then (some (bt179.1, bt179.2.2, true)) else (some (0, 0, false)))))) else (some (0, 0, false)))
theorem spec_TakeU32.mono : ∀ a0 a1 k, LeO (spec_TakeU32.f k a0 a1) (spec_TakeU32.f (k + 1) a0 a1) := by
  intro a0 a1 k
  unfold spec_TakeU32.f
  repeat' first
      | (with_reducible exact spec_l1Take.mono _ _ _)
      | (with_reducible exact LeO.refl _)
      | (with_reducible exact LeO.none _)
      | (with_reducible refine LeO.ite ?_ ?_)
      | (with_reducible refine LeO.bind ?_ (fun _ => ?_))
      | exact spec_l1Take.mono _ _ _
      | exact LeO.none _
      | refine LeO.ite ?_ ?_
      | refine LeO.bind ?_ (fun _ => ?_)
set_option maxHeartbeats 8000000 in
set_option maxRecDepth 100000 in
theorem spec_TakeU32.calls (k : Nat) (a0 : ByteArray) (a1 : Int) (r1 : Int) (r2 : Int) (r3 : Bool) (w : World) (h : spec_TakeU32.f k a0 a1 = some (r1, r2, r3)) :
    Calls Try.prog 26 #[.string a0, .int .i64 a1] w fun e w' => e = .returned (.tuple #[.int .i64 r1, .int .i64 r2, .bool r3]) ∧ Drawn0 w w' := by
  have H : ((spec_l1Text.f a0 a1).bind fun t178 => (if t178 = true then ((spec_l1Take.f k a0 a1).bind fun bt179 => (if bt179.2.2 = 0 then (some (0, 0, false)) else ((spec_l1U32.f bt179.1).bind fun t182 => (if t182 = true then (some (bt179.1, bt179.2.2, true)) else (some (0, 0, false)))))) else (some (0, 0, false)))) = some (r1, r2, r3) := h
  clear h
  replace H := Option.bind_eq_some_iff.mp H
  obtain ⟨t178, A30, H⟩ := H
  replace H : (if t178 = true then ((spec_l1Take.f k a0 a1).bind fun bt179 => (if bt179.2.2 = 0 then (some (0, 0, false)) else ((spec_l1U32.f bt179.1).bind fun t182 => (if t182 = true then (some (bt179.1, bt179.2.2, true)) else (some (0, 0, false)))))) else (some (0, 0, false))) = some (r1, r2, r3) := H
  have A3 := Aside0.mk A30
  clear A30
  by_cases c4 : t178 = true
  · subst c4
    have H1 : ((spec_l1Take.f k a0 a1).bind fun bt179 => (if bt179.2.2 = 0 then (some (0, 0, false)) else ((spec_l1U32.f bt179.1).bind fun t182 => (if t182 = true then (some (bt179.1, bt179.2.2, true)) else (some (0, 0, false)))))) = some (r1, r2, r3) := by rw [if_pos rfl] at H; exact H
    clear H
    have H := H1
    clear H1
    replace H := Option.bind_eq_some_iff.mp H
    obtain ⟨⟨t179, t180, t181⟩, A50, H⟩ := H
    replace H : (if t181 = 0 then (some (0, 0, false)) else ((spec_l1U32.f t179).bind fun t182 => (if t182 = true then (some (t179, t181, true)) else (some (0, 0, false))))) = some (r1, r2, r3) := H
    have A5 := Aside0.mk A50
    clear A50
    by_cases c6 : t181 = 0
    · rw [if_pos c6] at H
      have c6b0 : (t181 == 0) = true := beq_iff_eq.mpr c6
      have c6b1 : (t181 != 0) = false := bne_eq_false_iff_eq.mpr c6
      clear c6
      simp only [Option.some.injEq, Prod.mk.injEq] at H
      obtain ⟨rfl, rfl, rfl⟩ := H
      go_enter Try.func26, Try.ntmps26
      go_wp2_with (first | ((with_reducible refine gate_callee (f := 55) rfl ?_); refine goesL_ (some 12) rfl rfl Try.func55 (by kernel_rfl) rfl #[.string a0, .int .i64 a1] rfl (by (try simp only [List.map_toArray, List.map_cons, List.map_nil]); first | done | rfl | (simp only [List.length_drop, List.length_take]; rfl)) ?_; (with_reducible refine (spec_l1Text.calls a0 a1 true _ A3.out).mono ?_); rintro e w' ⟨rfl, ⟨nd, rfl⟩⟩; refine ⟨_, rfl, ?_⟩) | ((with_reducible refine gate_callee (f := 56) rfl ?_); refine goesL_ (some 17) rfl rfl Try.func56 (by kernel_rfl) rfl #[.string a0, .int .i64 a1] rfl (by (try simp only [List.map_toArray, List.map_cons, List.map_nil]); first | done | rfl | (simp only [List.length_drop, List.length_take]; rfl)) ?_; (with_reducible refine (spec_l1Take.calls k a0 a1 t179 t180 t181 _ A5.out).mono ?_); rintro e w' ⟨rfl, ⟨nd, rfl⟩⟩; refine ⟨_, rfl, ?_⟩))
      go_ret3
      exact ⟨by first | rfl | (simp; done) | (simp [*]; done), by repeat (first | exact Drawn0.refl _ | apply Drawn0.step)⟩
    · rw [if_neg c6] at H
      have c6b0 : (t181 == 0) = false := beq_eq_false_iff_ne.mpr c6
      have c6b1 : (t181 != 0) = true := bne_iff_ne.mpr c6
      replace H := Option.bind_eq_some_iff.mp H
      obtain ⟨t182, A70, H⟩ := H
      replace H : (if t182 = true then (some (t179, t181, true)) else (some (0, 0, false))) = some (r1, r2, r3) := H
      have A7 := Aside0.mk A70
      clear A70
      by_cases c8 : t182 = true
      · subst c8
        have H1 : (some (t179, t181, true)) = some (r1, r2, r3) := by rw [if_pos rfl] at H; exact H
        clear H
        have H := H1
        clear H1
        simp only [Option.some.injEq, Prod.mk.injEq] at H
        obtain ⟨rfl, rfl, rfl⟩ := H
        go_enter Try.func26, Try.ntmps26
        go_wp2_with (first | ((with_reducible refine gate_callee (f := 55) rfl ?_); refine goesL_ (some 12) rfl rfl Try.func55 (by kernel_rfl) rfl #[.string a0, .int .i64 a1] rfl (by (try simp only [List.map_toArray, List.map_cons, List.map_nil]); first | done | rfl | (simp only [List.length_drop, List.length_take]; rfl)) ?_; (with_reducible refine (spec_l1Text.calls a0 a1 true _ A3.out).mono ?_); rintro e w' ⟨rfl, ⟨nd, rfl⟩⟩; refine ⟨_, rfl, ?_⟩) | ((with_reducible refine gate_callee (f := 56) rfl ?_); refine goesL_ (some 17) rfl rfl Try.func56 (by kernel_rfl) rfl #[.string a0, .int .i64 a1] rfl (by (try simp only [List.map_toArray, List.map_cons, List.map_nil]); first | done | rfl | (simp only [List.length_drop, List.length_take]; rfl)) ?_; (with_reducible refine (spec_l1Take.calls k a0 a1 t179 t180 t181 _ A5.out).mono ?_); rintro e w' ⟨rfl, ⟨nd, rfl⟩⟩; refine ⟨_, rfl, ?_⟩) | (go_at_call 51; (with_reducible refine (spec_l1U32.calls t179 true _ A7.out).mono ?_); rintro e w' ⟨rfl, ⟨nd, rfl⟩⟩))
        go_ret3
        exact ⟨by first | rfl | (simp; done) | (simp [*]; done), by repeat (first | exact Drawn0.refl _ | apply Drawn0.step)⟩
      · replace c8 := Bool.eq_false_iff.mpr c8
        subst c8
        have H1 : (some (0, 0, false)) = some (r1, r2, r3) := by rw [if_neg (show ¬ (false = true) by decide)] at H; exact H
        clear H
        have H := H1
        clear H1
        simp only [Option.some.injEq, Prod.mk.injEq] at H
        obtain ⟨rfl, rfl, rfl⟩ := H
        go_enter Try.func26, Try.ntmps26
        go_wp2_with (first | ((with_reducible refine gate_callee (f := 55) rfl ?_); refine goesL_ (some 12) rfl rfl Try.func55 (by kernel_rfl) rfl #[.string a0, .int .i64 a1] rfl (by (try simp only [List.map_toArray, List.map_cons, List.map_nil]); first | done | rfl | (simp only [List.length_drop, List.length_take]; rfl)) ?_; (with_reducible refine (spec_l1Text.calls a0 a1 true _ A3.out).mono ?_); rintro e w' ⟨rfl, ⟨nd, rfl⟩⟩; refine ⟨_, rfl, ?_⟩) | ((with_reducible refine gate_callee (f := 56) rfl ?_); refine goesL_ (some 17) rfl rfl Try.func56 (by kernel_rfl) rfl #[.string a0, .int .i64 a1] rfl (by (try simp only [List.map_toArray, List.map_cons, List.map_nil]); first | done | rfl | (simp only [List.length_drop, List.length_take]; rfl)) ?_; (with_reducible refine (spec_l1Take.calls k a0 a1 t179 t180 t181 _ A5.out).mono ?_); rintro e w' ⟨rfl, ⟨nd, rfl⟩⟩; refine ⟨_, rfl, ?_⟩) | (go_at_call 51; (with_reducible refine (spec_l1U32.calls t179 false _ A7.out).mono ?_); rintro e w' ⟨rfl, ⟨nd, rfl⟩⟩))
        go_ret3
        exact ⟨by first | rfl | (simp; done) | (simp [*]; done), by repeat (first | exact Drawn0.refl _ | apply Drawn0.step)⟩
  · replace c4 := Bool.eq_false_iff.mpr c4
    subst c4
    have H1 : (some (0, 0, false)) = some (r1, r2, r3) := by rw [if_neg (show ¬ (false = true) by decide)] at H; exact H
    clear H
    have H := H1
    clear H1
    simp only [Option.some.injEq, Prod.mk.injEq] at H
    obtain ⟨rfl, rfl, rfl⟩ := H
    go_enter Try.func26, Try.ntmps26
    go_wp2_with (first | ((with_reducible refine gate_callee (f := 55) rfl ?_); refine goesL_ (some 12) rfl rfl Try.func55 (by kernel_rfl) rfl #[.string a0, .int .i64 a1] rfl (by (try simp only [List.map_toArray, List.map_cons, List.map_nil]); first | done | rfl | (simp only [List.length_drop, List.length_take]; rfl)) ?_; (with_reducible refine (spec_l1Text.calls a0 a1 false _ A3.out).mono ?_); rintro e w' ⟨rfl, ⟨nd, rfl⟩⟩; refine ⟨_, rfl, ?_⟩))
    go_ret3
    exact ⟨by first | rfl | (simp; done) | (simp [*]; done), by repeat (first | exact Drawn0.refl _ | apply Drawn0.step)⟩

end Go.Proofs.Ytofokedphkmfnaa.Q
